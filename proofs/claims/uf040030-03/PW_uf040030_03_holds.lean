import PyProof.Rows.All
import Wide.All
import Wide.FinOn
import Open.Line
import Lean
import PySem.Challenge.RW_uf040030_03

/-! LM1 -/
open PySem
set_option Elab.async false
set_option autoImplicit false
namespace Mine
noncomputable section

/-! plain data -/
inductive D where
  | none
  | bool (b : Bool)
  | int (i : Int)
  | str (x : String)
  | tup (ds : List D)
  | rng (n : Nat)
  | ref (a : Addr)
  | val (v : Value)
  deriving Inhabited

mutual
/-- a value bears a datum -/
inductive Is (h : Heap) : D → Value → Prop
  | none : Is h .none .none
  | bool (b : Bool) : Is h (.bool b) (.bool b)
  | int (i : Int) (t : Tok) : Is h (.int i) (.int i t)
  | str (x : String) (t : Tok) : Is h (.str x) (.str (Str.ofString x) t)
  | tup {ds : List D} {a : Addr} {vs : List Value} {n : Nat} : h.get? a = some { cls := .type "tuple", data := .seq vs.toArray n } → IsAll h ds vs → Is h (.tup ds) (.ref a)
  | rng {n : Nat} {a : Addr} {t u v : Tok} : h.get? a = some { cls := .type "range", data := .fields #[.int 0 t, .int n u, .int 1 v] } → Is h (.rng n) (.ref a)
  | ref (a : Addr) : Is h (.ref a) (.ref a)
  | val (v : Value) : Is h (.val v) v
inductive IsAll (h : Heap) : List D → List Value → Prop
  | nil : IsAll h [] []
  | cons {d : D} {ds : List D} {v : Value} {vs : List Value} : Is h d v → IsAll h ds vs → IsAll h (d :: ds) (v :: vs)
end

def frozen (o : Obj) : Bool := match o.data with
  | .seq .. => o.cls == .type "tuple"
  | .fields .. => o.cls == .type "range"
  | _ => false
theorem ofString_inj {x y : String} (h : Str.ofString x = Str.ofString y) : x = y := by
  rw [Str.ofString_eq_toList, Str.ofString_eq_toList] at h
  injection h with h
  have h := congrArg Array.toList h
  simp only at h
  apply String.toList_injective
  have hm : ∀ (l l' : List Char), l.map Char.toNat = l'.map Char.toNat → l = l' := by
    intro l
    induction l with
    | nil => intro l' e; cases l' with | nil => rfl | cons c r => simp at e
    | cons c r ih =>
      intro l' e
      cases l' with
      | nil => simp at e
      | cons c' r' =>
        simp only [List.map_cons, List.cons.injEq] at e
        rw [ih r' e.2, Char.toNat_inj.mp e.1]
  exact hm _ _ h
theorem ofString_iff {x y : String} : Str.ofString x = Str.ofString y ↔ x = y := ⟨ofString_inj, fun e => by rw [e]⟩
/-- what never changes is kept -/
def Grow (h h' : Heap) : Prop := ∀ a o, h.get? a = some o → frozen o = true → h'.get? a = some o

theorem Grow.refl (h : Heap) : Grow h h := fun _ _ e _ => e
theorem Grow.trans {h h' h'' : Heap} (x : Grow h h') (y : Grow h' h'') : Grow h h'' := fun a o e f => y a o (x a o e f) f
theorem Grow.of_keeps {h h' : Heap} (k : ∀ b o, h.get? b = some o → h'.get? b = some o) : Grow h h' := fun a o e _ => k a o e
theorem Grow.extBut {h h' : Heap} {a : Addr} (k : Heap.ExtBut a h h') (hf : ∀ o, h.get? a = some o → frozen o = false) : Grow h h' := fun b o e f => by
  by_cases hb : b = a
  · subst hb; rw [hf o e] at f; cases f
  · exact k b o hb e

mutual
theorem Is.grow {h h' : Heap} (g : Grow h h') : ∀ {d : D} {v : Value}, Is h d v → Is h' d v
  | _, _, .none => .none
  | _, _, .bool b => .bool b
  | _, _, .int i t => .int i t
  | _, _, .str x t => .str x t
  | _, _, .tup e r => .tup (g _ _ e rfl) (IsAll.grow g r)
  | _, _, .rng e => .rng (g _ _ e rfl)
  | _, _, .ref a => .ref a
  | _, _, .val v => .val v
theorem IsAll.grow {h h' : Heap} (g : Grow h h') : ∀ {ds : List D} {vs : List Value}, IsAll h ds vs → IsAll h' ds vs
  | _, _, .nil => .nil
  | _, _, .cons x r => .cons (Is.grow g x) (IsAll.grow g r)
end

theorem IsAll.length {h : Heap} : ∀ {ds : List D} {vs : List Value}, IsAll h ds vs → ds.length = vs.length
  | _, _, .nil => rfl
  | _, _, .cons _ r => by rw [List.length_cons, List.length_cons, r.length]
theorem IsAll.append {h : Heap} : ∀ {ds es : List D} {vs ws : List Value}, IsAll h ds vs → IsAll h es ws → IsAll h (ds ++ es) (vs ++ ws)
  | _, _, _, _, .nil, k => k
  | _, _, _, _, .cons x r, k => .cons x (r.append k)
theorem IsAll.get {h : Heap} : ∀ {ds : List D} {vs : List Value} {i : Nat} {d : D}, IsAll h ds vs → ds[i]? = some d → ∃ v, vs[i]? = some v ∧ Is h d v
  | _, _, i, d, .nil, e => by simp at e
  | _, _, 0, d, .cons x r, e => by simp at e; subst e; exact ⟨_, rfl, x⟩
  | _, _, i + 1, d, .cons x r, e => by simp at e; obtain ⟨v, e1, e2⟩ := r.get e; exact ⟨v, by simpa using e1, e2⟩
theorem IsAll.get' {h : Heap} : ∀ {ds : List D} {vs : List Value} {i : Nat} {v : Value}, IsAll h ds vs → vs[i]? = some v → ∃ d, ds[i]? = some d ∧ Is h d v
  | _, _, i, d, .nil, e => by simp at e
  | _, _, 0, d, .cons x r, e => by simp at e; subst e; exact ⟨_, rfl, x⟩
  | _, _, i + 1, d, .cons x r, e => by simp at e; obtain ⟨v, e1, e2⟩ := r.get' e; exact ⟨v, by simpa using e1, e2⟩
theorem IsAll.take {h : Heap} : ∀ {ds : List D} {vs : List Value}, IsAll h ds vs → ∀ n, IsAll h (ds.take n) (vs.take n)
  | _, _, .nil, n => by simp; exact .nil
  | _, _, .cons x r, 0 => by simp; exact .nil
  | _, _, .cons x r, n + 1 => by simp; exact .cons x (r.take n)
theorem IsAll.drop {h : Heap} : ∀ {ds : List D} {vs : List Value}, IsAll h ds vs → ∀ n, IsAll h (ds.drop n) (vs.drop n)
  | _, _, .nil, n => by simp; exact .nil
  | _, _, .cons x r, 0 => by simp; exact .cons x r
  | _, _, .cons x r, n + 1 => by simp; exact r.drop n
theorem IsAll.snoc {h : Heap} {ds : List D} {vs : List Value} {d : D} {v : Value} (x : IsAll h ds vs) (y : Is h d v) : IsAll h (ds ++ [d]) (vs ++ [v]) := x.append (.cons y .nil)

/-! what may stand as a key: ints, texts, tuples of keys -/
end
end Mine

/-! LM2 -/
open PySem
set_option Elab.async false
set_option autoImplicit false
namespace Mine
noncomputable section

/-! tracked objects -/
inductive Cell where
  | list (ds : List D)
  | rl (o : Obj) (ds : List D)
  deriving Inhabited

abbrev Loc := String → Option D
abbrev Sto := Addr → Option Cell
def Loc.set (ρ : Loc) (x : String) (d : D) : Loc := fun y => if y = x then some d else ρ y
def Sto.put (σ : Sto) (a : Addr) (c : Cell) : Sto := fun b => if b = a then some c else σ b
def Loc.nil : Loc := fun _ => none

def CellIs (w : World) (h : Heap) (a : Addr) : Cell → Prop
  | .list ds => ∃ vs n, h.get? a = some { cls := .type "list", data := .seq vs.toArray n } ∧ IsAll h ds vs
  | .rl o ds => h.get? a = some o ∧ o.cls = .type "list" ∧ ∃ vs n, o.data = .seq vs.toArray n ∧ IsAll h ds vs

theorem CellIs.obj {w : World} {h : Heap} {a : Addr} {c : Cell} (x : CellIs w h a c) : ∃ o, h.get? a = some o ∧ frozen o = false := by
  cases c with
  | list ds => obtain ⟨vs, n, e, _⟩ := x; exact ⟨_, e, rfl⟩
  | rl o ds => obtain ⟨e, c, vs, n, q, _⟩ := x; exact ⟨_, e, by simp [frozen, q, c]⟩
theorem CellIs.grow {w : World} {h h' : Heap} (g : Grow h h') {a : Addr} {c : Cell} (x : CellIs w h a c) (k : ∀ o, h.get? a = some o → h'.get? a = some o) : CellIs w h' a c := by
  cases c with
  | list ds => obtain ⟨vs, n, e, r⟩ := x; exact ⟨vs, n, k _ e, r.grow g⟩
  | rl o ds => obtain ⟨e, c, vs, n, q, r⟩ := x; exact ⟨k _ e, c, vs, n, q, r.grow g⟩

/-! the frame -/
structure Fr where
  env : Env
  /-- the frame's own objects: its names' table, its cells -/
  own : List Addr

/-- names by the program's own strings -/
def LocIs (h : Heap) (env : Env) (ρ : Loc) : Prop :=
  ∃ m, h.Ns env.locals m ∧ ∀ x d, ρ x = some d → x ≠ ".0" →
    (env.kindOf (Str.ofString x) = some .local → ∃ v, m (Str.ofString x) = some v ∧ Is h d v) ∧
    (env.kindOf (Str.ofString x) = some .cell ∨ env.kindOf (Str.ofString x) = some .free → ∃ c v, env.cells.lookup (Str.ofString x) = some c ∧ h.IsCell c (some v) ∧ Is h d v)

/-- what does not change while a frame runs -/
abbrev Fix := Addr → Obj → Prop

structure Cx where
  prog : Program
  w : World
  os : OsState

structure Rel (C : Cx) (fix : Fix) (f : Fr) (ρ : Loc) (σ : Sto) (s : Shared) : Prop where
  fixed : ∀ a o, fix a o → s.heap.get? a = some o
  loc : LocIs s.heap f.env ρ
  locOwn : f.env.locals ∈ f.own
  cells : ∀ x, f.env.kindOf x = some .cell → ∃ c v, f.env.cells.lookup x = some c ∧ s.heap.IsCell c v
  frees : ∀ x, f.env.kindOf x = some .free → ∃ c, f.env.cells.lookup x = some c
  cellsFix : ∀ x c, (x, c) ∈ f.env.cells → c ≠ f.env.locals ∧ (c ∈ f.own ∨ ∃ o, fix c o)
  cellsApart : ∀ x y c, f.env.cells.lookup x = some c → f.env.cells.lookup y = some c → x = y
  sto : ∀ a c, σ a = some c → CellIs C.w s.heap a c
  apart : ∀ a c, σ a = some c → a ∉ f.own ∧ ∀ o, ¬ fix a o
  ownFix : ∀ a, a ∈ f.own → ∀ o, ¬ fix a o
  ownObj : ∀ a, a ∈ f.own → ∃ o, s.heap.get? a = some o ∧ frozen o = false
  gens : s.gens = #[]
  os : s.os = C.os

theorem LocIs.mono {h h' : Heap} {env : Env} {ρ : Loc} (x : LocIs h env ρ) (g : Grow h h') (kl : ∀ o, h.get? env.locals = some o → h'.get? env.locals = some o)
    (kc : ∀ n c o, (n, c) ∈ env.cells → h.get? c = some o → h'.get? c = some o) : LocIs h' env ρ := by
  obtain ⟨m, hn, r⟩ := x
  refine ⟨m, hn.at' kl, fun x d e hx => ⟨fun k => ?_, fun k => ?_⟩⟩
  · obtain ⟨v, e1, e2⟩ := (r x d e hx).1 k
    exact ⟨v, e1, e2.grow g⟩
  · obtain ⟨c, v, e1, ⟨o, ho, hd⟩, e3⟩ := (r x d e hx).2 k
    exact ⟨c, v, e1, ⟨o, kc _ c o (mem_of_lookup e1) ho, hd⟩, e3.grow g⟩

theorem Rel.mono {C : Cx} {fix : Fix} {f : Fr} {ρ : Loc} {σ : Sto} {s : Shared} {h' : Heap} {tk : Nat} (R : Rel C fix f ρ σ s)
    (k : ∀ b o, s.heap.get? b = some o → (b ∈ f.own ∨ (∃ o, fix b o) ∨ (∃ c, σ b = some c) ∨ frozen o = true) → h'.get? b = some o) :
    Rel C fix f ρ σ { s with heap := h', toks := tk } where
  fixed := fun a o e => k a o (R.fixed a o e) (.inr (.inl ⟨o, e⟩))
  loc := R.loc.mono (fun a o e hf => k a o e (.inr (.inr (.inr hf)))) (fun o e => k _ o e (.inl R.locOwn))
    (fun n c o hm e => k c o e (by rcases (R.cellsFix n c hm).2 with q | q; exact .inl q; exact .inr (.inl q)))
  locOwn := R.locOwn
  cells := fun x hx => by
    obtain ⟨c, v, e, o, ho, hd⟩ := R.cells x hx
    exact ⟨c, v, e, o, k c o ho (by rcases (R.cellsFix x c (mem_of_lookup e)).2 with q | q; exact .inl q; exact .inr (.inl q)), hd⟩
  frees := R.frees
  cellsFix := R.cellsFix
  cellsApart := R.cellsApart
  sto := fun a c e => (R.sto a c e).grow (fun a o e hf => k a o e (.inr (.inr (.inr hf)))) fun o ho => k a o ho (.inr (.inr (.inl ⟨c, e⟩)))
  apart := R.apart
  ownFix := R.ownFix
  ownObj := fun a ha => by obtain ⟨o, e, q⟩ := R.ownObj a ha; exact ⟨o, k a o e (.inl ha), q⟩
  gens := R.gens
  os := R.os

theorem Rel.ext {C : Cx} {fix : Fix} {f : Fr} {ρ : Loc} {σ : Sto} {s : Shared} {h' : Heap} {tk : Nat} (R : Rel C fix f ρ σ s)
    (k : ∀ b o, s.heap.get? b = some o → h'.get? b = some o) : Rel C fix f ρ σ { s with heap := h', toks := tk } := R.mono fun b o e _ => k b o e
theorem Rel.tok {C : Cx} {fix : Fix} {f : Fr} {ρ : Loc} {σ : Sto} {s : Shared} {tk : Nat} (R : Rel C fix f ρ σ s) : Rel C fix f ρ σ { s with toks := tk } := R.ext (h' := s.heap) fun _ _ e => e

theorem Rel.reloc {C : Cx} {fix : Fix} {f : Fr} {ρ ρ' : Loc} {σ : Sto} {s : Shared} (R : Rel C fix f ρ σ s)
    (h : ∀ x d, ρ' x = some d → x ≠ ".0" → (f.env.kindOf (Str.ofString x) = some .local ∨ f.env.kindOf (Str.ofString x) = some .cell ∨ f.env.kindOf (Str.ofString x) = some .free) → ρ x = some d) : Rel C fix f ρ' σ s :=
  { R with
    loc := by
      obtain ⟨m, hn, r⟩ := R.loc
      refine ⟨m, hn, fun x d e h0 => ⟨fun k => (r x d (h x d e h0 (.inl k)) h0).1 k, fun k => (r x d (h x d e h0 (.inr k)) h0).2 k⟩⟩ }

def Sto.drop (σ : Sto) (a : Addr) : Sto := fun b => if b = a then none else σ b
theorem Rel.drop {C : Cx} {fix : Fix} {f : Fr} {ρ : Loc} {σ : Sto} {s : Shared} (R : Rel C fix f ρ σ s) (a : Addr) : Rel C fix f ρ (σ.drop a) s :=
  { R with
    sto := fun b c e => by
      unfold Sto.drop at e; split at e
      · cases e
      · exact R.sto b c e
    apart := fun b c e => by
      unfold Sto.drop at e; split at e
      · cases e
      · exact R.apart b c e }
theorem Rel.sub {C : Cx} {fix : Fix} {f : Fr} {ρ : Loc} {σ σ' : Sto} {s : Shared} (R : Rel C fix f ρ σ s) (h : ∀ a c, σ' a = some c → σ a = some c) : Rel C fix f ρ σ' s :=
  { R with sto := fun b c e => R.sto b c (h b c e), apart := fun b c e => R.apart b c (h b c e) }
theorem Rel.track {C : Cx} {fix : Fix} {f : Fr} {ρ : Loc} {σ : Sto} {s : Shared} (R : Rel C fix f ρ σ s) {a : Addr} {c : Cell} (x : CellIs C.w s.heap a c) (ho : a ∉ f.own) (hf : ∀ o, ¬ fix a o) :
    Rel C fix f ρ (σ.put a c) s :=
  { R with
    sto := fun b c' e => by
      unfold Sto.put at e; split at e
      · rename_i hb; subst hb; cases e; exact x
      · exact R.sto b c' e
    apart := fun b c' e => by
      unfold Sto.put at e; split at e
      · rename_i hb; subst hb; exact ⟨ho, hf⟩
      · exact R.apart b c' e }

theorem Sto.put_drop (σ : Sto) (a : Addr) (c : Cell) : (σ.drop a).put a c = σ.put a c := by
  funext b; unfold Sto.put Sto.drop; split <;> rfl

/-- an address with nothing is not tracked, not own, not fixed -/
theorem Rel.fresh {C : Cx} {fix : Fix} {f : Fr} {ρ : Loc} {σ : Sto} {s : Shared} (R : Rel C fix f ρ σ s) {a : Addr} (ha : s.heap.get? a = none) : σ a = none ∧ a ∉ f.own ∧ ∀ o, ¬ fix a o := by
  refine ⟨?_, ?_, ?_⟩
  · cases e : σ a with
    | none => rfl
    | some c => obtain ⟨o, ho, _⟩ := (R.sto a c e).obj; rw [ha] at ho; cases ho
  · intro h; obtain ⟨o, ho, _⟩ := R.ownObj a h; rw [ha] at ho; cases ho
  · intro o h; have := R.fixed a o h; rw [ha] at this; cases this
theorem get_size {h : Heap} : h.get? h.objs.size = none := by
  cases e : h.get? h.objs.size with
  | none => rfl
  | some o => exact absurd (Heap.lt_size e) (Nat.lt_irrefl _)

/-- a tracked object has turned -/
theorem Rel.upd {C : Cx} {fix : Fix} {f : Fr} {ρ : Loc} {σ : Sto} {s : Shared} {h' : Heap} {tk : Nat} (R : Rel C fix f ρ σ s) {a : Addr} {c₀ c : Cell} (ha : σ a = some c₀)
    (k : Heap.ExtBut a s.heap h') (x : Grow s.heap h' → CellIs C.w h' a c) : Rel C fix f ρ (σ.put a c) { s with heap := h', toks := tk } ∧ Grow s.heap h' := by
  obtain ⟨o₀, ho₀, hf₀⟩ := (R.sto a c₀ ha).obj
  have g : Grow s.heap h' := Grow.extBut k fun o e => by rw [ho₀] at e; cases e; exact hf₀
  refine ⟨?_, g⟩
  rw [← Sto.put_drop]
  refine Rel.track ((R.drop a).mono (h' := h') (tk := tk) fun b o e q => ?_) (x g) (R.apart a c₀ ha).1 (R.apart a c₀ ha).2
  by_cases hb : b = a
  · subst hb
    rcases q with q | ⟨o', q⟩ | ⟨c', q⟩ | q
    · exact absurd q (R.apart b c₀ ha).1
    · exact absurd q ((R.apart b c₀ ha).2 o')
    · simp [Sto.drop] at q
    · rw [ho₀] at e; cases e; rw [hf₀] at q; cases q
  · exact k b o hb e

/-- an object that nothing tells of has turned (an iterator) -/
theorem Rel.loose {C : Cx} {fix : Fix} {f : Fr} {ρ : Loc} {σ : Sto} {s : Shared} {h' : Heap} {tk : Nat} (R : Rel C fix f ρ σ s) {a : Addr} (hs : σ a = none) (ho : a ∉ f.own) (hf : ∀ o, ¬ fix a o)
    (hz : ∀ o, s.heap.get? a = some o → frozen o = false) (k : Heap.ExtBut a s.heap h') : Rel C fix f ρ σ { s with heap := h', toks := tk } ∧ Grow s.heap h' := by
  refine ⟨R.mono fun b o e q => ?_, Grow.extBut k hz⟩
  by_cases hb : b = a
  · subst hb
    rcases q with q | ⟨o', q⟩ | ⟨c', q⟩ | q
    · exact absurd q ho
    · exact absurd q (hf o')
    · rw [hs] at q; cases q
    · rw [hz o e] at q; cases q
  · exact k b o hb e

/-- a new tracked object -/
theorem Rel.new {C : Cx} {fix : Fix} {f : Fr} {ρ : Loc} {σ : Sto} {s : Shared} {h' : Heap} {tk : Nat} (R : Rel C fix f ρ σ s) {a : Addr} {c : Cell} (ha : s.heap.get? a = none)
    (k : ∀ b o, s.heap.get? b = some o → h'.get? b = some o) (x : Grow s.heap h' → CellIs C.w h' a c) : Rel C fix f ρ (σ.put a c) { s with heap := h', toks := tk } :=
  Rel.track (R.ext k) (x (Grow.of_keeps k)) (R.fresh ha).2.1 (R.fresh ha).2.2


theorem wp_store {C : Cx} {fix : Fix} {f : Fr} {ρ : Loc} {σ : Sto} {s : Shared} {A : Around} {E : Value → Shared → Prop} {Q : Unit → Shared → Prop} {x : String} {d : D} {v : Value}
    (R : Rel C fix f ρ σ s) (hk : f.env.scope.kind = .function) (hx : f.env.kindOf (Str.ofString x) = some .local ∨ (f.env.kindOf (Str.ofString x) = some .cell ∧ ∀ c, f.env.cells.lookup (Str.ofString x) = some c → c ∈ f.own)) (hd : Is s.heap d v)
    (h : ∀ s', Rel C fix f (ρ.set x d) σ s' → Grow s.heap s'.heap → Q () s') : wpAny (model C.prog C.w) A (storeName f.env (Str.ofString x) v) Q E s := by
  obtain ⟨m, hn, hl⟩ := R.loc
  rcases hx with hx | ⟨hx, hown⟩
  · refine wpAny_storeName_local hx hn (fun h' hn' hs' => ?_) (by rw [hk]; rfl)
    have hfr : ∀ o, s.heap.get? f.env.locals = some o → frozen o = false := fun o e => by
      obtain ⟨o', es, ep, e', d', _⟩ := hn
      rw [e'] at e; cases e; simp [frozen, d']
    have g : Grow s.heap h' := Grow.extBut hs'.extBut hfr
    refine h _ ?_ g
    have up : ∀ b o, b ≠ f.env.locals → s.heap.get? b = some o → h'.get? b = some o := fun b o hb e => hs'.extBut b o hb e
    exact {
      fixed := fun a o e => up a o (fun q => R.ownFix a (q ▸ R.locOwn) o e) (R.fixed a o e)
      loc := by
        refine ⟨_, hn', fun y d' e h0 => ⟨fun k => ?_, fun k => ?_⟩⟩
        · unfold Loc.set at e
          split at e
          · rename_i hy; subst hy; cases e
            exact ⟨v, by simp, hd.grow g⟩
          · rename_i hy
            obtain ⟨u, e1, e2⟩ := (hl y d' e h0).1 k
            exact ⟨u, by rw [if_neg (fun q => hy (ofString_inj q))]; exact e1, e2.grow g⟩
        · unfold Loc.set at e
          split at e
          · rename_i hy; subst hy; rw [hx] at k; rcases k with k | k <;> cases k
          · obtain ⟨c, u, e1, ⟨o, ho, hdd⟩, e3⟩ := (hl y d' e h0).2 k
            exact ⟨c, u, e1, ⟨o, up c o (R.cellsFix _ c (mem_of_lookup e1)).1 ho, hdd⟩, e3.grow g⟩
      locOwn := R.locOwn
      cells := fun y hy => by
        obtain ⟨c, u, e, o, ho, hdd⟩ := R.cells y hy
        exact ⟨c, u, e, o, up c o (R.cellsFix _ c (mem_of_lookup e)).1 ho, hdd⟩
      frees := R.frees
      cellsFix := R.cellsFix
      cellsApart := R.cellsApart
      sto := fun a c e => (R.sto a c e).grow g fun o ho => up a o (fun q => (R.apart a c e).1 (q ▸ R.locOwn)) ho
      apart := R.apart
      ownFix := R.ownFix
      ownObj := fun a ha => by
        by_cases hq : a = f.env.locals
        · obtain ⟨o', es, ep, e', d', _⟩ := hn'
          exact ⟨o', hq ▸ e', by simp [frozen, d']⟩
        · obtain ⟨o, e, q⟩ := R.ownObj a ha; exact ⟨o, up a o hq e, q⟩
      gens := R.gens
      os := R.os }
  · obtain ⟨c, u, hc, hcell⟩ := R.cells _ hx
    refine wpAny_storeName_cell hk hx hc hcell fun h' hc' hs' => ?_
    have hco := hown c hc
    have hfr : ∀ o, s.heap.get? c = some o → frozen o = false := fun o e => by
      obtain ⟨o', e', d'⟩ := hcell
      rw [e'] at e; cases e; simp [frozen, d']
    have g : Grow s.heap h' := Grow.extBut hs'.extBut hfr
    refine h _ ?_ g
    have up : ∀ b o, b ≠ c → s.heap.get? b = some o → h'.get? b = some o := fun b o hb e => hs'.extBut b o hb e
    have hLc : f.env.locals ≠ c := fun q => (R.cellsFix _ c (mem_of_lookup hc)).1 q.symm
    exact {
      fixed := fun a o e => up a o (fun q => R.ownFix a (q ▸ hco) o e) (R.fixed a o e)
      loc := by
        refine ⟨m, hn.at' fun o e => up _ o hLc e, fun y d' e h0 => ⟨fun k => ?_, fun k => ?_⟩⟩
        · unfold Loc.set at e
          split at e
          · rename_i hy; subst hy; rw [hx] at k; cases k
          · obtain ⟨u, e1, e2⟩ := (hl y d' e h0).1 k
            exact ⟨u, e1, e2.grow g⟩
        · unfold Loc.set at e
          split at e
          · rename_i hy; subst hy; cases e
            exact ⟨c, v, hc, hc', hd.grow g⟩
          · rename_i hy
            obtain ⟨c', u, e1, ⟨o, ho, hdd⟩, e3⟩ := (hl y d' e h0).2 k
            exact ⟨c', u, e1, ⟨o, up c' o (fun q => hy (ofString_inj (R.cellsApart _ _ _ e1 (q ▸ hc)))) ho, hdd⟩, e3.grow g⟩
      locOwn := R.locOwn
      cells := fun y hy => by
        obtain ⟨c', u', e, o, ho, hdd⟩ := R.cells y hy
        by_cases hq : c' = c
        · subst hq; exact ⟨c', some v, e, hc'⟩
        · exact ⟨c', u', e, o, up c' o hq ho, hdd⟩
      frees := R.frees
      cellsFix := R.cellsFix
      cellsApart := R.cellsApart
      sto := fun a c' e => (R.sto a c' e).grow g fun o ho => up a o (fun q => (R.apart a c' e).1 (q ▸ hco)) ho
      apart := R.apart
      ownFix := R.ownFix
      ownObj := fun a ha => by
        by_cases hq : a = c
        · obtain ⟨o', e', d'⟩ := hc'
          exact ⟨o', hq ▸ e', by simp [frozen, d']⟩
        · obtain ⟨o, e, q⟩ := R.ownObj a ha; exact ⟨o, up a o hq e, q⟩
      gens := R.gens
      os := R.os }

/-- a name of the frame read -/
theorem wp_load {C : Cx} {fix : Fix} {f : Fr} {ρ : Loc} {σ : Sto} {s : Shared} {A : Around} {E : Value → Shared → Prop} {Q : Value → Shared → Prop} {x : String} {d : D}
    (R : Rel C fix f ρ σ s) (hk : f.env.scope.kind = .function) (hx : ρ x = some d) (h0 : x ≠ ".0") (hc : (Str.ofString x == ("__classdict__" : Str)) = false)
    (hkd : f.env.kindOf (Str.ofString x) = some .local ∨ f.env.kindOf (Str.ofString x) = some .cell ∨ f.env.kindOf (Str.ofString x) = some .free)
    (h : ∀ v, Is s.heap d v → Q v s) : wpAny (model C.prog C.w) A (loadName f.env (Str.ofString x)) Q E s := by
  obtain ⟨m, hn, hl⟩ := R.loc
  rcases hkd with k | k | k
  · obtain ⟨v, e1, e2⟩ := (hl x d hx h0).1 k
    exact wpAny_loadName_local hk k hn e1 (h v e2)
  · obtain ⟨c, v, e1, e2, e3⟩ := (hl x d hx h0).2 (.inl k)
    exact wpAny_loadName_cell hk k e1 e2 (h v e3)
  · obtain ⟨c, v, e1, e2, e3⟩ := (hl x d hx h0).2 (.inr k)
    exact wpAny_loadName_free hk k e1 e2 (h v e3) hc

/-! what a called def has of the state: no frame -/
structure RelB (C : Cx) (fix : Fix) (σ : Sto) (s : Shared) : Prop where
  fixed : ∀ a o, fix a o → s.heap.get? a = some o
  sto : ∀ a c, σ a = some c → CellIs C.w s.heap a c
  apart : ∀ a c, σ a = some c → ∀ o, ¬ fix a o
  gens : s.gens = #[]
  os : s.os = C.os
def fixOf (fix : Fix) (f : Fr) (h : Heap) : Fix := fun a o => fix a o ∨ (a ∈ f.own ∧ h.get? a = some o)
theorem Rel.base {C : Cx} {fix : Fix} {f : Fr} {ρ : Loc} {σ : Sto} {s : Shared} (R : Rel C fix f ρ σ s) : RelB C (fixOf fix f s.heap) σ s where
  fixed := fun a o h => h.elim (R.fixed a o) fun q => q.2
  sto := R.sto
  apart := fun a c e o h => h.elim ((R.apart a c e).2 o) fun q => (R.apart a c e).1 q.1
  gens := R.gens
  os := R.os
theorem RelB.frame {C : Cx} {fix : Fix} {f : Fr} {ρ : Loc} {σ σ' : Sto} {s s' : Shared} (R : Rel C fix f ρ σ s) (B : RelB C (fixOf fix f s.heap) σ' s') (g : Grow s.heap s'.heap) : Rel C fix f ρ σ' s' where
  fixed := fun a o h => B.fixed a o (.inl h)
  loc := R.loc.mono g (fun o e => B.fixed _ o (.inr ⟨R.locOwn, e⟩)) fun n c o hm e => by
    rcases (R.cellsFix n c hm).2 with q | ⟨p, q⟩
    · exact B.fixed c o (.inr ⟨q, e⟩)
    · have := R.fixed c p q; rw [e] at this; cases this; exact B.fixed c o (.inl q)
  locOwn := R.locOwn
  cells := fun x hx => by
    obtain ⟨c, v, e, o, ho, hd⟩ := R.cells x hx
    refine ⟨c, v, e, o, ?_, hd⟩
    rcases (R.cellsFix x c (mem_of_lookup e)).2 with q | ⟨p, q⟩
    · exact B.fixed c o (.inr ⟨q, ho⟩)
    · have := R.fixed c p q; rw [ho] at this; cases this; exact B.fixed c o (.inl q)
  frees := R.frees
  cellsFix := R.cellsFix
  cellsApart := R.cellsApart
  sto := B.sto
  apart := fun a c e => ⟨fun h => by
      obtain ⟨o, ho, _⟩ := R.ownObj a h
      exact B.apart a c e o (.inr ⟨h, ho⟩), fun o h => B.apart a c e o (.inl h)⟩
  ownFix := R.ownFix
  ownObj := fun a h => by obtain ⟨o, ho, hz⟩ := R.ownObj a h; exact ⟨o, B.fixed a o (.inr ⟨h, ho⟩), hz⟩
  gens := B.gens
  os := B.os
end
end Mine

/-! LM3 -/
open PySem
set_option Elab.async false
set_option autoImplicit false
namespace Mine
noncomputable section

/-! the program's text without places -/
inductive Tgt where
  | name (x : String)
  | tup (xs : List String)


inductive Ex where
  | none
  | bool (b : Bool)
  | int (i : Int)
  | str (x : String)
  | loc (x : String)
  | glob (x : String)
  | bin (op : Operator) (a b : Ex)
  | not (a : Ex)
  | neg (i : Int)
  | and (xs : List Ex)
  | or (xs : List Ex)
  | cmp (a : Ex) (ops : List CmpOp) (bs : List Ex)
  | call (f : String) (xs : List Ex)
  | bcall (f : String) (xs : List Ex)
  | meth (o : Ex) (m : String) (xs : List Ex)
  | item (a i : Ex)
  | slice (a lo hi : Ex)
  | tup (xs : List Ex)
  | list (xs : List Ex)
  | comp (elt : Ex) (t : Tgt) (it : Ex) (ifs : List Ex)
  | zip (a b : Ex)
  deriving Inhabited

inductive Sx where
  | assign (t : Tgt) (e : Ex)
  | ite (t : Ex) (a b : List Sx)
  | loop (t : Tgt) (it : Ex) (body : List Sx)
  | while (t : Ex) (body : List Sx)
  | ret (e : Ex)
  | cont
  | expr (e : Ex)
  | raise (c : String) (m : String)
  deriving Inhabited

inductive Fl where
  | next
  | cont
  | brk
  | ret (d : D)

/-! equality of plain data, as == has it -/
def b2i (b : Bool) : Int := if b then 1 else 0
mutual
def deq : D → D → Bool
  | .none, .none => true
  | .bool a, .bool b => a == b
  | .bool a, .int b => b2i a == b
  | .int a, .bool b => a == b2i b
  | .int a, .int b => a == b
  | .str a, .str b => a == b
  | .tup a, .tup b => deqs a b
  | _, _ => false
def deqs : List D → List D → Bool
  | [], [] => true
  | a :: as, b :: bs => deq a b && deqs as bs
  | _, _ => false
end
mutual
def D.pureAt : Nat → D → Bool
  | _, .none => true
  | _, .bool _ => true
  | _, .int _ => true
  | _, .str _ => true
  | n + 1, .tup ds => D.puresAt n ds
  | _, _ => false
def D.puresAt : Nat → List D → Bool
  | _, [] => true
  | n, d :: ds => d.pureAt n && D.puresAt n ds
end
/-- data with nothing that turns, not deep -/
def D.pure (d : D) : Bool := d.pureAt 8
def D.pures (ds : List D) : Bool := D.puresAt 8 ds
mutual
def toPy : D → PyData
  | .none => .none
  | .bool b => .bool b
  | .int i => .int i
  | .str x => .str (Str.ofString x)
  | .tup ds => .tuple (toPys ds)
  | _ => .none
def toPys : List D → List PyData
  | [] => []
  | d :: ds => toPy d :: toPys ds
end
def line : Nat := 2 ^ 24

/-- how the sequence stands at d -/
def itemsD (σ : Sto) : D → Option (List D)
  | .tup ds => some ds
  | .rng n => some ((List.range n).map fun (i : Nat) => D.int i)
  | .ref a => match σ a with
    | some (.list ds) => some ds
    | _ => none
  | _ => none
/-- a list, or one that only is read -/
def listOf (σ : Sto) (a : Addr) : Option (List D) := match σ a with
  | some (.list ds) => some ds
  | some (.rl _ ds) => some ds
  | _ => none
def sizeD (σ : Sto) : D → Option Nat
  | .tup ds => some ds.length
  | .ref a => match σ a with
    | some (.list ds) => some ds.length
    | some (.rl _ ds) => some ds.length
    | _ => none
  | _ => none
def stillD (σ σ' : Sto) : D → Prop
  | .ref a => σ' a = σ a
  | _ => True

abbrev PostE := D → Sto → Prop

def newW (c : Cell) (σ : Sto) (Q : PostE) : Prop := ∀ a, σ a = none → Q (.ref a) (σ.put a c)

def addW (a b : D) (σ : Sto) (Q : PostE) : Prop := match a, b with
  | .int i, .int j => Q (.int (i + j)) σ
  | .tup xs, .tup ys => xs.length + ys.length ≤ line ∧ Q (.tup (xs ++ ys)) σ
  | .ref p, .ref q => ∃ xs ys, σ p = some (.list xs) ∧ σ q = some (.list ys) ∧ xs.length + ys.length ≤ line ∧ newW (.list (xs ++ ys)) σ Q
  | _, _ => False
/-- of two numbers -/
def intsW (a b : D) (P : Int → Int → Prop) : Prop := match a, b with
  | .int i, .int j => P i j
  | _, _ => False
def binW (op : Operator) (a b : D) (σ : Sto) (Q : PostE) : Prop := match op with
  | .Add => addW a b σ Q
  | .Sub => intsW a b fun i j => Q (.int (i - j)) σ
  | .Mult => intsW a b fun i j => (i.natAbs < 2 ^ 64 ∨ j.natAbs < 2 ^ 64) ∧ Q (.int (i * j)) σ
  | .Mod => intsW a b fun i j => 0 < j ∧ Q (.int (i % j)) σ
  | .FloorDiv => intsW a b fun i j => (0 < j ∧ j < 1073741824) ∧ Q (.int (i / j)) σ
  | _ => False

def truthW (d : D) (Q : Bool → Prop) : Prop := match d with
  | .bool b => Q b
  | _ => False

/-- x stands in d -/
def inW (x d : D) (σ : Sto) (Q : Bool → Prop) : Prop := match d with
  | .tup ds => x.pure = true ∧ D.pures ds = true ∧ Q (ds.any fun y => deq y x)
  | .rng n => match x with
    | .int i => Q (decide (0 ≤ i ∧ i < n))
    | _ => False
  | .ref a => match σ a with
    | some (.list ds) => x.pure = true ∧ D.pures ds = true ∧ Q (ds.any fun y => deq y x)
    | _ => False
  | _ => False
/-- the two are compared -/
def eqW (σ : Sto) (a b : D) (Q : Bool → Prop) : Prop := if (a.pure && b.pure) = true then Q (deq a b) else ∃ p q xs, a = .ref p ∧ b = .ref q ∧ σ p = some (.list xs) ∧ σ q = some (.list []) ∧ D.pures xs = true ∧ Q xs.isEmpty
theorem eqW_pure {σ : Sto} {a b : D} {Q : Bool → Prop} (ha : a.pure = true) (hb : b.pure = true) (h : Q (deq a b)) : eqW σ a b Q := by
  unfold eqW; rw [ha, hb]; exact h

def cmpW (op : CmpOp) (a b : D) (σ : Sto) (Q : PostE) : Prop :=
  match op with
  | .Eq => eqW σ a b fun r => Q (.bool r) σ
  | .NotEq => eqW σ a b fun r => Q (.bool (!r)) σ
  | .Lt => match a, b with | .int i, .int j => Q (.bool (decide (i < j))) σ | _, _ => False
  | .LtE => match a, b with | .int i, .int j => Q (.bool (decide (i ≤ j))) σ | _, _ => False
  | .Gt => match a, b with | .int i, .int j => Q (.bool (decide (j < i))) σ | _, _ => False
  | .GtE => match a, b with | .int i, .int j => Q (.bool (decide (j ≤ i))) σ | _, _ => False
  | .Is => False
  | .IsNot => False
  | .In => inW a b σ fun r => Q (.bool r) σ
  | .NotIn => inW a b σ fun r => Q (.bool (!r)) σ

def itemW (a i : D) (σ : Sto) (Q : PostE) : Prop :=
  match a, i with
  | .tup ds, .int n => ∃ d, 0 ≤ n ∧ n < 2 ^ 63 ∧ ds[n.toNat]? = some d ∧ Q d σ
  | .ref p, .int n => ∃ ds d, listOf σ p = some ds ∧ 0 ≤ n ∧ n < 2 ^ 63 ∧ ds[n.toNat]? = some d ∧ Q d σ
  | _, _ => False

/-- the end of a slice: none, or a number -/
def cutAt (n : Nat) (dflt : Nat) : D → Option Nat
  | .none => some dflt
  | .int i => if 0 ≤ i then some (min i.toNat n) else Option.none
  | _ => Option.none
def sliceOf {α : Type} (xs : List α) (lo hi : Nat) : List α := (xs.take hi).drop lo
def sliceW (a lo hi : D) (σ : Sto) (Q : PostE) : Prop :=
  match a with
  | .tup ds => ∃ l h, ds.length ≤ line ∧ cutAt ds.length 0 lo = some l ∧ cutAt ds.length ds.length hi = some h ∧ Q (.tup (sliceOf ds l h)) σ
  | _ => False
def isIntD : D → Option Bool
  | .none | .str _ | .tup _ => some false
  | .bool _ | .int _ => some true
  | _ => Option.none
def isBoolD : D → Option Bool
  | .none | .str _ | .tup _ | .int _ => some false
  | .bool _ => some true
  | _ => Option.none
def isStrD : D → Option Bool
  | .none | .bool _ | .tup _ | .int _ => some false
  | .str _ => some true
  | _ => Option.none
def isTupD : D → Option Bool
  | .none | .bool _ | .str _ | .int _ => some false
  | .tup _ => some true
  | _ => Option.none
def isLstD : D → Option Bool
  | .none | .bool _ | .str _ | .int _ | .tup _ => some false
  | _ => Option.none
def isOf (d : D) (t : String) : Option Bool := if t = "int" then isIntD d else if t = "bool" then isBoolD d else if t = "str" then isStrD d else if t = "tuple" then isTupD d else if t = "list" then isLstD d else Option.none
def isOfC (σ : Sto) (d : D) (t : String) : Option Bool := match d with
  | .ref a => match σ a with
    | some (.list _) => if t == "list" then some true else if t == "int" || t == "bool" || t == "str" || t == "tuple" then some false else Option.none
    | _ => Option.none
  | d => isOf d t

def bltOf : String → Option Value
  | "len" => some (.builtin "len")
  | "isinstance" => some (.builtin "isinstance")
  | "range" => some (.type "range")
  | "int" => some (.type "int")
  | "tuple" => some (.type "tuple")
  | "list" => some (.type "list")
  | "dict" => some (.type "dict")
  | "min" => some (.builtin "min")
  | "all" => some (.builtin "all")
  | "sorted" => some (.builtin "sorted")
  | "zip" => some (.type "zip")
  | "reversed" => some (.type "reversed")
  | _ => Option.none

theorem bltOf_val {x : String} {v : Value} (h : bltOf x = some v) : ∀ a, v ≠ .ref a := by
  intro a e; subst e
  unfold bltOf at h
  split at h <;> cases h
def lenB (ds : List D) (σ : Sto) (Q : PostE) : Prop := match ds with
  | [d] => ∃ n, sizeD σ d = some n ∧ n < 2 ^ 62 ∧ Q (.int n) σ
  | _ => False
def isiB (ds : List D) (σ : Sto) (Q : PostE) : Prop := match ds with
  | [d, .val (.type t)] => ∃ r, isOfC σ d t = some r ∧ Q (.bool r) σ
  | _ => False
def rangeB (ds : List D) (σ : Sto) (Q : PostE) : Prop := match ds with
  | [.int n] => (0 ≤ n ∧ n < 2 ^ 62) ∧ Q (.rng n.toNat) σ
  | _ => False
def intB (ds : List D) (σ : Sto) (Q : PostE) : Prop := match ds with
  | [.bool b] => Q (.int (b2i b)) σ
  | _ => False
def tupleB (ds : List D) (σ : Sto) (Q : PostE) : Prop := match ds with
  | [.ref a] => ∃ xs, σ a = some (.list xs) ∧ xs.length ≤ line ∧ Q (.tup xs) σ
  | _ => False
def bcallW (f : String) (ds : List D) (σ : Sto) (Q : PostE) : Prop :=
  if f = "len" then lenB ds σ Q else if f = "isinstance" then isiB ds σ Q else if f = "range" then rangeB ds σ Q else if f = "int" then intB ds σ Q else if f = "tuple" then tupleB ds σ Q else False

/-- a thing with methods: what it is -/
def kindD (σ : Sto) : D → Option String
  | .tup _ => some "tuple"
  | .ref a => match σ a with
    | some (.list _) => some "list"
    | _ => Option.none
  | _ => Option.none
def methId : String → String → Option String
  | "tuple", "count" => some "tuple.count"
  | "list", "count" => some "list.count"
  | "list", "append" => some "list.append"
  | "list", "extend" => some "list.extend"
  | _, _ => Option.none
def countB (d : D) (ds : List D) (σ : Sto) (Q : PostE) : Prop := match d, ds with
  | .tup xs, [x] => x.pure = true ∧ D.pures xs = true ∧ Q (.int (xs.countP fun y => deq y x)) σ
  | .ref a, [x] => ∃ xs, σ a = some (.list xs) ∧ x.pure = true ∧ D.pures xs = true ∧ Q (.int (xs.countP fun y => deq y x)) σ
  | _, _ => False
def appendB (d : D) (ds : List D) (σ : Sto) (Q : PostE) : Prop := match d, ds with
  | .ref a, [x] => ∃ xs, σ a = some (.list xs) ∧ xs.length ≤ line ∧ Q .none (σ.put a (.list (xs ++ [x])))
  | _, _ => False
def extendB (d : D) (ds : List D) (σ : Sto) (Q : PostE) : Prop := match d, ds with
  | .ref a, [.ref b] => ∃ xs ys, a ≠ b ∧ σ a = some (.list xs) ∧ σ b = some (.list ys) ∧ xs.length + ys.length ≤ line ∧ Q .none (σ.put a (.list (xs ++ ys)))
  | _, _ => False
def methW (d : D) (m : String) (ds : List D) (σ : Sto) (Q : PostE) : Prop :=
  if m = "count" then countB d ds σ Q else if m = "append" then appendB d ds σ Q else if m = "extend" then extendB d ds σ Q else False

def Loc.sets (ρ : Loc) : List String → List D → Loc
  | x :: xs, d :: ds => Loc.sets (ρ.set x d) xs ds
  | _, _ => ρ
def assignW (t : Tgt) (d : D) (ρ : Loc) (Q : Loc → Prop) : Prop := match t with
  | .name x => Q (ρ.set x d)
  | .tup xs => match d with
    | .tup ds => ds.length = xs.length ∧ Q (ρ.sets xs ds)
    | _ => False

/-- what the text may lean on: its own defs, its names -/
structure Kx where
  addr : String → Option Addr
  call : String → List D → Sto → PostE → Prop
  glob : String → Option D

/-- a loop over items that stay -/
def turnsW (xs : List D) (still : Sto → Prop) (σ : Sto) (turn : D → Nat → Sto → (Sto → Prop) → Prop) (Q : Sto → Prop) : Prop :=
  ∃ I : Nat → Sto → Prop, I 0 σ ∧ (∀ i σ', I i σ' → still σ' ∧ (∀ x, xs[i]? = some x → turn x i σ' (I (i + 1)))) ∧ ∀ σ', I xs.length σ' → Q σ'

/-- what an expression asks: for its value, for its truth -/
abbrev EvP := Loc → Sto → PostE → Prop
abbrev TvP := Loc → Sto → (Bool → Sto → Prop) → Prop
/-- its truth is its value's -/
def dftW (f : EvP) : EvP × TvP := (f, fun ρ σ Q => f ρ σ fun d σ₁ => truthW d fun c => Q c σ₁)
mutual
def bothW (k : Kx) : Ex → EvP × TvP
  | .none => dftW fun _ σ Q => Q .none σ
  | .bool b => dftW fun _ σ Q => Q (.bool b) σ
  | .int i => dftW fun _ σ Q => Q (.int i) σ
  | .str x => dftW fun _ σ Q => Q (.str x) σ
  | .loc x => dftW fun ρ σ Q => ∃ d, ρ x = some d ∧ Q d σ
  | .glob x => dftW fun _ σ Q => ∃ d, k.glob x = some d ∧ Q d σ
  | .bin op a b => dftW fun ρ σ Q => (bothW k a).1 ρ σ fun x σ₁ => (bothW k b).1 ρ σ₁ fun y σ₂ => binW op x y σ₂ Q
  | .not a => (fun ρ σ Q => (bothW k a).1 ρ σ fun x σ₁ => truthW x fun c => Q (.bool (!c)) σ₁, fun ρ σ Q => (bothW k a).2 ρ σ fun c σ₁ => Q (!c) σ₁)
  | .neg i => dftW fun _ σ Q => Q (.int (-i)) σ
  | .and xs => (fun ρ σ Q => boolW k true xs ρ σ Q, fun ρ σ Q => allW k true xs ρ σ Q)
  | .or xs => (fun ρ σ Q => boolW k false xs ρ σ Q, fun ρ σ Q => allW k false xs ρ σ Q)
  | .cmp a ops bs => dftW fun ρ σ Q => (bothW k a).1 ρ σ fun x σ₁ => chainW k bs ops x ρ σ₁ Q
  | .call f xs => dftW fun ρ σ Q => (k.addr f).isSome = true ∧ evsW k xs ρ σ fun ds σ₁ => k.call f ds σ₁ Q
  | .bcall f xs => dftW fun ρ σ Q => (bltOf f).isSome = true ∧ evsW k xs ρ σ fun ds σ₁ => bcallW f ds σ₁ Q
  | .meth o m xs => dftW fun ρ σ Q => (bothW k o).1 ρ σ fun d σ₁ => ∃ T, kindD σ₁ d = some T ∧ (methId T m).isSome = true ∧ evsW k xs ρ σ₁ fun ds σ₂ => kindD σ₂ d = some T ∧ methW d m ds σ₂ Q
  | .item a i => dftW fun ρ σ Q => (bothW k a).1 ρ σ fun x σ₁ => (bothW k i).1 ρ σ₁ fun y σ₂ => itemW x y σ₂ Q
  | .slice a lo hi => dftW fun ρ σ Q => (bothW k a).1 ρ σ fun x σ₁ => (bothW k lo).1 ρ σ₁ fun y σ₂ => (bothW k hi).1 ρ σ₂ fun z σ₃ => sliceW x y z σ₃ Q
  | .tup xs => dftW fun ρ σ Q => evsW k xs ρ σ fun ds σ₁ => Q (.tup ds) σ₁
  | .list xs => dftW fun ρ σ Q => evsW k xs ρ σ fun ds σ₁ => newW (.list ds) σ₁ Q
  | .comp elt t it ifs => dftW fun ρ σ Q => (bothW k it).1 ρ σ fun d σ₁ => ∃ xs, itemsD σ₁ d = some xs ∧ xs.length ≤ line ∧
      ∃ I : Nat → List D → Sto → Prop, I 0 [] σ₁ ∧
        (∀ i acc σ', I i acc σ' → i ≤ xs.length → stillD σ₁ σ' d ∧ ∀ x, xs[i]? = some x → assignW t x ρ fun ρ' =>
          condsW k ifs ρ' σ' fun c σ₂ => (c = true → (bothW k elt).1 ρ' σ₂ fun v σ₃ => I (i + 1) (acc ++ [v]) σ₃) ∧ (c = false → I (i + 1) acc σ₂)) ∧
        ∀ acc σ', I xs.length acc σ' → newW (.list acc) σ' Q
  | .zip _ _ => dftW fun _ _ _ => False
def evsW (k : Kx) : List Ex → Loc → Sto → (List D → Sto → Prop) → Prop
  | [] => fun _ σ Q => Q [] σ
  | e :: es => fun ρ σ Q => (bothW k e).1 ρ σ fun d σ₁ => evsW k es ρ σ₁ fun ds σ₂ => Q (d :: ds) σ₂
def boolW (k : Kx) (and : Bool) : List Ex → Loc → Sto → PostE → Prop
  | [] => fun _ _ _ => False
  | e :: es => fun ρ σ Q => (bothW k e).1 ρ σ fun d σ₁ => match es with
    | [] => Q d σ₁
    | _ => truthW d fun c => (c = and → boolW k and es ρ σ₁ Q) ∧ (c = !and → Q d σ₁)
def allW (k : Kx) (and : Bool) : List Ex → Loc → Sto → (Bool → Sto → Prop) → Prop
  | [] => fun _ σ Q => Q and σ
  | e :: es => fun ρ σ Q => (bothW k e).2 ρ σ fun c σ₁ => (c = and → allW k and es ρ σ₁ Q) ∧ (c = !and → Q c σ₁)
def condsW (k : Kx) : List Ex → Loc → Sto → (Bool → Sto → Prop) → Prop
  | [] => fun _ σ Q => Q true σ
  | e :: es => fun ρ σ Q => (bothW k e).2 ρ σ fun c σ₁ => (c = true → condsW k es ρ σ₁ Q) ∧ (c = false → Q false σ₁)
def chainW (k : Kx) : List Ex → List CmpOp → D → Loc → Sto → PostE → Prop
  | [] => fun _ _ _ _ _ => False
  | e :: es => fun ops d ρ σ Q => match ops with
    | [] => False
    | op :: ops => (bothW k e).1 ρ σ fun r σ₁ => match es, ops with
      | [], [] => cmpW op d r σ₁ Q
      | _, _ => cmpW op d r σ₁ fun c σ₂ => truthW c fun b => (b = true → chainW k es ops r ρ σ₂ Q) ∧ (b = false → Q c σ₂)
end
def evW (k : Kx) (e : Ex) : EvP := (bothW k e).1
def tW (k : Kx) (e : Ex) : TvP := (bothW k e).2

section rules
variable {k : Kx} {ρ : Loc} {σ : Sto} {Q : PostE} {P : Bool → Sto → Prop}
theorem w_loc {x : String} : evW k (.loc x) ρ σ Q = ∃ d, ρ x = some d ∧ Q d σ := rfl
theorem w_glob {x : String} : evW k (.glob x) ρ σ Q = ∃ d, k.glob x = some d ∧ Q d σ := rfl
theorem w_bin {op : Operator} {a b : Ex} : evW k (.bin op a b) ρ σ Q = evW k a ρ σ fun x σ₁ => evW k b ρ σ₁ fun y σ₂ => binW op x y σ₂ Q := rfl
theorem w_not {a : Ex} : evW k (.not a) ρ σ Q = evW k a ρ σ fun x σ₁ => truthW x fun c => Q (.bool (!c)) σ₁ := rfl
theorem w_neg {b : Int} : evW k (.neg b) ρ σ Q = Q (.int (-b)) σ := rfl
theorem w_and {xs : List Ex} : evW k (.and xs) ρ σ Q = boolW k true xs ρ σ Q := rfl
theorem w_or {xs : List Ex} : evW k (.or xs) ρ σ Q = boolW k false xs ρ σ Q := rfl
theorem w_cmp {a : Ex} {ops : List CmpOp} {bs : List Ex} : evW k (.cmp a ops bs) ρ σ Q = evW k a ρ σ fun x σ₁ => chainW k bs ops x ρ σ₁ Q := rfl
theorem w_call {f : String} {xs : List Ex} : evW k (.call f xs) ρ σ Q = ((k.addr f).isSome = true ∧ evsW k xs ρ σ fun ds σ₁ => k.call f ds σ₁ Q) := rfl
theorem w_bcall {f : String} {xs : List Ex} : evW k (.bcall f xs) ρ σ Q = ((bltOf f).isSome = true ∧ evsW k xs ρ σ fun ds σ₁ => bcallW f ds σ₁ Q) := rfl
theorem w_meth {o : Ex} {m : String} {xs : List Ex} : evW k (.meth o m xs) ρ σ Q = evW k o ρ σ fun d σ₁ => ∃ T, kindD σ₁ d = some T ∧ (methId T m).isSome = true ∧ evsW k xs ρ σ₁ fun ds σ₂ => kindD σ₂ d = some T ∧ methW d m ds σ₂ Q := rfl
theorem w_item {a i : Ex} : evW k (.item a i) ρ σ Q = evW k a ρ σ fun x σ₁ => evW k i ρ σ₁ fun y σ₂ => itemW x y σ₂ Q := rfl
theorem w_slice {a lo hi : Ex} : evW k (.slice a lo hi) ρ σ Q = evW k a ρ σ fun x σ₁ => evW k lo ρ σ₁ fun y σ₂ => evW k hi ρ σ₂ fun z σ₃ => sliceW x y z σ₃ Q := rfl
theorem w_tup {xs : List Ex} : evW k (.tup xs) ρ σ Q = evsW k xs ρ σ fun ds σ₁ => Q (.tup ds) σ₁ := rfl
theorem w_list {xs : List Ex} : evW k (.list xs) ρ σ Q = evsW k xs ρ σ fun ds σ₁ => newW (.list ds) σ₁ Q := rfl
theorem ws_cons {e : Ex} {es : List Ex} {Q : List D → Sto → Prop} : evsW k (e :: es) ρ σ Q = evW k e ρ σ fun d σ₁ => evsW k es ρ σ₁ fun ds σ₂ => Q (d :: ds) σ₂ := rfl
theorem wb_one {c : Bool} {e : Ex} : boolW k c [e] ρ σ Q = evW k e ρ σ Q := rfl
theorem wb_cons {c : Bool} {e e' : Ex} {es : List Ex} : boolW k c (e :: e' :: es) ρ σ Q = evW k e ρ σ fun d σ₁ => truthW d fun b => (b = c → boolW k c (e' :: es) ρ σ₁ Q) ∧ (b = !c → Q d σ₁) := rfl
theorem wa_cons {c : Bool} {e : Ex} {es : List Ex} : allW k c (e :: es) ρ σ P = tW k e ρ σ fun b σ₁ => (b = c → allW k c es ρ σ₁ P) ∧ (b = !c → P b σ₁) := rfl
theorem wc_cons {e : Ex} {es : List Ex} : condsW k (e :: es) ρ σ P = tW k e ρ σ fun c σ₁ => (c = true → condsW k es ρ σ₁ P) ∧ (c = false → P false σ₁) := rfl
theorem wch_one {d : D} {op : CmpOp} {e : Ex} : chainW k [e] [op] d ρ σ Q = evW k e ρ σ fun r σ₁ => cmpW op d r σ₁ Q := rfl
theorem wch_odd {d : D} {op op' : CmpOp} {ops : List CmpOp} {e : Ex} : chainW k [e] (op :: op' :: ops) d ρ σ Q = evW k e ρ σ fun r σ₁ => cmpW op d r σ₁ fun c σ₂ => truthW c fun b => (b = true → False) ∧ (b = false → Q c σ₂) := rfl
theorem wch_cons {d : D} {op : CmpOp} {ops : List CmpOp} {e e' : Ex} {es : List Ex} : chainW k (e :: e' :: es) (op :: ops) d ρ σ Q = evW k e ρ σ fun r σ₁ => cmpW op d r σ₁ fun c σ₂ => truthW c fun b => (b = true → chainW k (e' :: es) ops r ρ σ₂ Q) ∧ (b = false → Q c σ₂) := rfl
theorem wt_not {a : Ex} : tW k (.not a) ρ σ P = tW k a ρ σ fun c σ₁ => P (!c) σ₁ := rfl
theorem wt_and {xs : List Ex} : tW k (.and xs) ρ σ P = allW k true xs ρ σ P := rfl
theorem wt_or {xs : List Ex} : tW k (.or xs) ρ σ P = allW k false xs ρ σ P := rfl
theorem wt_cmp {a : Ex} {ops : List CmpOp} {bs : List Ex} : tW k (.cmp a ops bs) ρ σ P = evW k a ρ σ fun x σ₁ => chainW k bs ops x ρ σ₁ fun d σ' => truthW d fun b => P b σ' := rfl
end rules

abbrev PostS := Fl → Loc → Sto → Prop

/-- data that need no heap -/
def D.flat : D → Bool
  | .tup _ => false
  | .rng _ => false
  | _ => true
def Cell.flat : Cell → Bool
  | .list ds => ds.all D.flat
  | _ => false
def flatLoc (ρ : Loc) : Loc := fun x => match ρ x with
  | some d => if d.flat then some d else none
  | none => none
/-- a for over zip(list, tuple): the turns see only what needs no heap -/
def zipW (t : Tgt) (d d' : D) (ρ : Loc) (σ : Sto) (body : Loc → Sto → PostS → Prop) (Q : PostS) : Prop :=
  ∃ p xs ys, d = .ref p ∧ d' = .tup ys ∧ σ p = some (.list xs) ∧ (∃ ns, t = .tup ns) ∧
    ∃ (σb : Sto) (I : Nat → Loc → Prop), (∀ a c, σb a = some c → σ a = some c ∧ c.flat = true) ∧ σb p = none ∧ I 0 (flatLoc ρ) ∧
      (∀ i ρ', I i ρ' → ∀ x y, xs[i]? = some x → ys[i]? = some y → assignW t (.tup [x, y]) ρ' fun ρ₂ => body ρ₂ σb fun fl ρ₃ σ₃ => (fl = .next ∨ fl = .cont) ∧ (∀ a c, σb a = some c → σ₃ a = some c) ∧ I (i + 1) (flatLoc ρ₃)) ∧
      ∀ ρ', I (min xs.length ys.length) ρ' → Q .next ρ' σ

/-- exceptions of the text's own classes, raised -/
abbrev PostX := String → Sto → Prop

mutual
def exW (k : Kx) (X : PostX) : Sx → Loc → Sto → PostS → Prop
  | .assign t e, ρ, σ, Q => evW k e ρ σ fun d σ₁ => assignW t d ρ fun ρ' => Q .next ρ' σ₁
  | .ite t a b, ρ, σ, Q => tW k t ρ σ fun c σ₁ => (c = true → exsW k X a ρ σ₁ Q) ∧ (c = false → exsW k X b ρ σ₁ Q)
  | .loop t it body, ρ, σ, Q => match it with
    | .zip a b => evW k a ρ σ fun d σ₁ => evW k b ρ σ₁ fun d' σ₂ => zipW t d d' ρ σ₂ (fun ρ₂ σb P => exsW k X body ρ₂ σb P) Q
    | it => evW k it ρ σ fun d σ₁ => ∃ xs, itemsD σ₁ d = some xs ∧ xs.length ≤ line ∧
      ∃ I : Nat → Loc → Sto → Prop, I 0 ρ σ₁ ∧
        (∀ i ρ' σ', I i ρ' σ' → i ≤ xs.length → stillD σ₁ σ' d ∧ ∀ x, xs[i]? = some x → assignW t x ρ' fun ρ₂ => exsW k X body ρ₂ σ' fun fl ρ₃ σ₃ =>
          match fl with
          | .next | .cont => I (i + 1) ρ₃ σ₃
          | .brk => Q .next ρ₃ σ₃
          | .ret d => Q (.ret d) ρ₃ σ₃) ∧
        ∀ ρ' σ', I xs.length ρ' σ' → Q .next ρ' σ'
  | .while t body, ρ, σ, Q => ∃ (I : Nat → Loc → Sto → Prop) (n : Nat), I n ρ σ ∧
      ∀ n ρ' σ', I n ρ' σ' → tW k t ρ' σ' fun c σ₂ => (c = false → Q .next ρ' σ₂) ∧ (c = true → exsW k X body ρ' σ₂ fun fl ρ₃ σ₃ =>
        match fl with
        | .next | .cont => ∃ m, m < n ∧ I m ρ₃ σ₃
        | .brk => Q .next ρ₃ σ₃
        | .ret d => Q (.ret d) ρ₃ σ₃)
  | .ret e, ρ, σ, Q => evW k e ρ σ fun d σ₁ => Q (.ret d) ρ σ₁
  | .cont, ρ, σ, Q => Q .cont ρ σ
  | .expr e, ρ, σ, Q => evW k e ρ σ fun _ σ₁ => Q .next ρ σ₁
  | .raise c _, _, σ, _ => X c σ
def exsW (k : Kx) (X : PostX) : List Sx → Loc → Sto → PostS → Prop
  | [], ρ, σ, Q => Q .next ρ σ
  | s :: r, ρ, σ, Q => exW k X s ρ σ fun fl ρ₁ σ₁ => match fl with
    | .next => exsW k X r ρ₁ σ₁ Q
    | fl => Q fl ρ₁ σ₁
end

section rules
variable {k : Kx} {X : PostX} {ρ : Loc} {σ : Sto} {Q : PostS}
theorem wx_assign {t : Tgt} {e : Ex} : exW k X (.assign t e) ρ σ Q = evW k e ρ σ fun d σ₁ => assignW t d ρ fun ρ' => Q .next ρ' σ₁ := rfl
theorem wx_ite {t : Ex} {a b : List Sx} : exW k X (.ite t a b) ρ σ Q = tW k t ρ σ fun c σ₁ => (c = true → exsW k X a ρ σ₁ Q) ∧ (c = false → exsW k X b ρ σ₁ Q) := rfl
theorem wx_zip {t : Tgt} {a b : Ex} {body : List Sx} : exW k X (.loop t (.zip a b) body) ρ σ Q = evW k a ρ σ fun d σ₁ => evW k b ρ σ₁ fun d' σ₂ => zipW t d d' ρ σ₂ (fun ρ₂ σb P => exsW k X body ρ₂ σb P) Q := rfl
theorem wx_ret {e : Ex} : exW k X (.ret e) ρ σ Q = evW k e ρ σ fun d σ₁ => Q (.ret d) ρ σ₁ := rfl
theorem wx_expr {e : Ex} : exW k X (.expr e) ρ σ Q = evW k e ρ σ fun _ σ₁ => Q .next ρ σ₁ := rfl
end rules

/-- how a def ends -/
def retW (Q : PostE) : PostS := fun fl _ σ' => match fl with
  | .ret d => Q d σ'
  | .next => Q .none σ'
  | _ => False

/-! the text is the program's -/
def isLoc (sc : Scope) (x : String) : Bool := match sc.names.lookup (Str.ofString x) with
  | some .local | some .cell | some .free => x != ".0" && !(Str.ofString x == ("__classdict__" : Str)) && !(Str.ofString x == ("__debug__" : Str))
  | _ => false
def isStore (l : Bool) (sc : Scope) (x : String) : Bool := match sc.names.lookup (Str.ofString x) with
  | some .local => true
  | some .cell => !l
  | _ => false
def isGlob (sc : Scope) (x : String) : Bool := (sc.names.lookup (Str.ofString x) == some .globalImplicit) && !(Str.ofString x == ("__debug__" : Str))
def mTgt (l : Bool) (sc : Scope) : Tgt → Expr → Bool
  | .name x, .Name y _ => y == Str.ofString x && isStore l sc x
  | .tup xs, .Tuple es _ _ => go xs es
  | _, _ => false
where go : List String → List Expr → Bool
  | [], [] => true
  | x :: xs, .Name y _ :: es => y == Str.ofString x && isStore l sc x && go xs es
  | _, _ => false
/-- the scope of a comprehension, and what it asks of the frame's -/
def compScOk (sc csc : Scope) (t : Tgt) : Bool := csc.kind == .function && csc.names.all fun x => match x.2 with
  | .local => csc.names.lookup x.1 == some .local && (x.1 == Str.ofString ".0" || (match t with | .name y => x.1 == Str.ofString y | .tup ys => ys.any fun y => x.1 == Str.ofString y))
  | .free => sc.names.lookup x.1 == some .cell || sc.names.lookup x.1 == some .free
  | .globalImplicit => true
  | _ => false
def relab (sc csc : Scope) : Scope := { csc with names := csc.names.map fun (n, k) => if k == .free && sc.kind == .function && sc.names.lookup n == some .cell then (n, .cell) else (n, k) }

theorem an {a b : Bool} (h : (a && b) = true) : a = true ∧ b = true := Bool.and_eq_true_iff.mp h
/-- no star -/
def noStar : Expr → Bool
  | .Starred .. => false
  | _ => true
def isNoneEx : Ex → Bool
  | .none => true
  | _ => false
mutual
def mEx : Ex → Scope → Expr → Bool
  | .none, _, .Constant .none _ _ => true
  | .bool b, _, .Constant (.bool c) _ _ => b == c
  | .int i, _, .Constant (.int j) _ _ => i == j
  | .str x, _, .Constant (.str y) _ _ => y == Str.ofString x
  | .loc x, sc, .Name y _ => y == Str.ofString x && isLoc sc x
  | .glob x, sc, .Name y _ => y == Str.ofString x && isGlob sc x
  | .bin op a b, sc, .BinOp l o r _ => op == o && mEx a sc l && mEx b sc r
  | .not a, sc, .UnaryOp .Not x _ => mEx a sc x
  | .neg i, _, .UnaryOp .USub (.Constant (.int j) _ _) _ => i == j
  | .and xs, sc, .BoolOp .And vs _ => mExs xs sc vs
  | .or xs, sc, .BoolOp .Or vs _ => mExs xs sc vs
  | .cmp a ops bs, sc, .Compare l os rs _ => mEx a sc l && ops == os && mExs bs sc rs && rs.all fun | .Set .. => false | _ => true
  | .call f xs, sc, .Call (.Name y _) as [] _ => y == Str.ofString f && isGlob sc f && mExs xs sc as && as.all fun | .Starred .. => false | _ => true
  | .bcall f xs, sc, .Call (.Name y _) as [] _ => y == Str.ofString f && isGlob sc f && mExs xs sc as && as.all fun | .Starred .. => false | _ => true
  | .meth o m xs, sc, .Call (.Attribute v y ap) as [] p => y == Str.ofString m && ap.endLine == p.line && decide (as.length < 30) && mEx o sc v && mExs xs sc as && (as.all fun | .Starred .. => false | _ => true) && (match v with | .Call .. => false | _ => true)
  | .item a i, sc, .Subscript v s _ => mEx a sc v && mEx i sc s && (match s with | .Slice .. => false | _ => true)
  | .slice a lo hi, sc, .Subscript v (.Slice l u none _) _ => mEx a sc v && (match l with | none => isNoneEx lo | some e => mEx lo sc e) && (match u with | none => isNoneEx hi | some e => mEx hi sc e)
  | .tup xs, sc, .Tuple es _ _ => mExs xs sc es && (es.all fun | .Starred .. => false | _ => true) && decide (es.length ≤ 100)
  | .list xs, sc, .List es _ => mExs xs sc es && (es.all fun | .Starred .. => false | _ => true) && decide (es.length ≤ 100)
  | .comp elt t it ifs, sc, .ListComp e [⟨t', i', fs, as⟩] csc _ => as == 0 && compScOk sc csc t && mEx it sc i' && mTgt true (relab sc csc) t t' && mExs ifs (relab sc csc) fs && mEx elt (relab sc csc) e && (match i' with | .Set .. => false | _ => true)
  | .zip a b, sc, .Call (.Name y _) [x, z] [] _ => y == Str.ofString "zip" && isGlob sc "zip" && mEx a sc x && mEx b sc z && [x, z].all noStar
  | _, _, _ => false
def mExs : List Ex → Scope → List Expr → Bool
  | [], _, [] => true
  | x :: xs, sc, e :: es => mEx x sc e && mExs xs sc es
  | _, _, _ => false
end
def mOpt (x : Ex) (sc : Scope) (o : Option Expr) : Bool := match o with
  | none => isNoneEx x
  | some e => mEx x sc e
end
end Mine

/-! LM4a -/
open PySem
set_option Elab.async false
set_option autoImplicit false
set_option linter.unusedVariables false
namespace Mine
noncomputable section

structure Room (A : Around) : Prop where
  handled : A.handled = none
  units : A.units + 60 < cLine

def PV (C : Cx) (fix : Fix) (f : Fr) (ρ : Loc) (h₀ : Heap) (Q : PostE) (v : Value) (s' : Shared) : Prop := ∃ d σ', Rel C fix f ρ σ' s' ∧ Grow h₀ s'.heap ∧ Is s'.heap d v ∧ Q d σ'
def PVB (C : Cx) (fix : Fix) (h₀ : Heap) (Q : PostE) (v : Value) (s' : Shared) : Prop := ∃ d σ', RelB C fix σ' s' ∧ Grow h₀ s'.heap ∧ Is s'.heap d v ∧ Q d σ'
def PB (C : Cx) (fix : Fix) (f : Fr) (ρ : Loc) (h₀ : Heap) (Q : Bool → Sto → Prop) (b : Bool) (s' : Shared) : Prop := ∃ σ', Rel C fix f ρ σ' s' ∧ Grow h₀ s'.heap ∧ Q b σ'
def PVs (C : Cx) (fix : Fix) (f : Fr) (ρ : Loc) (h₀ : Heap) (Q : List D → Sto → Prop) (vs : List Value) (s' : Shared) : Prop := ∃ ds σ', Rel C fix f ρ σ' s' ∧ Grow h₀ s'.heap ∧ IsAll s'.heap ds vs ∧ Q ds σ'
def PU (C : Cx) (fix : Fix) (f : Fr) (ρ : Loc) (h₀ : Heap) (Q : Sto → Prop) (s' : Shared) : Prop := ∃ σ', Rel C fix f ρ σ' s' ∧ Grow h₀ s'.heap ∧ Q σ'

theorem PV.grow {C : Cx} {fix : Fix} {f : Fr} {ρ : Loc} {h₀ h₁ : Heap} {Q : PostE} {v : Value} {s' : Shared} (x : PV C fix f ρ h₁ Q v s') (g : Grow h₀ h₁) : PV C fix f ρ h₀ Q v s' :=
  let ⟨d, σ, a, b, c, e⟩ := x; ⟨d, σ, a, g.trans b, c, e⟩
theorem PB.grow {C : Cx} {fix : Fix} {f : Fr} {ρ : Loc} {h₀ h₁ : Heap} {Q : Bool → Sto → Prop} {v : Bool} {s' : Shared} (x : PB C fix f ρ h₁ Q v s') (g : Grow h₀ h₁) : PB C fix f ρ h₀ Q v s' :=
  let ⟨σ, a, b, e⟩ := x; ⟨σ, a, g.trans b, e⟩
def AWe (C : Cx) (A : Around) (fix : Fix) (f : Fr) (t : Sem Value) (ρ : Loc) (σ : Sto) (Q : PostE) : Prop := ∀ E s, Rel C fix f ρ σ s → wpAny (model C.prog C.w) A t (PV C fix f ρ s.heap Q) E s
def AWt (C : Cx) (A : Around) (fix : Fix) (f : Fr) (t : Sem Bool) (ρ : Loc) (σ : Sto) (Q : Bool → Sto → Prop) : Prop := ∀ E s, Rel C fix f ρ σ s → wpAny (model C.prog C.w) A t (PB C fix f ρ s.heap Q) E s
def AWs (C : Cx) (A : Around) (fix : Fix) (f : Fr) (t : Sem (List Value)) (ρ : Loc) (σ : Sto) (Q : List D → Sto → Prop) : Prop := ∀ E s, Rel C fix f ρ σ s → wpAny (model C.prog C.w) A t (PVs C fix f ρ s.heap Q) E s

def GlobIs (h : Heap) (x : String) (v : Value) : Prop := ∃ mg, h.Ns mainGlobals mg ∧ (mg (Str.ofString x) = some v ∨ (mg (Str.ofString x) = none ∧ ∃ mb, h.Ns builtinsNs mb ∧ mb (Str.ofString x) = some v))
structure FrOk (f : Fr) : Prop where
  kind : f.env.scope.kind = .function
  globals : f.env.globals = mainGlobals
  builtins : f.env.builtins = builtinsNs
def StOk (f : Fr) : Prop := ∀ x c, f.env.kindOf x = some .cell → f.env.cells.lookup x = some c → c ∈ f.own
def Keeps (G : Fix) (h : Heap) : Prop := ∀ a o, G a o → h.get? a = some o
theorem Rel.keeps {C : Cx} {fix : Fix} {f : Fr} {ρ : Loc} {σ : Sto} {s : Shared} {G : Fix} (R : Rel C fix f ρ σ s) (hG : ∀ a o, G a o → fix a o) : Keeps G s.heap := fun a o g => R.fixed a o (hG a o g)

structure KOk (C : Cx) (k : Kx) (A : Around) (G : Fix) : Prop where
  glob : ∀ x d, k.glob x = some d → ∀ h : Heap, Keeps G h → ∃ v, GlobIs h x v ∧ Is h d v
  blt : ∀ x v, bltOf x = some v → ∀ h, Keeps G h → GlobIs h x v
  addr : ∀ g a, k.addr g = some a → (∀ h, Keeps G h → GlobIs h g (.ref a)) ∧ ∃ o fd, G a o ∧ o.data = .func fd
  call : ∀ g a ds σ Q, k.addr g = some a → k.call g ds σ Q →
    ∀ fix E s vs, (∀ a o, G a o → fix a o) → RelB C fix σ s → IsAll s.heap ds vs → wpAny (model C.prog C.w) A (call (.ref a) vs) (PVB C fix s.heap Q) E s
  sysm : ∃ o, G sysModules o
theorem KOk.callF {C : Cx} {k : Kx} {A : Around} {G : Fix} (K : KOk C k A G) {g : String} {a : Addr} {ds : List D} {σ : Sto} {Q : PostE} (ha : k.addr g = some a) (h : k.call g ds σ Q)
    {fix : Fix} {f : Fr} {ρ : Loc} {E : Value → Shared → Prop} {s : Shared} {vs : List Value} (hG : ∀ a o, G a o → fix a o) (R : Rel C fix f ρ σ s) (hd : IsAll s.heap ds vs) :
    wpAny (model C.prog C.w) A (PySem.call (.ref a) vs) (PV C fix f ρ s.heap Q) E s :=
  wpAny_mono (K.call g a ds σ Q ha h _ E s vs (fun a o h => .inl (hG a o h)) R.base hd) (fun v s' h' => let ⟨d, σ', B, gr, i, q⟩ := h'; ⟨d, σ', B.frame R gr, gr, i, q⟩) fun _ _ x => x

section
variable {C : Cx} {fix : Fix} {f : Fr} {ρ : Loc} {σ : Sto} {s : Shared} {A : Around} {E : Value → Shared → Prop} {Q : PostE}

theorem wp_global {x : String} {v : Value} {pos : Pos} {Q : Value → Shared → Prop} (hf : FrOk f) (hx : isGlob f.env.scope x = true) (hg : GlobIs s.heap x v) (h : Q v s) :
    wpAny (model C.prog C.w) A (eval (.Name (Str.ofString x) pos) f.env) Q E s := by
  unfold isGlob at hx
  simp only [Bool.and_eq_true, beq_iff_eq, Bool.not_eq_true'] at hx
  refine Calls.Name_function_global hf.kind hx.1 ?_ hx.2
  obtain ⟨mg, hn, hv | ⟨hv, mb, hb, hv'⟩⟩ := hg
  · exact Calls.loadGlobal_global (by rw [hf.globals]; exact hn) hv h
  · exact Calls.loadGlobal_builtin (by rw [hf.globals]; exact hn) hv (by rw [hf.builtins]; exact hb) hv' h

theorem wp_local {x : String} {d : D} {pos : Pos} {Q : Value → Shared → Prop} (R : Rel C fix f ρ σ s) (hf : FrOk f) (hx : isLoc f.env.scope x = true) (hd : ρ x = some d) (h : ∀ v, Is s.heap d v → Q v s) :
    wpAny (model C.prog C.w) A (eval (.Name (Str.ofString x) pos) f.env) Q E s := by
  unfold isLoc at hx
  have hq : (x != ".0" && !(Str.ofString x == ("__classdict__" : Str)) && !(Str.ofString x == ("__debug__" : Str))) = true ∧ (f.env.kindOf (Str.ofString x) = some .local ∨ f.env.kindOf (Str.ofString x) = some .cell ∨ f.env.kindOf (Str.ofString x) = some .free) := by
    split at hx
    · rename_i e; exact ⟨hx, .inl e⟩
    · rename_i e; exact ⟨hx, .inr (.inl e)⟩
    · rename_i e; exact ⟨hx, .inr (.inr e)⟩
    · cases hx
  obtain ⟨hq, hk⟩ := hq
  simp only [Bool.and_eq_true, Bool.not_eq_true', bne_iff_ne, ne_eq] at hq
  exact wpAny_Name (wp_load R hf.kind hd hq.1.1 hq.1.2 hk h) hq.2

theorem truth_sound {d : D} {v : Value} {Q : Bool → Prop} {P : Bool → Shared → Prop} (hd : Is s.heap d v) (h : truthW d Q) (k : ∀ b, Q b → P b s) : wpAny (model C.prog C.w) A (truthy v) P E s := by
  cases hd with
  | bool b => exact wpAny_truthy_bool (k b h)
  | none => exact h.elim
  | int => exact h.elim
  | str => exact h.elim
  | tup => exact h.elim
  | rng => exact h.elim
  | ref => exact h.elim
  | val => exact h.elim
end

end
end Mine

/-! LO1 -/
open PySem
set_option Elab.async false
set_option autoImplicit false
set_option linter.unusedVariables false
namespace Mine
noncomputable section
section ops
variable {C : Cx} {fix : Fix} {f : Fr} {ρ : Loc} {σ : Sto} {s : Shared} {A : Around} {E : Value → Shared → Prop} {Q : PostE}
theorem sizeLine_line' : sizeLine = line := by with_unfolding_all rfl

theorem PV.tok {d : D} {v : Value} {tk : Nat} (R : Rel C fix f ρ σ s) (hd : Is s.heap d v) (h : Q d σ) : PV C fix f ρ s.heap Q v { s with toks := tk } := ⟨d, σ, R.tok, Grow.refl _, hd, h⟩
theorem PV.here {d : D} {v : Value} (R : Rel C fix f ρ σ s) (hd : Is s.heap d v) (h : Q d σ) : PV C fix f ρ s.heap Q v s := ⟨d, σ, R, Grow.refl _, hd, h⟩
theorem PV.newList {ds : List D} {vs : List Value} {tk : Nat} {n : Nat} (R : Rel C fix f ρ σ s) (hd : IsAll s.heap ds vs) (h : newW (.list ds) σ Q) :
    PV C fix f ρ s.heap Q (.ref s.heap.objs.size) { s with heap := s.heap.push { cls := .type "list", data := .seq vs.toArray n }, toks := tk } := by
  have keep : ∀ b o, s.heap.get? b = some o → (s.heap.push { cls := .type "list", data := .seq vs.toArray n }).get? b = some o := fun b o e => Heap.get?_push_of_some _ e
  exact ⟨.ref _, _, R.new (c := .list ds) get_size keep fun g => ⟨vs, n, Heap.get?_push_size _ rfl, hd.grow g⟩, .of_keeps keep, .ref _, h _ (R.fresh get_size).1⟩
theorem PV.newTup {ds : List D} {vs : List Value} {tk : Nat} {n : Nat} (R : Rel C fix f ρ σ s) (hd : IsAll s.heap ds vs) (h : Q (.tup ds) σ) :
    PV C fix f ρ s.heap Q (.ref s.heap.objs.size) { s with heap := s.heap.push { cls := .type "tuple", data := .seq vs.toArray n }, toks := tk } := by
  have keep : ∀ b o, s.heap.get? b = some o → (s.heap.push { cls := .type "tuple", data := .seq vs.toArray n }).get? b = some o := fun b o e => Heap.get?_push_of_some _ e
  exact ⟨.tup ds, σ, R.ext keep, .of_keeps keep, .tup (Heap.get?_push_size _ rfl) (hd.grow (.of_keeps keep)), h⟩

theorem bin_sound {op : Operator} {a b : D} {va vb : Value} (hA : Room A) (R : Rel C fix f ρ σ s) (ha : Is s.heap a va) (hb : Is s.heap b vb) (h : binW op a b σ Q) :
    wpAny (model C.prog C.w) A (binaryOp op va vb) (PV C fix f ρ s.heap Q) E s := by
  unfold binW at h
  split at h
  · unfold addW at h
    split at h
    · cases ha; cases hb; exact P.add_int (.tok R (.int ..) h)
    · cases ha with | tup ho rx => cases hb with | tup ho2 ry =>
      rename_i xs ys t vs n t2 ws n2
      have hlx := rx.length
      have hly := ry.length
      by_cases hv : vs = []
      · refine concat_meets ⟨_, ho, rfl⟩ ⟨_, ho2, rfl⟩ noFill_tuple_add seq_tuple_add PySem.F.slot_tuple_add PySem.F.entry_tuple_add (PySem.F.args_tuple_add_2 _ _)
          (PyProof.Rows.tuple_addW0 t t2 vs.toArray ws.toArray n n2 _ _ _ _ (by simp [hv])) ⟨ho, ho2, ?_⟩
        subst hv
        cases rx
        exact .here R (.tup ho2 ry) (by simpa using h.2)
      · by_cases hw : ws = []
        · refine concat_meets ⟨_, ho, rfl⟩ ⟨_, ho2, rfl⟩ noFill_tuple_add seq_tuple_add PySem.F.slot_tuple_add PySem.F.entry_tuple_add (PySem.F.args_tuple_add_2 _ _)
            (PyProof.Rows.tuple_addW1 t t2 vs.toArray ws.toArray n n2 _ _ _ _ (by simpa using hv) (by simp [hw])) ⟨ho, ho2, ?_⟩
          subst hw
          cases ry
          exact .here R (.tup ho rx) (by simpa using h.2)
        · refine concat_meets ⟨_, ho, rfl⟩ ⟨_, ho2, rfl⟩ noFill_tuple_add seq_tuple_add PySem.F.slot_tuple_add PySem.F.entry_tuple_add (PySem.F.args_tuple_add_2 _ _)
            (PyProof.Rows.tuple_addW2 t t2 vs.toArray ws.toArray n n2 _ _ _ _ (by simpa using hv) (by simpa using hw) (by rw [List.size_toArray, List.size_toArray, sizeLine_line', ← hlx, ← hly]; exact h.1)) ⟨ho, ho2, ?_⟩
          rw [List.append_toArray]
          exact .newTup R (rx.append ry) h.2
    · obtain ⟨xs, ys, hp, hq, hl, h⟩ := h
      cases ha; cases hb
      rename_i p q
      obtain ⟨vs, n, ho, rx⟩ := R.sto p _ hp
      obtain ⟨ws, n2, ho2, ry⟩ := R.sto q _ hq
      have hlx := rx.length
      have hly := ry.length
      refine concat_meets ⟨_, ho, rfl⟩ ⟨_, ho2, rfl⟩ noFill_list_add seq_list_add PySem.F.slot_list_add PySem.F.entry_list_add (PySem.F.args_list_add_2 _ _)
        (PyProof.Rows.list_addW p q vs.toArray ws.toArray n n2 _ _ _ _ (by rw [List.size_toArray, List.size_toArray, sizeLine_line', ← hlx, ← hly]; exact hl)) ⟨ho, ho2, ?_⟩
      rw [List.append_toArray]
      exact .newList R (rx.append ry) h
    · exact h.elim
  · unfold intsW at h
    split at h
    · cases ha; cases hb; exact P.sub_int (.tok R (.int ..) h)
    · exact h.elim
  · unfold intsW at h
    split at h
    · cases ha; cases hb
      refine P.mul_int (.tok R (.int ..) h.2) ?_
      rcases h.1 with q | q
      · exact .of_left (intBits_le_64 (by omega) (by omega))
      · exact .of_right (intBits_le_64 (by omega) (by omega))
    · exact h.elim
  · unfold intsW at h
    split at h
    · cases ha; cases hb
      refine PyProof.Rows.mod_int' (by omega) ?_
      rw [Int.fmod_eq_emod_of_nonneg _ (by omega)]
      exact .tok R (.int ..) h.2
    · exact h.elim
  · unfold intsW at h
    split at h
    · cases ha; cases hb
      refine PyProof.Rows.floordiv_int (by omega) ?_ (.inl (PyProof.noPylong_small (by omega)))
      rw [Int.fdiv_eq_ediv_of_nonneg _ (by omega)]
      exact .tok R (.int ..) h.2
    · exact h.elim
  · exact h.elim
end ops
end
end Mine

/-! LO2 -/
open PySem
set_option Elab.async false
set_option autoImplicit false
set_option linter.unusedVariables false
namespace Mine
noncomputable section
theorem strOk_ofString (x : String) : PyData.strOk (Str.ofString x) = true := by
  unfold PyData.strOk
  rw [Str.ofString_eq_toList]
  simp only [List.all_toArray, List.all_map, List.all_eq_true, Function.comp]
  intro c _
  simp only [decide_eq_true_eq]
  have hv := c.valid
  unfold UInt32.isValidChar Nat.isValidChar at hv
  show c.val.toNat < _
  omega
mutual
theorem toPy_reads {h : Heap} : ∀ {d : D} {v : Value} {n : Nat}, Is h d v → d.pureAt n = true → ∃ as, Reads h v (toPy d) as ∧ (toPy d).canLay0 = true ∧ (toPy d).depth ≤ n
  | _, _, n, .none, _ => ⟨_, .none, rfl, Nat.zero_le _⟩
  | _, _, n, .bool b, _ => ⟨_, .bool b, rfl, Nat.zero_le _⟩
  | _, _, n, .int i t, _ => ⟨_, .int i t, rfl, Nat.zero_le _⟩
  | _, _, n, .str x t, _ => ⟨_, .str _ t, strOk_ofString x, Nat.zero_le _⟩
  | _, _, 0, .tup e r, k => absurd k Bool.false_ne_true
  | _, _, n + 1, .tup e r, k => by
    have ⟨as, x, y, z⟩ := toPys_reads (n := n) r k
    exact ⟨_, .tuple e rfl rfl (by simpa using x), y, Nat.succ_le_succ z⟩
  | _, _, 0, .rng e, k => absurd k Bool.false_ne_true
  | _, _, n + 1, .rng e, k => absurd k Bool.false_ne_true
  | _, _, 0, .ref e, k => absurd k Bool.false_ne_true
  | _, _, n + 1, .ref e, k => absurd k Bool.false_ne_true
  | _, _, 0, .val e, k => absurd k Bool.false_ne_true
  | _, _, n + 1, .val e, k => absurd k Bool.false_ne_true
theorem toPys_reads {h : Heap} : ∀ {ds : List D} {vs : List Value} {n : Nat}, IsAll h ds vs → D.puresAt n ds = true → ∃ as, ReadsAll h vs (toPys ds) as ∧ PyData.canLayAll0 (toPys ds) = true ∧ PyData.depthAll (toPys ds) ≤ n
  | _, _, n, .nil, _ => ⟨_, .nil, rfl, Nat.zero_le _⟩
  | _, _, n, .cons x r, k => by
    replace k := an k
    have ⟨as, a, b, c⟩ := toPy_reads x k.1
    have ⟨bs, a', b', c'⟩ := toPys_reads r k.2
    exact ⟨_, .cons a a', Bool.and_eq_true_iff.mpr ⟨b, b'⟩, Nat.max_le.mpr ⟨c, c'⟩⟩
end
mutual
theorem deq_eqv : ∀ (a b : D) {n m : Nat}, a.pureAt n = true → b.pureAt m = true → PyData.eqv (toPy a) (toPy b) = deq a b
  | .none, b, n, m, _, hb => by cases b <;> first | (cases m <;> cases hb; done) | rfl | simp [toPy, PyData.eqv, deq]
  | .bool x, b, n, m, _, hb => by cases b <;> first | (cases m <;> cases hb; done) | rfl | simp [toPy, PyData.eqv, deq, b2i]
  | .int x, b, n, m, _, hb => by cases b <;> first | (cases m <;> cases hb; done) | rfl | simp [toPy, PyData.eqv, deq, b2i]
  | .str x, b, n, m, _, hb => by
    cases b with
    | str y =>
      show (Str.ofString x == Str.ofString y) = (x == y)
      by_cases h : x = y
      · subst h; simp
      · rw [beq_eq_false_iff_ne.mpr h, beq_eq_false_iff_ne.mpr fun e => h (ofString_inj e)]
    | _ => first | (cases m <;> cases hb; done) | rfl | simp [toPy, PyData.eqv, deq, b2i]
  | .tup x, b, 0, m, ha, hb => absurd ha Bool.false_ne_true
  | .tup x, b, n + 1, m, ha, hb => by
    cases b with
    | tup y =>
      cases m with
      | zero => exact absurd hb Bool.false_ne_true
      | succ m =>
        exact deqs_eqv x y (n := n) (m := m) ha hb
    | _ => first | (cases m <;> cases hb; done) | rfl | simp [toPy, PyData.eqv, deq, b2i]
  | .rng x, b, n, m, ha, hb => by cases n <;> exact absurd ha Bool.false_ne_true
  | .ref x, b, n, m, ha, hb => by cases n <;> exact absurd ha Bool.false_ne_true
  | .val x, b, n, m, ha, hb => by cases n <;> exact absurd ha Bool.false_ne_true
theorem deqs_eqv : ∀ (a b : List D) {n m : Nat}, D.puresAt n a = true → D.puresAt m b = true → PyData.eqvAll (toPys a) (toPys b) = deqs a b
  | [], [], _, _, _, _ => rfl
  | [], _ :: _, _, _, _, _ => rfl
  | _ :: _, [], _, _, _, _ => rfl
  | x :: xs, y :: ys, n, m, ha, hb => by
    replace ha := an ha; replace hb := an hb
    show (PyData.eqv (toPy x) (toPy y) && PyData.eqvAll (toPys xs) (toPys ys)) = (deq x y && deqs xs ys)
    rw [deq_eqv x y ha.1 hb.1, deqs_eqv xs ys ha.2 hb.2]
end
section ops
variable {C : Cx} {fix : Fix} {f : Fr} {ρ : Loc} {σ : Sto} {s : Shared} {A : Around} {E : Value → Shared → Prop} {Q : PostE}
theorem eqW_reads {a b : D} {va vb : Value} {P : Bool → Prop} (hA : Room A) (R : Rel C fix f ρ σ s) (ha : Is s.heap a va) (hb : Is s.heap b vb) (h : eqW σ a b P) :
    ∃ p q as bs, Reads s.heap va p as ∧ Reads s.heap vb q bs ∧ p.canLay0 = true ∧ q.canLay0 = true ∧ A.units + min p.depth q.depth < cLine ∧ P (PyData.eqv p q) := by
  have hu := hA.units
  unfold eqW at h
  split at h
  · rename_i k
    simp only [Bool.and_eq_true] at k
    obtain ⟨as, x, y, z⟩ := toPy_reads ha k.1
    obtain ⟨bs, x', y', z'⟩ := toPy_reads hb k.2
    exact ⟨_, _, _, _, x, x', y, y', by omega, by rw [deq_eqv a b k.1 k.2]; exact h⟩
  · obtain ⟨p, q, xs, rfl, rfl, hp, hq, hx, h⟩ := h
    cases ha; cases hb
    obtain ⟨vs, n, ho, r⟩ := R.sto _ _ hp
    obtain ⟨ws, m, ho2, r2⟩ := R.sto _ _ hq
    cases r2
    obtain ⟨as, x, y, _⟩ := toPys_reads r hx
    refine ⟨.list (toPys xs), .list [], _, _, .list ho rfl rfl (by simpa using x), .list ho2 rfl rfl .nil, y, rfl, by show A.units + min _ 1 < _; omega, ?_⟩
    cases xs with
    | nil => exact h
    | cons x xs => exact h
theorem eq_sound {a b : D} {va vb : Value} (hA : Room A) (R : Rel C fix f ρ σ s) (ha : Is s.heap a va) (hb : Is s.heap b vb) (h : eqW σ a b fun r => Q (.bool r) σ) :
    wpAny (model C.prog C.w) A (compareOp .Eq va vb) (PV C fix f ρ s.heap Q) E s := by
  obtain ⟨p, q, as, bs, x, x', y, y', hu, e⟩ := eqW_reads hA R ha hb h
  exact SeqAt.compareEq_reads x x' y y' hu (.here R (.bool _) e)
theorem ne_sound {a b : D} {va vb : Value} (hA : Room A) (R : Rel C fix f ρ σ s) (ha : Is s.heap a va) (hb : Is s.heap b vb) (h : eqW σ a b fun r => Q (.bool (!r)) σ) :
    wpAny (model C.prog C.w) A (compareOp .NotEq va vb) (PV C fix f ρ s.heap Q) E s := by
  obtain ⟨p, q, as, bs, x, x', y, y', hu, e⟩ := eqW_reads hA R ha hb h
  exact SeqAt.compareNe_reads x x' y y' hu (.here R (.bool _) e)

open Classical in
/-- is the value the datum's like -/
noncomputable def eqTo (h : Heap) (x : D) (v : Value) : Bool := decide (∃ d, d.pure = true ∧ Is h d v ∧ deq d x = true)
theorem eqTo_is {h : Heap} {x d : D} {v : Value} (hx : x.pure = true) (hd : d.pure = true) (i : Is h d v) : eqTo h x v = deq d x := by
  unfold eqTo
  cases e : deq d x with
  | true => simp only [decide_eq_true_eq]; exact ⟨d, hd, i, e⟩
  | false =>
    simp only [decide_eq_false_iff_not]
    rintro ⟨d', k, i', e'⟩
    obtain ⟨as, a, b, _⟩ := toPy_reads i hd
    obtain ⟨as', a', b', _⟩ := toPy_reads i' k
    have := SeqAt.Reads.unique _ _ _ _ _ b a a'
    rw [← deq_eqv _ _ k hx, ← this, deq_eqv _ _ hd hx, e] at e'
    cases e'
theorem eqTo_any {h : Heap} {x : D} (hx : x.pure = true) : ∀ {ds : List D} {vs : List Value}, IsAll h ds vs → D.pures ds = true → vs.any (eqTo h x) = ds.any (fun y => deq y x)
  | _, _, .nil, _ => rfl
  | _, _, .cons i r, k => by
    simp only [D.pures, D.puresAt, Bool.and_eq_true] at k
    rw [List.any_cons, List.any_cons, eqTo_is hx k.1 i, eqTo_any hx r k.2]
theorem eqTo_count {h : Heap} {x : D} (hx : x.pure = true) : ∀ {ds : List D} {vs : List Value}, IsAll h ds vs → D.pures ds = true → vs.countP (eqTo h x) = ds.countP (fun y => deq y x)
  | _, _, .nil, _ => rfl
  | _, _, .cons i r, k => by
    simp only [D.pures, D.puresAt, Bool.and_eq_true] at k
    rw [List.countP_cons, List.countP_cons, eqTo_is hx k.1 i, eqTo_count hx r k.2]
theorem pures_get {ds : List D} {i : Nat} {d : D} {n : Nat} (h : D.puresAt n ds = true) (e : ds[i]? = some d) : d.pureAt n = true := by
  induction ds generalizing i with
  | nil => simp at e
  | cons x r ih =>
    simp only [D.puresAt, Bool.and_eq_true] at h
    cases i with
    | zero => simp at e; subst e; exact h.1
    | succ i => exact ih h.2 (by simpa using e)
theorem eqTo_at {x : D} {vx : Value} {ds : List D} {vs : List Value} (hA : A.units + 20 < cLine) (hx : x.pure = true) (ix : Is s.heap x vx) (r : IsAll s.heap ds vs) (k : D.pures ds = true) :
    ∀ y, y ∈ vs.toArray → SeqAt.EqAt A.in1 s y vx (eqTo s.heap x y) := by
  intro y hy
  simp only [List.mem_toArray] at hy
  obtain ⟨i, hi, e⟩ := List.getElem_of_mem hy
  obtain ⟨d, hd, id⟩ := r.get' (i := i) (v := y) (by rw [List.getElem?_eq_getElem hi, e])
  have kd : d.pure = true := pures_get k hd
  rw [eqTo_is hx kd id]
  obtain ⟨as, a, b, c⟩ := toPy_reads id kd
  obtain ⟨as', a', b', c'⟩ := toPy_reads ix hx
  rw [← deq_eqv _ _ kd hx]
  exact SeqAt.eqAt_reads _ _ _ _ _ _ _ _ a a' b b' (by show A.units + 1 + _ < _; omega)

theorem range_containsW (r : Addr) (n : Nat) (t u v : Tok) (x : Int) (tx : Tok) :
    Meets (Builtin.«range.__contains__» ⟨[.ref r, .int x tx], []⟩) (fun _ R s => s.heap.get? r = some { cls := .type "range", data := .fields #[.int 0 t, .int n u, .int 1 v] } ∧ R (.ok (.ret (.bool (decide (0 ≤ x ∧ x < n))))) s) :=
  .of_wp fun prog w A R s h => by
    obtain ⟨hp, g, d, tk, os⟩ := s
    obtain ⟨hl, h⟩ := h
    wp_walk using AutoSeq1.wpAny_loadPart' hl
    refine ⟨_, rfl, ?_⟩
    have e : (Builtin.Range.rangePlace? 0 n 1 x).isSome = decide (0 ≤ x ∧ x < n) := by
      unfold Builtin.Range.rangePlace?
      by_cases q : 0 ≤ x ∧ x < n
      · simp [q.1, q.2]
      · simp only [not_and] at q
        by_cases q1 : 0 ≤ x
        · simp [q1, q q1]
        · simp [q1]
    rw [e]
    exact h
end ops
end
end Mine

/-! LO4 -/
open PySem
set_option Elab.async false
set_option autoImplicit false
set_option linter.unusedVariables false
namespace Mine
noncomputable section
section ops
variable {C : Cx} {fix : Fix} {f : Fr} {ρ : Loc} {σ : Sto} {s : Shared} {A : Around} {E : Value → Shared → Prop} {Q : PostE}
theorem contains_meets {T id : String} {B : Builtin} {c x : Value} {S : Spec} {Q : Bool → Shared → Prop} {prog : Program} {w : World} (hT : s.TypeIs c T) (slot : Slot T "__contains__" id)
    (entry : entryFor table id = some B) (args : argsOk id ⟨[c, x], []⟩) (g : Meets (B ⟨[c, x], []⟩) S)
    (h : S A (wants (fun v s' => ∃ b, v = .bool b ∧ Q b s') E) s) : wpAny (model prog w) A (contains c x) Q E s := by
  refine wpAny_contains_slot hT slot (wpAny_mono (call_meets slot hT entry args g h) (fun v s' hv => ?_) fun _ _ e => e)
  obtain ⟨b, rfl, hq⟩ := hv
  exact wpAny_truthy_bool hq
theorem contains_sound {a b : D} {va vb : Value} {P : Bool → Prop} {Q : Bool → Shared → Prop} (hA : Room A) (hsys : ∃ o, fix sysModules o) (R : Rel C fix f ρ σ s) (ha : Is s.heap a va) (hb : Is s.heap b vb) (h : inW a b σ P)
    (k : ∀ r tk, P r → Q r { s with toks := tk }) :
    wpAny (model C.prog C.w) A (contains vb va) Q E s := by
  have hu := hA.units
  unfold inW at h
  split at h
  · cases hb with | @tup _ t vs n ho r =>
    refine contains_meets ⟨_, ho, rfl⟩ F.slot_tuple_contains F.entry_tuple_contains (F.args_tuple_contains_2 _ _) (SeqAt.tuple_containsAt t vs.toArray n _ _ va (eqTo s.heap a)) ⟨ho, eqTo_at (by omega) h.1 ha r h.2.1, _, rfl, ?_⟩
    rw [List.any_toArray, eqTo_any h.1 r h.2.1]
    exact k _ _ h.2.2
  · split at h
    · cases hb with | rng ho =>
      cases ha
      exact contains_meets (T := "range") ⟨_, ho, rfl⟩ F.slot_range_contains F.entry_range_contains (F.args_range_contains_2 _ _) (range_containsW _ _ _ _ _ _ _) ⟨ho, _, rfl, k _ _ h⟩
    · exact h.elim
  · cases hb
    split at h
    · rename_i q
      obtain ⟨vs, n, ho, r⟩ := R.sto _ _ q
      refine contains_meets ⟨_, ho, rfl⟩ F.slot_list_contains F.entry_list_contains (F.args_list_contains_2 _ _) (SeqAt.list_containsAt _ vs.toArray n _ _ va (eqTo s.heap a)) ⟨ho, eqTo_at (by omega) h.1 ha r h.2.1, _, rfl, ?_⟩
      rw [List.any_toArray, eqTo_any h.1 r h.2.1]
      exact k _ _ h.2.2
    · exact h.elim
  · exact h.elim

theorem cmp_sound {op : CmpOp} {a b : D} {va vb : Value} (hA : Room A) (hsys : ∃ o, fix sysModules o) (R : Rel C fix f ρ σ s) (ha : Is s.heap a va) (hb : Is s.heap b vb) (h : cmpW op a b σ Q) :
    wpAny (model C.prog C.w) A (compareOp op va vb) (PV C fix f ρ s.heap Q) E s := by
  unfold cmpW at h
  split at h
  · exact eq_sound hA R ha hb h
  · exact ne_sound hA R ha hb h
  · split at h
    · cases ha; cases hb; exact P.lt_int (.here R (.bool _) h)
    · exact h.elim
  · split at h
    · cases ha; cases hb; exact P.le_int (.here R (.bool _) h)
    · exact h.elim
  · split at h
    · cases ha; cases hb; exact P.gt_int (.here R (.bool _) h)
    · exact h.elim
  · split at h
    · cases ha; cases hb; exact P.ge_int (.here R (.bool _) h)
    · exact h.elim
  · exact h.elim
  · exact h.elim
  · show wpAny _ _ (do return Value.bool (← contains vb va)) _ _ _
    exact wpAny_bind (contains_sound hA hsys R ha hb h fun r tk hr => wpAny_pure (.tok R (.bool _) hr))
  · show wpAny _ _ (do return Value.bool (!(← contains vb va))) _ _ _
    exact wpAny_bind (contains_sound hA hsys R ha hb h fun r tk hr => wpAny_pure (.tok R (.bool _) hr))
end ops
end
end Mine

/-! LO5 -/
open PySem
set_option Elab.async false
set_option autoImplicit false
set_option linter.unusedVariables false
namespace Mine
noncomputable section
section ops
variable {C : Cx} {fix : Fix} {f : Fr} {ρ : Loc} {σ : Sto} {s : Shared} {A : Around} {E : Value → Shared → Prop} {Q : PostE}
theorem subTail {value slice : Expr} {o i : Value} {T id : String} {L : List Value} {Q : Value → Shared → Prop} {prog : Program} {w : World} (hT : s.TypeIs o T)
    (hl : typeLookup (.type T) "__getitem__" = pure (some (.builtin id))) (h : wpAny (model prog w) A (getItem o i) Q E s)
    (hs : subscripted slice false o i = operate L (getItem o i)) :
    wpAny (model prog w) A (PyProof.Rows.subscriptTail value slice o i) Q E s := by
  unfold PyProof.Rows.subscriptTail
  refine wpAny_bind ?_
  rw [getitemInPython_of_ne hT.not_modules]
  refine wpAny_bind (wpAny_specialOf hT hl ?_)
  have fin : wpAny (model prog w) A (subscripted slice false o i) (fun r s₃ => wpAny (model prog w) A (letTemporaryGo value o r >>= fun _ => pure r) Q E s₃) E s := by
    rw [hs]
    exact wpAny_operating (wpAny_mono h (fun r s₃ h₃ => wpAny_bind (wpAny_letTemporaryGo (wpAny_pure h₃))) fun _ _ x => x)
  first
    | exact wpAny_pure (wpAny_bind fin)
    | exact wpAny_bind (wpAny_pure (wpAny_bind fin))
    | exact wpAny_bind fin

theorem Rel.listOf (R : Rel C fix f ρ σ s) {p : Addr} {ds : List D} (h : Mine.listOf σ p = some ds) : ∃ vs : List Value, s.heap.IsList p vs.toArray ∧ IsAll s.heap ds vs := by
  unfold Mine.listOf at h
  split at h
  · rename_i q; cases h; obtain ⟨vs, n, e, r⟩ := R.sto _ _ q; exact ⟨vs, ⟨_, e, rfl, _, rfl⟩, r⟩
  · rename_i q; cases h; obtain ⟨e, c, vs, n, q, r⟩ := R.sto _ _ q; exact ⟨vs, ⟨_, e, c, _, q⟩, r⟩
  · cases h
theorem item_sound {value slice : Expr} {a b : D} {va vb : Value} (hA : Room A) (R : Rel C fix f ρ σ s) (ha : Is s.heap a va) (hb : Is s.heap b vb) (h : itemW a b σ Q)
    (hs : subscripted slice false va vb = operate [va, vb] (getItem va vb)) :
    wpAny (model C.prog C.w) A (PyProof.Rows.subscriptTail value slice va vb) (PV C fix f ρ s.heap Q) E s := by
  have hu := hA.units
  unfold itemW at h
  split at h
  · obtain ⟨d, h0, h1, hd, h⟩ := h
    rename_i ds i
    cases ha with | @tup _ t vs n ho r =>
    cases hb with | int _ u =>
    obtain ⟨v, hv, iv⟩ := r.get hd
    have hlt : i.toNat < vs.length := (List.getElem?_eq_some_iff.mp hv).1
    refine subTail (T := "tuple") ⟨_, ho, rfl⟩ F.slot_tuple_getitem.lookup (P.getItem_tuple (items := vs.toArray) (n := n) (k := i.toNat) (y := v) ho (by omega) (by omega) ?_ (by simpa using hv) (.here R iv h)) hs
    unfold seqIndex?
    simp only [List.size_toArray]
    have e1 : ¬ i < 0 := by omega
    have e2 : i < (vs.length : Int) := by omega
    simp [e1, e2, h0]
  · obtain ⟨ds, d, hp, h0, h1, hd, h⟩ := h
    cases ha; cases hb with | int i u =>
    obtain ⟨vs, ho, r⟩ := R.listOf hp
    obtain ⟨v, hv, iv⟩ := r.get hd
    exact subTail (T := "list") ho.typeIs slot_list_getitem.lookup (wpAny_getItem_list (items := vs.toArray) ho h0 (by omega) (by simpa using hv) (.here R iv h)) hs
  · exact h.elim

end ops
end
end Mine

/-! LO6 -/
open PySem
set_option Elab.async false
set_option autoImplicit false
set_option linter.unusedVariables false
namespace Mine
noncomputable section
/-- the part as the slice has it -/
def partOf : D → Option Int
  | .int i => some i
  | _ => none
theorem isPart_of {h : Heap} {d : D} {v : Value} {n k m : Nat} (i : Is h d v) (e : cutAt n k d = some m) : IsPart v (partOf d) := by
  cases i <;> first | exact .none | exact .int _ _ | (simp [cutAt] at e)
theorem clip3 (n m : Nat) (i : Int) (q : 0 ≤ i) (e : min i.toNat n = m) : (if i < 0 then max (i + n) 0 else min i (n : Int)) = (m : Int) := by omega
theorem cut_le {d : D} {n k m : Nat} (e : cutAt n k d = some m) (hk : k ≤ n) : m ≤ n := by
  cases d with
  | none => simp [cutAt] at e; omega
  | int i =>
    simp only [cutAt] at e
    split at e
    · injection e with e; omega
    · cases e
  | _ => simp [cutAt] at e
theorem IsAll.slice {h : Heap} {ds : List D} {vs : List Value} (x : IsAll h ds vs) (l u : Nat) : IsAll h (sliceOf ds l u) (sliceOf vs l u) := (x.take u).drop l
theorem adjust_eq {lo hi : D} {n l h : Nat} (hl : cutAt n 0 lo = some l) (hh : cutAt n n hi = some h) : Builtin.Slice.sliceAdjust (partOf lo) (partOf hi) 1 n = ((l : Int), (h : Int)) := by
  have key : ∀ (d : D) (k m : Nat), cutAt n k d = some m → k ≤ n → (match partOf d with | none => (k : Int) | some i => if i < 0 then max (i + n) 0 else min i (n : Int)) = (m : Int) := by
    intro d k m e hk
    cases d with
    | none => simp [cutAt] at e; subst e; rfl
    | int i =>
      simp only [cutAt] at e
      simp only [partOf]
      split at e
      · injection e with e
        exact clip3 n m i ‹_› e
      · cases e
    | _ => simp [cutAt] at e
  have e1 := key lo 0 l hl (Nat.zero_le _)
  have e2 := key hi n h hh (Nat.le_refl _)
  unfold Builtin.Slice.sliceAdjust
  simp only [show ¬ ((1 : Int) < 0) by decide, if_false]
  exact congr (congrArg Prod.mk e1) e2
theorem places_eq (l h : Nat) : Builtin.Slice.slicePlaces (l : Int) (h : Int) 1 = h - l := by
  unfold Builtin.Slice.slicePlaces
  have h1 : (1 : Int) > 0 := by omega
  simp only [h1, if_true, Int.ediv_one]
  split <;> omega
theorem pick_tup (vs : List Value) (l k : Nat) : ((List.range k).filterMap fun (k : Nat) => vs.toArray[((l : Int) + (k : Int) * 1).toNat]?) = (vs.drop l).take k := by
  have e : (fun (k : Nat) => vs.toArray[((l : Int) + (k : Int) * 1).toNat]?) = fun k => vs.toArray[l + k]? := by
    funext k
    have : ((l : Int) + (k : Int) * 1).toNat = l + k := by omega
    rw [this]
  rw [e]
  have := pick_run vs.toArray l k
  rw [List.filterMap_map] at this
  exact this

section ops
variable {C : Cx} {fix : Fix} {f : Fr} {ρ : Loc} {σ : Sto} {s : Shared} {A : Around} {E : Value → Shared → Prop} {Q : PostE}
theorem slicePart_ {v : Value} {k : Option Int} {Q : Option Int → Shared → Prop} {prog : Program} {w : World} (hv : IsPart v k) (h : Q k s) : wpAny (model prog w) A (Builtin.Slice.slicePartIndex v) Q E s := by
  cases hv with
  | none => exact PyProof.Rows.slicePart_none h
  | int i u => exact PyProof.Rows.slicePart_int h
theorem sliceApplied_ {sl : Addr} {lo hi : D} {vlo vhi : Value} {n l u : Nat} {Q : Int × Int × Nat → Shared → Prop} {prog : Program} {w : World} (hs : s.heap.IsSliceOf sl vlo vhi .none) (pl : IsPart vlo (partOf lo)) (ph : IsPart vhi (partOf hi))
    (hl : cutAt n 0 lo = some l) (hh : cutAt n n hi = some u) (h : Q ((l : Int), 1, u - l) s) :
    wpAny (model prog w) A (Builtin.Slice.sliceApplied (.ref sl) (pure (n : Int))) Q E s := by
  obtain ⟨os, hos, hcs, hds⟩ := id hs
  unfold Builtin.Slice.sliceApplied Builtin.Slice.sliceFields
  refine wpAny_bind (wpAny_bind (wpAny_field hos hds (x := vlo) rfl (wpAny_bind (wpAny_field hos hds (x := vhi) rfl (wpAny_bind (wpAny_field hos hds (x := .none) rfl (wpAny_pure ?_)))))))
  refine wpAny_bind (PyProof.Rows.slicePart_none ?_)
  show wpAny _ _ (if ((1 : Int) == 0) = true then _ else _) _ _ s
  rw [if_neg (by decide)]
  refine wpAny_bind (slicePart_ pl (wpAny_bind (slicePart_ ph (wpAny_bind (wpAny_pure ?_)))))
  show wpAny _ _ (match Builtin.Slice.sliceAdjust (partOf lo) (partOf hi) 1 (n : Int) with | (lo, hi) => pure (lo, (1 : Int), Builtin.Slice.slicePlaces lo hi 1)) _ _ s
  rw [adjust_eq hl hh]
  show wpAny _ _ (pure ((l : Int), (1 : Int), Builtin.Slice.slicePlaces (l : Int) (u : Int) 1)) _ _ s
  rw [places_eq]
  exact wpAny_pure h
theorem getItem_tup_slice {t sl : Addr} {vs : List Value} {n : Nat} {lo hi : D} {vlo vhi : Value} {l u : Nat} {Q : Value → Shared → Prop} {prog : Program} {w : World} (ho : s.heap.get? t = some { cls := .type "tuple", data := .seq vs.toArray n })
    (hs : s.heap.IsSliceOf sl vlo vhi .none) (pl : IsPart vlo (partOf lo)) (ph : IsPart vhi (partOf hi)) (hl : cutAt vs.length 0 lo = some l) (hh : cutAt vs.length vs.length hi = some u)
    (h0 : sliceOf vs l u = vs → Q (.ref t) s)
    (h : Q (.ref s.heap.objs.size) { s with heap := s.heap.push { cls := .type "tuple", data := .seq (sliceOf vs l u).toArray } })
    (hsz : vs.length ≤ sizeLine) : wpAny (model prog w) A (getItem (.ref t) (.ref sl)) Q E s := by
  have hT : s.TypeIs (.ref t) "tuple" := ⟨_, ho, rfl⟩
  have hu := cut_le hh (Nat.le_refl _)
  have esl : (vs.drop l).take (u - l) = sliceOf vs l u := by unfold sliceOf; rw [List.drop_take]
  have hdrop : sizeOk (.seq (sliceOf vs l u).toArray) := by
    show (sliceOf vs l u).toArray.size ≤ sizeLine
    rw [List.size_toArray]
    unfold sliceOf
    simp only [List.length_drop, List.length_take]
    omega
  obtain ⟨os, hos, hcs, hds⟩ := id hs
  have hTs : s.TypeIs (.ref sl) "slice" := ⟨os, hos, hcs⟩
  unfold getItem
  try with_reducible refine wpAny_holding ?_
  first | refine wpAny_bind (wpAny_pure ?_) | skip
  refine wpAny_bind (wpAny_sequenceKey hT (by decide) ?_)
  refine wpAny_bind (wpAny_callSpecial?_slot (name := Str.ofString "__getitem__") hT F.slot_tuple_getitem
    (wpAny_call_entry F.slot_tuple_getitem hT F.entry_tuple_getitem ?_ (F.args_tuple_getitem_2 _ _)))
  show wpAny _ _ (Builtin.Tuple.tupleItemsOf (.ref t) >>= _) _ _ s
  refine wpAny_bind (wpAny_tupleItemsOf ho rfl ?_)
  refine wpAny_bind (wpAny_typeOf hTs ?_)
  rw [if_pos (by decide)]
  rw [List.size_toArray]
  refine wpAny_bind (sliceApplied_ hs pl ph hl hh ?_)
  show wpAny _ _ (if ((l : Int) == 0 && (1 : Int) == 1 && (u - l) == vs.length) = true then _ else _) _ _ s
  by_cases hw : ((l : Int) == 0 && (1 : Int) == 1 && (u - l) == vs.length) = true
  · rw [if_pos hw]
    simp only [Bool.and_eq_true, beq_iff_eq] at hw
    have e0 : sliceOf vs l u = vs := by
      rw [← esl]
      have : l = 0 := by omega
      subst this
      rw [List.drop_zero, List.take_of_length_le (by omega)]
    unfold Builtin.Tuple.tupleIsExact
    refine wpAny_bind (wpAny_bind (wpAny_typeOf hT (wpAny_pure ?_)))
    rw [if_pos (by decide)]
    exact wpAny_bind (wpAny_rule (wpAny_bind (wpAny_pure (wpAny_pure ⟨_, rfl, wpAny_pure (h0 e0)⟩))))
  · rw [if_neg hw, pick_tup, esl]
    first
      | exact wpAny_bind (m := Builtin.Tuple.tupleExact _) (wpAny_newObj_type (wpAny_pure ⟨_, rfl, wpAny_pure h⟩) hdrop)
      | exact wpAny_bind (m := Builtin.Tuple.tupleExact _) (wpAny_newObj_type (wpAny_bind (wpAny_pure (wpAny_pure ⟨_, rfl, wpAny_pure h⟩))) hdrop)
      | exact wpAny_bind (wpAny_bind (m := Builtin.Tuple.tupleExact _) (wpAny_newObj_type (wpAny_pure (wpAny_pure ⟨_, rfl, wpAny_pure h⟩)) hdrop))
      | exact wpAny_bind (wpAny_bind (m := Builtin.Tuple.tupleExact _) (wpAny_newObj_type (wpAny_pure ⟨_, rfl, wpAny_pure h⟩) hdrop))
theorem slice_sound {value : Expr} {a lo hi : D} {va vlo vhi : Value} (hA : Room A) (R : Rel C fix f ρ σ s) (ha : Is s.heap a va) (hl : Is s.heap lo vlo) (hh : Is s.heap hi vhi) (h : sliceW a lo hi σ Q)
    {sl : Expr} (hs : ∀ i, subscripted sl false va i = operate [i, va] (getItem va i)) :
    wpAny (model C.prog C.w) A (newFields "slice" [vlo, vhi, .none]) (fun i s₁ => wpAny (model C.prog C.w) A (PyProof.Rows.subscriptTail value sl va i) (PV C fix f ρ s.heap Q) E s₁) E s := by
  refine wpAny_newObj_type ?_ (by show 3 ≤ sizeLine + 2; decide)
  have keep : ∀ b o, s.heap.get? b = some o → (s.heap.push { cls := .type "slice", data := .fields [vlo, vhi, .none].toArray }).get? b = some o := fun b o e => Heap.get?_push_of_some _ e
  have R' := R.ext (tk := s.toks) keep
  have g : Grow s.heap _ := Grow.of_keeps keep
  have hS : (s.heap.push { cls := .type "slice", data := .fields [vlo, vhi, .none].toArray }).IsSliceOf s.heap.objs.size vlo vhi .none := ⟨_, Heap.get?_push_size _ rfl, rfl, rfl⟩
  generalize hh₁ : s.heap.push { cls := .type "slice", data := .fields [vlo, vhi, .none].toArray } = h₁ at *
  unfold sliceW at h
  split at h
  · obtain ⟨l, u, hlen, cl, cu, h⟩ := h
    cases ha with | @tup _ t vs n ho r =>
    have hlv := r.length
    rw [hlv] at cl cu
    refine subTail (T := "tuple") ⟨_, keep _ _ ho, rfl⟩ F.slot_tuple_getitem.lookup (getItem_tup_slice (keep _ _ ho) hS (isPart_of hl cl) (isPart_of hh cu) cl cu (fun e => ?_) ?_ (by rw [sizeLine_line', ← hlv]; exact hlen)) (hs _)
    · refine PV.grow (.here R' (.tup (ds := sliceOf _ l u) (keep _ _ ho) ?_) h) g
      have := (r.slice l u).grow g
      rw [e] at this
      exact this
    · exact PV.grow (PV.newTup (s := { s with heap := h₁ }) R' ((r.slice l u).grow g) h) g
  · exact h.elim
end ops
end
end Mine

/-! LO8 -/
open PySem
set_option Elab.async false
set_option autoImplicit false
set_option linter.unusedVariables false
namespace Mine
noncomputable section
section ops
variable {C : Cx} {fix : Fix} {f : Fr} {ρ : Loc} {σ : Sto} {s : Shared} {A : Around} {E : Value → Shared → Prop} {Q : PostE}
theorem IsAll.one {h : Heap} {d : D} {vs : List Value} (x : IsAll h [d] vs) : ∃ v, vs = [v] ∧ Is h d v := by
  cases x with | cons i r => cases r; exact ⟨_, rfl, i⟩
theorem IsAll.two {h : Heap} {d e : D} {vs : List Value} (x : IsAll h [d, e] vs) : ∃ v u, vs = [v, u] ∧ Is h d v ∧ Is h e u := by
  cases x with | cons i r => cases r with | cons j r => cases r; exact ⟨_, _, rfl, i, j⟩
def isiT (t : String) : Bool := t == "int" || t == "bool" || t == "str" || t == "tuple" || t == "list"
theorem isiT_cases {t : String} (h : isiT t = true) : t = "int" ∨ t = "bool" ∨ t = "str" ∨ t = "tuple" ∨ t = "list" := by
  simpa [isiT, Bool.or_eq_true, or_assoc] using h
theorem isOf_T {d : D} {t : String} {r : Bool} (h : isOf d t = some r) : isiT t = true := by
  unfold isOf at h
  split at h
  · rename_i e; subst e; rfl
  split at h
  · rename_i e; subst e; rfl
  split at h
  · rename_i e; subst e; rfl
  split at h
  · rename_i e; subst e; rfl
  split at h
  · rename_i e; subst e; rfl
  · cases h
theorem isOfC_T {d : D} {t : String} {r : Bool} (h : isOfC σ d t = some r) : isiT t = true := by
  unfold isOfC at h
  split at h
  · split at h
    · split at h
      · rename_i e; rw [eq_of_beq e]; rfl
      · split at h
        · rename_i e; unfold isiT; rw [e]; rfl
        · cases h
    · cases h
  · exact isOf_T h
theorem isi_sound {d : D} {v : Value} {t : String} {r : Bool} {Q : Value → Shared → Prop} (R : Rel C fix f ρ σ s) (hd : Is s.heap d v) (h : isOfC σ d t = some r) (k : ∀ tk, Q (.bool r) { s with toks := tk }) :
    wpAny (model C.prog C.w) A (call (.builtin "isinstance") [v, .type t]) Q E s := by
  rcases isiT_cases (isOfC_T h) with rfl | rfl | rfl | rfl | rfl
  · cases hd with
    | none => cases h; exact IsiPair.NoneType_int (k _)
    | bool b => cases h; exact IsiPair.bool_int (k _)
    | int i t => cases h; exact IsiPair.int_int (k _)
    | str x t => cases h; exact IsiPair.str_int (k _)
    | tup ho => cases h; exact IsiPair.tuple_int ho rfl (k _)
    | rng ho => cases h
    | val ho => cases h
    | ref a =>
      simp only [isOfC] at h
      cases q : σ a with
      | none => rw [q] at h; cases h
      | some c =>
        rw [q] at h
        cases c with
        | list ds => obtain ⟨vs, n, ho, _⟩ := R.sto _ _ q; cases h; exact IsiPair.list_int ho rfl (k _)
        | rl => cases h
  · cases hd with
    | none => cases h; exact IsiPair.NoneType_bool (k _)
    | bool b => cases h; exact IsiPair.bool_bool (k _)
    | int i t => cases h; exact IsiPair.int_bool (k _)
    | str x t => cases h; exact IsiPair.str_bool (k _)
    | tup ho => cases h; exact IsiPair.tuple_bool ho rfl (k _)
    | rng ho => cases h
    | val ho => cases h
    | ref a =>
      simp only [isOfC] at h
      cases q : σ a with
      | none => rw [q] at h; cases h
      | some c =>
        rw [q] at h
        cases c with
        | list ds => obtain ⟨vs, n, ho, _⟩ := R.sto _ _ q; cases h; exact IsiPair.list_bool ho rfl (k _)
        | rl => cases h
  · cases hd with
    | none => cases h; exact IsiPair.NoneType_str (k _)
    | bool b => cases h; exact IsiPair.bool_str (k _)
    | int i t => cases h; exact IsiPair.int_str (k _)
    | str x t => cases h; exact IsiPair.str_str (k _)
    | tup ho => cases h; exact IsiPair.tuple_str ho rfl (k _)
    | rng ho => cases h
    | val ho => cases h
    | ref a =>
      simp only [isOfC] at h
      cases q : σ a with
      | none => rw [q] at h; cases h
      | some c =>
        rw [q] at h
        cases c with
        | list ds => obtain ⟨vs, n, ho, _⟩ := R.sto _ _ q; cases h; exact IsiPair.list_str ho rfl (k _)
        | rl => cases h
  · cases hd with
    | none => cases h; exact IsiPair.NoneType_tuple (k _)
    | bool b => cases h; exact IsiPair.bool_tuple (k _)
    | int i t => cases h; exact IsiPair.int_tuple (k _)
    | str x t => cases h; exact IsiPair.str_tuple (k _)
    | tup ho => cases h; exact IsiPair.tuple_tuple ho rfl (k _)
    | rng ho => cases h
    | val ho => cases h
    | ref a =>
      simp only [isOfC] at h
      cases q : σ a with
      | none => rw [q] at h; cases h
      | some c =>
        rw [q] at h
        cases c with
        | list ds => obtain ⟨vs, n, ho, _⟩ := R.sto _ _ q; cases h; exact IsiPair.list_tuple ho rfl (k _)
        | rl => cases h
  · cases hd with
    | none => cases h; exact IsiPair.NoneType_list (k _)
    | bool b => cases h; exact IsiPair.bool_list (k _)
    | int i t => cases h; exact IsiPair.int_list (k _)
    | str x t => cases h; exact IsiPair.str_list (k _)
    | tup ho => cases h; exact IsiPair.tuple_list ho rfl (k _)
    | rng ho => cases h
    | val ho => cases h
    | ref a =>
      simp only [isOfC] at h
      cases q : σ a with
      | none => rw [q] at h; cases h
      | some c =>
        rw [q] at h
        cases c with
        | list ds => obtain ⟨vs, n, ho, _⟩ := R.sto _ _ q; cases h; exact IsiPair.list_list ho rfl (k _)
        | rl => cases h

theorem len_sound {d : D} {v : Value} {n : Nat} (hA : Room A) (hsys : ∃ o, fix sysModules o) (R : Rel C fix f ρ σ s) (hd : Is s.heap d v) (hx : sizeD σ d = some n) (hl : n < 2 ^ 62) (h : Q (.int n) σ) :
    wpAny (model C.prog C.w) A (call (.builtin "len") [v]) (PV C fix f ρ s.heap Q) E s := by
  have lst : ∀ {a : Addr} {vs : List Value} {ds : List D}, s.heap.IsList a vs.toArray → IsAll s.heap ds vs → ds.length = n → wpAny (model C.prog C.w) A (call (.builtin "len") [.ref a]) (PV C fix f ρ s.heap Q) E s := by
    intro a vs ds ho r e
    have hlv := r.length
    refine Calls.call_len_list (items := vs.toArray) ho (by simp; omega) (.tok R ?_ h)
    simp only [List.size_toArray, ← hlv, e]
    exact .int _ _
  cases hd with
  | @tup ds a vs m ho r =>
    simp only [sizeD, Option.some.injEq] at hx
    subst hx
    have hlv := r.length
    refine P.len_tuple (items := vs.toArray) ho (by simp; omega) (.tok R ?_ h)
    simp only [List.size_toArray, ← hlv]
    exact .int _ _
  | ref a =>
    simp only [sizeD] at hx
    split at hx
    · rename_i ds q
      cases hx
      obtain ⟨vs, m, ho, r⟩ := R.sto _ _ q
      exact lst ⟨_, ho, rfl, _, rfl⟩ r rfl
    · rename_i o ds q
      cases hx
      obtain ⟨e, c, vs, m, q', r⟩ := R.sto _ _ q
      exact lst ⟨_, e, c, _, q'⟩ r rfl
    · cases hx
  | _ => simp [sizeD] at hx
theorem bcall_sound {g : String} {v : Value} {ds : List D} {vs : List Value} (hA : Room A) (hsys : ∃ o, fix sysModules o) (R : Rel C fix f ρ σ s) (hv : bltOf g = some v) (hd : IsAll s.heap ds vs) (h : bcallW g ds σ Q) :
    wpAny (model C.prog C.w) A (call v vs) (PV C fix f ρ s.heap Q) E s := by
  unfold bcallW at h
  split at h
  · rename_i e; subst e
    unfold lenB at h
    split at h
    · obtain ⟨n, hx, hl, h⟩ := h
      cases hv
      obtain ⟨vi, rfl, i⟩ := hd.one
      exact len_sound hA hsys R i hx hl h
    · exact h.elim
  split at h
  · rename_i e; subst e
    unfold isiB at h
    split at h
    · obtain ⟨r, hr, h⟩ := h
      cases hv
      obtain ⟨vi, vj, rfl, i, j⟩ := hd.two
      cases j
      exact isi_sound R i hr fun tk => .tok R (.bool _) h
    · exact h.elim
  split at h
  · rename_i e; subst e
    unfold rangeB at h
    split at h
    · cases hv
      obtain ⟨vi, rfl, i⟩ := hd.one
      cases i with | int n t =>
      obtain ⟨m, rfl⟩ := Int.eq_ofNat_of_zero_le h.1.1
      refine call_range_1 ?_
      have keep : ∀ b o, s.heap.get? b = some o → (s.heap.push { cls := .type "range", data := .fields #[.int 0 s.toks, .int (m : Nat) t, .int 1 (s.toks + 1)] }).get? b = some o := fun b o e => Heap.get?_push_of_some _ e
      exact ⟨.rng m, σ, R.ext keep, .of_keeps keep, .rng (Heap.get?_push_size _ rfl), by simpa using h.2⟩
    · exact h.elim
  split at h
  · rename_i e; subst e
    unfold intB at h
    split at h
    · cases hv
      obtain ⟨vi, rfl, i⟩ := hd.one
      cases i with | bool b =>
      refine call_int_bool (.tok R ?_ h)
      exact .int _ _
    · exact h.elim
  split at h
  · rename_i e; subst e
    unfold tupleB at h
    split at h
    · obtain ⟨xs, hp, hl, h⟩ := h
      cases hv
      obtain ⟨vi, rfl, i⟩ := hd.one
      cases i
      obtain ⟨vs, n, ho, r⟩ := R.sto _ _ hp
      have hlv := r.length
      refine call_tuple_list (items := vs.toArray) ⟨_, ho, rfl, _, rfl⟩ (fun h' keep => ?_) (by rw [List.size_toArray, sizeLine_line', ← hlv]; exact hl)
      exact PV.grow (PV.newTup (s := { s with heap := h' }) (tk := s.toks) (R.ext (tk := s.toks) keep) (r.grow (.of_keeps keep)) h) (.of_keeps keep)
    · exact h.elim
  · exact h.elim
end ops
end
end Mine

/-! LO9 -/
open PySem
set_option Elab.async false
set_option autoImplicit false
set_option linter.unusedVariables false
namespace Mine
noncomputable section
section ops
variable {C : Cx} {fix : Fix} {f : Fr} {ρ : Loc} {σ : Sto} {s : Shared} {A : Around} {E : Value → Shared → Prop} {Q : PostE}
theorem getMeth_sound {d : D} {v : Value} {T m id : String} {plain : Sem Bool} {P : Value × List Value → Shared → Prop} (hA : Room A) (R : Rel C fix f ρ σ s) (hd : Is s.heap d v) (hT : kindD σ d = some T) (hi : methId T m = some id)
    (k : P (.builtin id, [v]) s) : wpAny (model C.prog C.w) A (getMethod v (Str.ofString m) plain) P E s := by
  have list : ∀ {a : Addr} {ds : List D} {id : String}, σ a = some (.list ds) → Slot "list" (Str.ofString m) id → typeOf (.builtin id) = pure (.type "method_descriptor") → P (.builtin id, [.ref a]) s → wpAny (model C.prog C.w) A (getMethod (.ref a) (Str.ofString m) plain) P E s := by
    intro a ds id q slot ty k
    obtain ⟨vs, n, ho, r⟩ := R.sto _ _ q
    exact getMethod_builtin (T := "list") ⟨_, ho, rfl⟩ F.plainAttrs_list slot ty (fun b e => by cases e; exact ⟨_, ho, rfl⟩) k
  cases hd with
  | tup ho r =>
    simp only [kindD, Option.some.injEq] at hT
    subst hT
    unfold methId at hi
    split at hi <;> first | contradiction | skip
    cases hi
    exact getMethod_builtin (T := "tuple") ⟨_, ho, rfl⟩ F.plainAttrs_tuple F.slot_tuple_count F.type_tuple_count (fun b e => by cases e; exact ⟨_, ho, rfl⟩) k
  | ref a =>
    simp only [kindD] at hT
    cases q : σ a with
    | none => rw [q] at hT; cases hT
    | some c =>
      rw [q] at hT
      cases c with
      | list ds =>
        simp only [Option.some.injEq] at hT
        subst hT
        unfold methId at hi
        split at hi <;> first | contradiction | skip
        · cases hi; exact list q F.slot_list_count F.type_list_count k
        · cases hi; exact list q F.slot_list_append F.type_list_append k
        · cases hi; exact list q F.slot_list_extend F.type_list_extend k
      | rl o ds => cases hT
  | _ => simp [kindD] at hT

theorem list_upd {p : Addr} {c : Cell} {vs ws : List Value} {n : Nat} {f' : Array Value → Array Value} {ds : List D} {d : D} {v : Value} (R : Rel C fix f ρ σ s) (hp : σ p = some c) (ho : s.heap.get? p = some { cls := .type "list", data := .seq vs.toArray n })
    (hf : f' vs.toArray = ws.toArray) (r : IsAll s.heap ds ws) (hd : Is s.heap d v) (h : Q d (σ.put p (.list ds))) : PV C fix f ρ s.heap Q v { s with heap := s.heap.update p (Obj.mapSeq f') } := by
  have hfin := Heap.get?_update_self (Obj.mapSeq f') ho (by simp [Obj.mapSeq, Obj.isFreed])
  have := R.upd (tk := s.toks) (h' := s.heap.update p (Obj.mapSeq f')) (c := .list ds) hp (Heap.SameBut.update ..).extBut fun g => ⟨ws, if (ws.toArray.size == vs.toArray.size) = true then n else n + 1, hfin.trans (by simp only [Obj.mapSeq, hf]), r.grow g⟩
  exact ⟨d, _, this.1, this.2, hd.grow this.2, h⟩
theorem meth_sound {d : D} {v : Value} {T m id : String} {ds : List D} {vs : List Value} (hA : Room A) (hsys : ∃ o, fix sysModules o) (R : Rel C fix f ρ σ s) (hd : Is s.heap d v) (hT : kindD σ d = some T) (hi : methId T m = some id) (hds : IsAll s.heap ds vs) (h : methW d m ds σ Q) :
    wpAny (model C.prog C.w) A (call (.builtin id) (v :: vs)) (PV C fix f ρ s.heap Q) E s := by
  have hu := hA.units
  unfold methW at h
  split at h
  · rename_i e; subst e
    unfold countB at h
    split at h
    · obtain ⟨vx, rfl, ix⟩ := hds.one
      cases hd with | @tup _ t ws n ho r =>
      simp only [kindD, Option.some.injEq] at hT
      subst hT
      cases hi
      refine call_meets F.slot_tuple_count ⟨_, ho, rfl⟩ F.entry_tuple_count (F.args_tuple_count_2 _ _) (SeqAt.tuple_countAt t ws.toArray n _ _ vx (eqTo s.heap _)) ⟨ho, eqTo_at (by omega) h.1 ix r h.2.1, ?_⟩
      refine .tok R ?_ h.2.2
      simp only
      rw [eqTo_count h.1 r h.2.1]
      exact .int _ _
    · obtain ⟨xs, hp, h⟩ := h
      obtain ⟨vx, rfl, ix⟩ := hds.one
      cases hd
      simp only [kindD, hp, Option.some.injEq] at hT
      subst hT
      cases hi
      obtain ⟨ws, n, ho, r⟩ := R.sto _ _ hp
      refine call_meets F.slot_list_count ⟨_, ho, rfl⟩ F.entry_list_count (F.args_list_count_2 _ _) (SeqAt.list_countAt _ ws.toArray n _ _ vx (eqTo s.heap _)) ⟨ho, eqTo_at (by omega) h.1 ix r h.2.1, ?_⟩
      refine .tok R ?_ h.2.2
      simp only
      rw [eqTo_count h.1 r h.2.1]
      exact .int _ _
    · exact h.elim
  split at h
  · rename_i e; subst e
    unfold appendB at h
    split at h
    · obtain ⟨xs, hp, hl, h⟩ := h
      obtain ⟨vx, rfl, ix⟩ := hds.one
      cases hd
      simp only [kindD, hp, Option.some.injEq] at hT
      subst hT
      cases hi
      obtain ⟨ws, n, ho, r⟩ := R.sto _ _ hp
      have hlv := r.length
      refine call_meets F.slot_list_append ⟨_, ho, rfl⟩ F.entry_list_append (F.args_list_append_2 _ _) (AutoListH.list_append_list_val_0 _ ws.toArray n vx (by rw [List.size_toArray, sizeLine_line', ← hlv]; exact hl)) ⟨ho, ?_⟩
      exact list_upd R hp ho (by simp) (r.snoc ix) .none h
    · exact h.elim
  split at h
  · rename_i e; subst e
    unfold extendB at h
    split at h
    · obtain ⟨xs, ys, hab, hp, hq, hl, h⟩ := h
      obtain ⟨vx, rfl, ix⟩ := hds.one
      cases hd; cases ix
      simp only [kindD, hp, Option.some.injEq] at hT
      subst hT
      cases hi
      obtain ⟨ws, n, ho, r⟩ := R.sto _ _ hp
      obtain ⟨us, n2, ho2, r2⟩ := R.sto _ _ hq
      have hlv := r.length
      have hlu := r2.length
      have hsz : ws.toArray.size + us.toArray.size ≤ sizeLine := by rw [List.size_toArray, List.size_toArray, sizeLine_line', ← hlv, ← hlu]; exact hl
      refine call_meets F.slot_list_extend ⟨_, ho, rfl⟩ F.entry_list_extend (F.args_list_extend_2 _ _) (AutoSeq1.list_extend_list_list_0 _ ws.toArray n _ us.toArray n2 ?_ (by omega) (by omega)) ⟨ho, ho2, ?_⟩
      · intro q
        simp only [Bool.and_eq_true] at q
        exact absurd (of_decide_eq_true q.2) (Nat.not_lt.mpr hsz)
      · exact list_upd R hp ho (by simp) (r.append r2) .none h
    · exact h.elim
  · exact h.elim
end ops
end
end Mine

/-! LM5 -/
open PySem
set_option Elab.async false
set_option autoImplicit false
set_option linter.unusedVariables false
namespace Mine
noncomputable section

/-! inversions -/
section inv
variable {sc : Scope} {e : Expr}
theorem mEx_none (h : mEx .none sc e = true) : ∃ k p, e = .Constant .none k p := by
  cases e <;> try exact absurd h Bool.false_ne_true
  rename_i c k p; cases c <;> first | exact absurd h Bool.false_ne_true | exact ⟨_, _, rfl⟩
theorem mEx_bool {b : Bool} (h : mEx (.bool b) sc e = true) : ∃ k p, e = .Constant (.bool b) k p := by
  cases e <;> try exact absurd h Bool.false_ne_true
  rename_i c k p; cases c <;> first | exact absurd h Bool.false_ne_true | (cases eq_of_beq h; exact ⟨_, _, rfl⟩)
theorem mEx_int {i : Int} (h : mEx (.int i) sc e = true) : ∃ k p, e = .Constant (.int i) k p := by
  cases e <;> try exact absurd h Bool.false_ne_true
  rename_i c k p; cases c <;> first | exact absurd h Bool.false_ne_true | (cases eq_of_beq h; exact ⟨_, _, rfl⟩)
theorem mEx_str {x : String} (h : mEx (.str x) sc e = true) : ∃ k p, e = .Constant (.str (Str.ofString x)) k p := by
  cases e <;> try exact absurd h Bool.false_ne_true
  rename_i c k p; cases c <;> first | exact absurd h Bool.false_ne_true | (cases eq_of_beq h; exact ⟨_, _, rfl⟩)
theorem mEx_loc {x : String} (h : mEx (.loc x) sc e = true) : ∃ p, e = .Name (Str.ofString x) p ∧ isLoc sc x = true := by
  cases e <;> try exact absurd h Bool.false_ne_true
  obtain ⟨h1, h2⟩ := an h; cases eq_of_beq h1; exact ⟨_, rfl, h2⟩
theorem mEx_glob {x : String} (h : mEx (.glob x) sc e = true) : ∃ p, e = .Name (Str.ofString x) p ∧ isGlob sc x = true := by
  cases e <;> try exact absurd h Bool.false_ne_true
  obtain ⟨h1, h2⟩ := an h; cases eq_of_beq h1; exact ⟨_, rfl, h2⟩
theorem mEx_bin {op : Operator} {a b : Ex} (h : mEx (.bin op a b) sc e = true) : ∃ l r p, e = .BinOp l op r p ∧ mEx a sc l = true ∧ mEx b sc r = true := by
  cases e <;> try exact absurd h Bool.false_ne_true
  obtain ⟨h, h3⟩ := an h; obtain ⟨h1, h2⟩ := an h; cases eq_of_beq h1; exact ⟨_, _, _, rfl, h2, h3⟩
theorem mEx_not {a : Ex} (h : mEx (.not a) sc e = true) : ∃ x p, e = .UnaryOp .Not x p ∧ mEx a sc x = true := by
  cases e <;> try exact absurd h Bool.false_ne_true
  rename_i o x p; cases o <;> first | exact absurd h Bool.false_ne_true | exact ⟨_, _, rfl, h⟩
theorem mEx_neg {i : Int} (h : mEx (.neg i) sc e = true) : ∃ k q p, e = .UnaryOp .USub (.Constant (.int i) k q) p := by
  cases e <;> try exact absurd h Bool.false_ne_true
  rename_i o x p; cases o <;> try exact absurd h Bool.false_ne_true
  cases x <;> try exact absurd h Bool.false_ne_true
  rename_i c k q; cases c <;> first | exact absurd h Bool.false_ne_true | (cases eq_of_beq h; exact ⟨_, _, _, rfl⟩)
theorem mEx_and {xs : List Ex} (h : mEx (.and xs) sc e = true) : ∃ vs p, e = .BoolOp .And vs p ∧ mExs xs sc vs = true := by
  cases e <;> try exact absurd h Bool.false_ne_true
  rename_i o vs p; cases o <;> first | exact absurd h Bool.false_ne_true | exact ⟨_, _, rfl, h⟩
theorem mEx_or {xs : List Ex} (h : mEx (.or xs) sc e = true) : ∃ vs p, e = .BoolOp .Or vs p ∧ mExs xs sc vs = true := by
  cases e <;> try exact absurd h Bool.false_ne_true
  rename_i o vs p; cases o <;> first | exact absurd h Bool.false_ne_true | exact ⟨_, _, rfl, h⟩
def noSet : Expr → Bool
  | .Set .. => false
  | _ => true
theorem mEx_cmp {a : Ex} {ops : List CmpOp} {bs : List Ex} (h : mEx (.cmp a ops bs) sc e = true) : ∃ l rs p, e = .Compare l ops rs p ∧ mEx a sc l = true ∧ mExs bs sc rs = true ∧ rs.all noSet = true := by
  cases e <;> try exact absurd h Bool.false_ne_true
  obtain ⟨h, h4⟩ := an h; obtain ⟨h, h3⟩ := an h; obtain ⟨h1, h2⟩ := an h
  cases eq_of_beq h2
  exact ⟨_, _, _, rfl, h1, h3, h4⟩
theorem mEx_call {g : String} {xs : List Ex} (h : mEx (.call g xs) sc e = true) : ∃ q as p, e = .Call (.Name (Str.ofString g) q) as [] p ∧ isGlob sc g = true ∧ mExs xs sc as = true ∧ as.all noStar = true := by
  cases e <;> try exact absurd h Bool.false_ne_true
  rename_i fn as kw p
  cases fn <;> try exact absurd h Bool.false_ne_true
  cases kw <;> try exact absurd h Bool.false_ne_true
  obtain ⟨h, h4⟩ := an h; obtain ⟨h, h3⟩ := an h; obtain ⟨h1, h2⟩ := an h
  cases eq_of_beq h1
  exact ⟨_, _, _, rfl, h2, h3, h4⟩
theorem mEx_bcall {g : String} {xs : List Ex} (h : mEx (.bcall g xs) sc e = true) : ∃ q as p, e = .Call (.Name (Str.ofString g) q) as [] p ∧ isGlob sc g = true ∧ mExs xs sc as = true ∧ as.all noStar = true := by
  cases e <;> try exact absurd h Bool.false_ne_true
  rename_i fn as kw p
  cases fn <;> try exact absurd h Bool.false_ne_true
  cases kw <;> try exact absurd h Bool.false_ne_true
  obtain ⟨h, h4⟩ := an h; obtain ⟨h, h3⟩ := an h; obtain ⟨h1, h2⟩ := an h
  cases eq_of_beq h1
  exact ⟨_, _, _, rfl, h2, h3, h4⟩
def noCall : Expr → Bool
  | .Call .. => false
  | _ => true
theorem mEx_meth {o : Ex} {m : String} {xs : List Ex} (h : mEx (.meth o m xs) sc e = true) : ∃ v ap as p, e = .Call (.Attribute v (Str.ofString m) ap) as [] p ∧ (ap.endLine == p.line) = true ∧ as.length < 30 ∧ mEx o sc v = true ∧ mExs xs sc as = true ∧ as.all noStar = true ∧ noCall v = true := by
  cases e <;> try exact absurd h Bool.false_ne_true
  rename_i fn as kw p
  cases fn <;> try exact absurd h Bool.false_ne_true
  cases kw <;> try exact absurd h Bool.false_ne_true
  obtain ⟨h, h7⟩ := an h; obtain ⟨h, h6⟩ := an h; obtain ⟨h, h5⟩ := an h; obtain ⟨h, h4⟩ := an h; obtain ⟨h, h3⟩ := an h; obtain ⟨h1, h2⟩ := an h
  cases eq_of_beq h1
  exact ⟨_, _, _, _, rfl, h2, of_decide_eq_true h3, h4, h5, h6, h7⟩
def noSlice : Expr → Bool
  | .Slice .. => false
  | _ => true
theorem mEx_item {a i : Ex} (h : mEx (.item a i) sc e = true) : ∃ v s p, e = .Subscript v s p ∧ mEx a sc v = true ∧ mEx i sc s = true ∧ noSlice s = true := by
  cases e <;> try exact absurd h Bool.false_ne_true
  obtain ⟨h, h3⟩ := an h; obtain ⟨h1, h2⟩ := an h
  exact ⟨_, _, _, rfl, h1, h2, h3⟩
theorem mEx_slice {a lo hi : Ex} (h : mEx (.slice a lo hi) sc e = true) : ∃ v l u q p, e = .Subscript v (.Slice l u none q) p ∧ mEx a sc v = true ∧ mOpt lo sc l = true ∧ mOpt hi sc u = true := by
  cases e <;> try exact absurd h Bool.false_ne_true
  rename_i v s p
  cases s <;> try exact absurd h Bool.false_ne_true
  rename_i l u st q
  cases st <;> try exact absurd h Bool.false_ne_true
  obtain ⟨h, h3⟩ := an h; obtain ⟨h1, h2⟩ := an h
  exact ⟨_, _, _, _, _, rfl, h1, h2, h3⟩
theorem mEx_tup {xs : List Ex} (h : mEx (.tup xs) sc e = true) : ∃ es k p, e = .Tuple es k p ∧ mExs xs sc es = true ∧ es.all noStar = true ∧ es.length ≤ 100 := by
  cases e <;> try exact absurd h Bool.false_ne_true
  obtain ⟨h, h3⟩ := an h; obtain ⟨h1, h2⟩ := an h
  exact ⟨_, _, _, rfl, h1, h2, of_decide_eq_true h3⟩
theorem mEx_list {xs : List Ex} (h : mEx (.list xs) sc e = true) : ∃ es p, e = .List es p ∧ mExs xs sc es = true ∧ es.all noStar = true ∧ es.length ≤ 100 := by
  cases e <;> try exact absurd h Bool.false_ne_true
  obtain ⟨h, h3⟩ := an h; obtain ⟨h1, h2⟩ := an h
  exact ⟨_, _, rfl, h1, h2, of_decide_eq_true h3⟩
theorem mEx_comp {elt : Ex} {t : Tgt} {it : Ex} {ifs : List Ex} (h : mEx (.comp elt t it ifs) sc e = true) : ∃ e' t' i' fs csc p, e = .ListComp e' [⟨t', i', fs, 0⟩] csc p ∧ compScOk sc csc t = true ∧ mEx it sc i' = true ∧
    mTgt true (relab sc csc) t t' = true ∧ mExs ifs (relab sc csc) fs = true ∧ mEx elt (relab sc csc) e' = true ∧ noSet i' = true := by
  cases e <;> try exact absurd h Bool.false_ne_true
  rename_i e' gs csc p
  cases gs with
  | nil => exact absurd h Bool.false_ne_true
  | cons g r =>
    obtain ⟨t', i', fs, as⟩ := g
    cases r with
    | cons _ _ => exact absurd h Bool.false_ne_true
    | nil =>
      obtain ⟨h, h7⟩ := an h; obtain ⟨h, h6⟩ := an h; obtain ⟨h, h5⟩ := an h; obtain ⟨h, h4⟩ := an h; obtain ⟨h, h3⟩ := an h; obtain ⟨h1, h2⟩ := an h
      cases eq_of_beq h1
      exact ⟨_, _, _, _, _, _, rfl, h2, h3, h4, h5, h6, h7⟩
end inv
end
end Mine

/-! LM7 -/
open PySem
set_option Elab.async false
set_option autoImplicit false
set_option linter.unusedVariables false
namespace Mine
noncomputable section

/-! more of the relation: a thing is fixed for a while -/
section
variable {C : Cx} {fix : Fix} {f : Fr} {ρ : Loc} {σ : Sto} {s : Shared}
def Fix.add (fix : Fix) (a : Addr) (o : Obj) : Fix := fun b p => fix b p ∨ (b = a ∧ p = o)
theorem Rel.addFix (R : Rel C fix f ρ σ s) {a : Addr} {o : Obj} (ha : s.heap.get? a = some o) (hs : σ a = none) (ho : a ∉ f.own) : Rel C (fix.add a o) f ρ σ s :=
  { R with
    fixed := fun b p h => by
      rcases h with h | ⟨rfl, rfl⟩
      · exact R.fixed b p h
      · exact ha
    cellsFix := fun x c h => ⟨(R.cellsFix x c h).1, (R.cellsFix x c h).2.imp id fun ⟨p, q⟩ => ⟨p, .inl q⟩⟩
    apart := fun b c h => ⟨(R.apart b c h).1, fun p hp => by
      rcases hp with hp | ⟨rfl, rfl⟩
      · exact (R.apart b c h).2 p hp
      · rw [hs] at h; cases h⟩
    ownFix := fun b hb p hp => by
      rcases hp with hp | ⟨rfl, rfl⟩
      · exact R.ownFix b hb p hp
      · exact ho hb }
theorem Rel.dropFix {a : Addr} {o : Obj} (R : Rel C (fix.add a o) f ρ σ s) (hc : ∀ x c, (x, c) ∈ f.env.cells → c ∈ f.own ∨ ∃ o, fix c o) : Rel C fix f ρ σ s :=
  { R with
    fixed := fun b p h => R.fixed b p (.inl h)
    cellsFix := fun x c h => ⟨(R.cellsFix x c h).1, hc x c h⟩
    apart := fun b c h => ⟨(R.apart b c h).1, fun p hp => (R.apart b c h).2 p (.inl hp)⟩
    ownFix := fun b hb p hp => R.ownFix b hb p (.inl hp) }
theorem Rel.cellsOf (R : Rel C fix f ρ σ s) : ∀ x c, (x, c) ∈ f.env.cells → c ∈ f.own ∨ ∃ o, fix c o := fun x c h => (R.cellsFix x c h).2
theorem Rel.looseAt {a : Addr} {o : Obj} (R : Rel C (fix.add a o) f ρ σ s) : σ a = none ∧ a ∉ f.own ∧ s.heap.get? a = some o := by
  refine ⟨?_, fun h => R.ownFix a h o (.inr ⟨rfl, rfl⟩), R.fixed a o (.inr ⟨rfl, rfl⟩)⟩
  cases e : σ a with
  | none => rfl
  | some c => exact absurd (.inr ⟨rfl, rfl⟩) ((R.apart a c e).2 o)
end

/-- an iterator over a datum, at a place -/
inductive ItObj (h : Heap) (σ : Sto) : D → Nat → Obj → Prop
  | list {a : Addr} {xs : List D} {i : Nat} {o : Obj} : σ a = some (.list xs) → o.cls = .type "list_iterator" → o.data = .fields #[.ref a, .int i 0] → ItObj h σ (.ref a) i o
  | tup {ds : List D} {t : Addr} {i : Nat} {o : Obj} : Is h (.tup ds) (.ref t) → o.cls = .type "tuple_iterator" → o.data = .fields #[.ref t, .int i 0] → ItObj h σ (.tup ds) i o
  | rng {n : Nat} {i : Nat} : i ≤ n → ItObj h σ (.rng n) i { cls := .type "range_iterator", data := .fields #[rawInt i, rawInt ((n : Int) - i), rawInt 1] }

theorem ItObj.grow {h h' : Heap} {σ σ' : Sto} {d : D} {i : Nat} {o : Obj} (x : ItObj h σ d i o) (g : Grow h h') (hs : stillD σ σ' d) : ItObj h' σ' d i o := by
  cases x with
  | list e c q => exact .list ((show _ = _ from hs).trans e) c q
  | tup e c q => exact .tup (e.grow g) c q
  | rng hi => exact .rng hi
theorem ItObj.frozen {h : Heap} {σ : Sto} {d : D} {i : Nat} {o : Obj} (x : ItObj h σ d i o) : Mine.frozen o = false := by
  cases x with
  | list e c q => simp [Mine.frozen, c, q]
  | tup e c q => simp [Mine.frozen, c, q]
  | rng => rfl


theorem small_of {n : Nat} (h : n < 2 ^ 62) : Builtin.Range.small 0 n 1 = true ∧ Builtin.Range.rangeSize 0 n 1 = (n : Int) := by
  have e : Builtin.Range.rangeSize 0 n 1 = (n : Int) := by
    unfold Builtin.Range.rangeSize
    split
    · split <;> omega
    · omega
  refine ⟨?_, e⟩
  have fits : ∀ i : Int, 0 ≤ i → i < 2 ^ 62 + 1 → Builtin.Range.rangeFitsLong i = true := fun i h1 h2 => by
    unfold Builtin.Range.rangeFitsLong
    rw [Bool.and_eq_true, decide_eq_true_eq, decide_eq_true_eq]
    omega
  unfold Builtin.Range.small
  rw [e, fits 0 (by omega) (by omega), fits n (by omega) (by omega), fits 1 (by omega) (by omega), if_pos (by decide), fits (n + (1 - 1)) (by omega) (by omega)]
  simp

section
variable {C : Cx} {fix : Fix} {f : Fr} {ρ : Loc} {σ : Sto} {s : Shared} {A : Around} {E : Value → Shared → Prop}

/-- the iterator of a datum -/
theorem iter_sound {d : D} {v : Value} {xs : List D} {P : Value → Shared → Prop} (R : Rel C fix f ρ σ s) (hsys : ∃ o, fix sysModules o) (hd : Is s.heap d v) (hx : itemsD σ d = some xs) (hl : xs.length ≤ line)
    (k : ∀ I o s', Rel C fix f ρ σ s' → Grow s.heap s'.heap → s'.heap.get? I = some o → ItObj s'.heap σ d 0 o → σ I = none → I ∉ f.own → (∀ o, ¬ fix I o) → P (.ref I) s') :
    wpAny (model C.prog C.w) A (pyIter v) P E s := by
  have fin : ∀ o : Obj, o.isFreed = false → ItObj (s.heap.push o) σ d 0 o → P (.ref s.heap.objs.size) { s with heap := s.heap.push o } := fun o hfr hit => by
    have keep : ∀ b p, s.heap.get? b = some p → (s.heap.push o).get? b = some p := fun b p e => Heap.get?_push_of_some _ e
    have fr := R.fresh (a := s.heap.objs.size) get_size
    exact k _ o _ (R.ext (tk := s.toks) keep) (.of_keeps keep) (Heap.get?_push_size _ hfr) hit fr.1 fr.2.1 fr.2.2
  cases hd with
  | tup e r =>
    refine wpAny_pyIter_tuple ⟨_, e, rfl, _, rfl⟩ (fin _ rfl (.tup (.tup (Heap.get?_push_of_some _ e) (r.grow (.of_keeps fun b p e => Heap.get?_push_of_some _ e))) rfl rfl))
  | rng e =>
    rename_i n a t u v
    simp only [itemsD, Option.some.injEq] at hx
    have hlen : n ≤ line := by rw [← hx] at hl; simpa using hl
    have sm := small_of (n := n) (by unfold line at hlen; omega)
    refine wpAny_pyIter_range e sm.1 ?_
    rw [sm.2]
    have := fin { cls := .type "range_iterator", data := .fields #[rawInt (0 : Nat), rawInt ((n : Int) - (0 : Nat)), rawInt 1] } rfl (.rng (Nat.zero_le _))
    simpa using this
  | ref a =>
    cases hc : σ a with
    | none => simp [itemsD, hc] at hx
    | some c =>
      simp only [itemsD, hc] at hx
      have hci := R.sto a c hc
      cases c with
      | list ds =>
        obtain ⟨vs, n, e, r⟩ := hci
        exact wpAny_pyIter_list ⟨_, e, rfl, _, rfl⟩ (fin _ rfl (.list hc rfl rfl))
      | rl o ds => cases hx
  | none => cases hx
  | bool => cases hx
  | int => cases hx
  | str => cases hx
  | val => cases hx

/-- one item more -/
theorem next_item {d x : D} {xs : List D} {i : Nat} {I : Addr} {o : Obj} {P : Option Value → Shared → Prop} (R : Rel C fix f ρ σ s) (hx : itemsD σ d = some xs) (hI : s.heap.get? I = some o) (hit : ItObj s.heap σ d i o)
    (l1 : σ I = none) (l2 : I ∉ f.own) (l3 : ∀ o, ¬ fix I o) (hxi : xs[i]? = some x)
    (k : ∀ v o' s', Rel C fix f ρ σ s' → Grow s.heap s'.heap → s'.heap.get? I = some o' → ItObj s'.heap σ d (i + 1) o' → Is s'.heap x v → P (some v) s') :
    wpAny (model C.prog C.w) A (pyNext (.ref I)) P E s := by
  have hz : ∀ p, s.heap.get? I = some p → frozen p = false := fun p e => by rw [hI] at e; cases e; exact hit.frozen
  cases hit with
  | list hc c1 c2 =>
    rename_i a ys
    simp only [itemsD, hc, Option.some.injEq] at hx
    subst hx
    obtain ⟨vs, n, e, r⟩ := R.sto a _ hc
    obtain ⟨v, hv, iv⟩ := r.get hxi
    refine wpAny_pyNext_list_item ⟨_, hI, c1, c2⟩ ⟨_, e, rfl, _, rfl⟩ (x := v) (by simpa using hv) fun h' hit' hs' => ?_
    obtain ⟨o', e', c', d'⟩ := hit'
    obtain ⟨R', g'⟩ := R.loose (tk := s.toks) l1 l2 l3 hz hs'.extBut
    exact k v o' _ R' g' e' (.list hc c' d') (iv.grow g')
  | tup ht c1 c2 =>
    rename_i ds t
    simp only [itemsD, Option.some.injEq] at hx
    subst hx
    cases ht with
    | tup e r =>
      obtain ⟨v, hv, iv⟩ := r.get hxi
      refine wpAny_pyNext_tuple_item ⟨_, hI, c1, c2⟩ ⟨_, e, rfl, _, rfl⟩ (x := v) (by simpa using hv) fun h' hit' hs' => ?_
      obtain ⟨o', e', c', d'⟩ := hit'
      obtain ⟨R', g'⟩ := R.loose (tk := s.toks) l1 l2 l3 hz hs'.extBut
      exact k v o' _ R' g' e' (.tup (Is.grow g' (.tup e r)) c' d') (iv.grow g')
  | rng hin =>
    rename_i n
    simp only [itemsD, Option.some.injEq] at hx
    subst hx
    have hlt : i < n := by
      rcases Nat.lt_or_ge i n with h | h
      · exact h
      · simp [h] at hxi
    simp [hlt] at hxi
    subst hxi
    refine wpAny_pyNext_range_item hI (by omega) fun h' hit' hs' => ?_
    obtain ⟨R', g'⟩ := R.loose (tk := s.toks + 1) l1 l2 l3 hz hs'.extBut
    refine k _ _ _ R' g' hit' ?_ (.int _ _)
    have := ItObj.rng (h := h') (σ := σ) (n := n) (i := i + 1) hlt
    have e1 : ((i + 1 : Nat) : Int) = (i : Int) + 1 := by push_cast; rfl
    have e2 : (n : Int) - ((i + 1 : Nat) : Int) = (n : Int) - i - 1 := by push_cast; omega
    rw [e2, e1] at this
    exact this

/-- no item more -/
theorem next_end {d : D} {xs : List D} {i : Nat} {I : Addr} {o : Obj} {P : Option Value → Shared → Prop} (hh : A.handled = none) (R : Rel C fix f ρ σ s) (hx : itemsD σ d = some xs) (hI : s.heap.get? I = some o) (hit : ItObj s.heap σ d i o)
    (l1 : σ I = none) (l2 : I ∉ f.own) (l3 : ∀ o, ¬ fix I o) (hxi : xs.length ≤ i)
    (k : ∀ s', Rel C fix f ρ σ s' → Grow s.heap s'.heap → P none s') :
    wpAny (model C.prog C.w) A (pyNext (.ref I)) P E s := by
  have hz : ∀ p, s.heap.get? I = some p → frozen p = false := fun p e => by rw [hI] at e; cases e; exact hit.frozen
  have fin : ∀ h', Heap.ExtBut I s.heap h' → P none { s with heap := h' } := fun h' he => by
    obtain ⟨R', g'⟩ := R.loose (tk := s.toks) l1 l2 l3 hz he
    exact k _ R' g'
  cases hit with
  | list hc c1 c2 =>
    rename_i a ys
    simp only [itemsD, hc, Option.some.injEq] at hx
    subst hx
    obtain ⟨vs, n, e, r⟩ := R.sto a _ hc
    exact wpAny_pyNext_list_end hh ⟨_, hI, c1, c2⟩ ⟨_, e, rfl, _, rfl⟩ (by have := r.length; simp; omega) fin
  | tup ht c1 c2 =>
    rename_i ds t
    simp only [itemsD, Option.some.injEq] at hx
    subst hx
    cases ht with
    | tup e r => exact wpAny_pyNext_tuple_end hh ⟨_, hI, c1, c2⟩ ⟨_, e, rfl, _, rfl⟩ (by have := r.length; simp; omega) fin
  | rng hin =>
    rename_i n
    simp only [itemsD, Option.some.injEq] at hx
    subst hx
    simp at hxi
    exact wpAny_pyNext_range_end hh hI (by omega) fin

end
/-- a name of a target may be stored -/
theorem isStore_ok {f : Fr} {l : Bool} (hl : l = true ∨ StOk f) {x : String} (h : isStore l f.env.scope x = true) :
    f.env.kindOf (Str.ofString x) = some .local ∨ (f.env.kindOf (Str.ofString x) = some .cell ∧ ∀ c, f.env.cells.lookup (Str.ofString x) = some c → c ∈ f.own) := by
  unfold isStore at h
  split at h
  · rename_i e; exact .inl e
  · rename_i e
    rcases hl with rfl | hl
    · cases h
    · exact .inr ⟨e, fun c hc => hl _ c e hc⟩
  · cases h

section
variable {C : Cx} {fix : Fix} {f : Fr} {ρ : Loc} {σ : Sto} {s : Shared} {A : Around} {E : Value → Shared → Prop}

theorem names_sound {l : Bool} (hst' : l = true ∨ StOk f) : ∀ (xs : List String) (es : List Expr) (ds : List D) (vs : List Value) (ρ : Loc) (s : Shared) (P : Unit → Shared → Prop), FrOk f → mTgt.go l f.env.scope xs es = true → ds.length = xs.length → IsAll s.heap ds vs → Rel C fix f ρ σ s →
    (∀ s', Rel C fix f (ρ.sets xs ds) σ s' → Grow s.heap s'.heap → P () s') → wpAny (model C.prog C.w) A (assignInOrder ((assignEach es f.env).map (·.2)) vs) P E s
  | [], es, ds, vs, ρ, s, P, hf, hm, hl, hd, R, k => by
    cases es with
    | cons => exact absurd hm Bool.false_ne_true
    | nil =>
      cases ds with
      | cons => simp at hl
      | nil => cases hd; exact wpAny_pure (k s R (.refl _))
  | x :: xs, es, ds, vs, ρ, s, P, hf, hm, hl, hd, R, k => by
    cases es with
    | nil => exact absurd hm Bool.false_ne_true
    | cons e es =>
      cases e <;> try exact absurd hm Bool.false_ne_true
      rename_i y p
      obtain ⟨hm1, hm2⟩ := an hm; obtain ⟨hy, hst⟩ := an hm1; cases eq_of_beq hy
      cases hd with
      | nil => simp at hl
      | cons hv hd =>
        rename_i d ds v vs
        show wpAny _ A (do holding vs (assign (.Name (Str.ofString x) p) f.env v); assignInOrder ((assignEach es f.env).map (·.2)) vs) P E s
        refine wpAny_bind (wpAny_holding (wpAny_assign_Name (wp_store R hf.kind (isStore_ok hst' hst) hv fun s' R' g' => ?_)))
        exact names_sound hst' xs es ds vs (ρ.set x d) s' P hf hm2 (by simpa using hl) (hd.grow g') R' fun s'' R'' g'' => k s'' R'' (g'.trans g'')

theorem assign_sound {l : Bool} {t : Tgt} {e : Expr} {d : D} {v : Value} {Q : Loc → Prop} {P : Unit → Shared → Prop} (hst' : l = true ∨ StOk f) (hf : FrOk f) (hh : A.handled = none) (hm : mTgt l f.env.scope t e = true) (R : Rel C fix f ρ σ s) (hd : Is s.heap d v) (h : assignW t d ρ Q)
    (k : ∀ ρ' s', Rel C fix f ρ' σ s' → Grow s.heap s'.heap → Q ρ' → P () s') : wpAny (model C.prog C.w) A (assign e f.env v) P E s := by
  cases t with
  | name x =>
    cases e <;> try exact absurd hm Bool.false_ne_true
    obtain ⟨hy, hst⟩ := an hm; cases eq_of_beq hy
    exact wpAny_assign_Name (wp_store R hf.kind (isStore_ok hst' hst) hd fun s' R' g' => k _ s' R' g' h)
  | tup xs =>
    cases e <;> try exact absurd hm Bool.false_ne_true
    rename_i es n p
    replace hm : mTgt.go l f.env.scope xs es = true := hm
    unfold assignW at h
    cases hd with
    | tup e r =>
      rename_i ds a vs n'
      obtain ⟨hl, hq⟩ := h
      have hlen : ∀ (xs : List String) (es : List Expr), mTgt.go l f.env.scope xs es = true → (assignEach es f.env).length = xs.length ∧ (assignEach es f.env).findIdx? (·.1) = none := by
        intro xs
        induction xs with
        | nil => intro es h; cases es with
          | nil => exact ⟨rfl, rfl⟩
          | cons => exact absurd h Bool.false_ne_true
        | cons x xs ih =>
          intro es h
          cases es with
          | nil => exact absurd h Bool.false_ne_true
          | cons e es =>
            cases e <;> try exact absurd h Bool.false_ne_true
            obtain ⟨h1, h2⟩ := ih es (an h).2
            refine ⟨congrArg Nat.succ h1, ?_⟩
            show List.findIdx? (·.1) ((false, _) :: assignEach es f.env) = none
            rw [List.findIdx?_cons]
            simp [h2]
      obtain ⟨h1, h2⟩ := hlen xs es hm
      refine wpAny_assign_Tuple hh ⟨_, e, rfl, _, rfl⟩ (by rw [h1, ← hl, r.length]; simp) h2 fun h' he => ?_
      have keep : ∀ b o, s.heap.get? b = some o → h'.get? b = some o := fun b o e => he b o (Nat.ne_of_lt (Heap.lt_size e)) e
      exact names_sound hst' xs es ds vs ρ { s with heap := h' } P hf hm hl (r.grow (.of_keeps keep)) (R.ext (tk := s.toks) keep) fun s' R' g' => k _ s' R' ((Grow.of_keeps keep).trans g') hq
    | _ => exact h.elim

/-- what letOwnedTupleGo does for the iterators that are met -/
theorem letOwned_sound {target : Expr} {I : Addr} {o : Obj} {v : Value} {d : D} {i : Nat} {h : Heap} {P : Unit → Shared → Prop} (hI : s.heap.get? I = some o) (hit : ItObj h σ d i o) (k : P () s) :
    wpAny (model C.prog C.w) A (letOwnedTupleGo target (.ref I) v) P E s := by
  have hc : ∃ n, o.cls = .type n ∧ ["enumerate", "zip", "dict_itemiterator", "dict_reverseitemiterator", "odict_iterator", "itertools.zip_longest", "itertools.pairwise"].contains n = false := by
    cases hit with
    | list _ c => exact ⟨_, c, by decide⟩
    | tup _ c => exact ⟨_, c, by decide⟩
    | rng => exact ⟨_, rfl, by decide⟩
  obtain ⟨n, hc, hn⟩ := hc
  have core : wpAny (model C.prog C.w) A (do
      let (.ref r, .ref a) := (Value.ref I, v) | return
      let o ← load r
      match o.cls, o.data with
      | .type n, .fields vs =>
        if ["enumerate", "zip", "dict_itemiterator", "dict_reverseitemiterator", "odict_iterator", "itertools.zip_longest", "itertools.pairwise"].contains n && vs[0]? == some (rawInt a) then
          rule "for.unpacks-the-owned-tuple"
          updateField r 0 .none
      | _, _ => pure ()) P E s := by
    cases v <;> try exact wpAny_pure k
    refine wpAny_bind (wpAny_load hI ?_)
    rw [hc]
    split
    · rename_i n' vs e1 e2
      cases e1
      rw [hn]
      simp only [Bool.false_and, Bool.false_eq_true, if_false]
      exact wpAny_pure k
    · exact wpAny_pure k
  cases target <;> first | exact core | exact wpAny_pure k

end
end
end Mine

/-! LM7c -/
open PySem
set_option Elab.async false
set_option autoImplicit false
set_option linter.unusedVariables false
namespace Mine
noncomputable section

theorem relab_eq (f : Fr) (csc : Scope) : relab f.env.scope csc = relabel csc f.env := rfl

/-- the cells that a comprehension takes along -/
theorem closure_ok {scope : Scope} {env : Env} (h : ∀ n k, (n, k) ∈ scope.names → k = .free → ∃ c, env.cells.lookup n = some c) :
    ∃ cl, closureFor scope env = pure cl ∧ (∀ n c, (n, c) ∈ cl → env.cells.lookup n = some c) ∧ ∀ n, (n, NameKind.free) ∈ scope.names → (cl.lookup n).isSome = true := by
  have key : ∀ (names : List (Str × NameKind)) (acc : List (Str × Addr)), (∀ n k, (n, k) ∈ names → k = .free → ∃ c, env.cells.lookup n = some c) → (∀ n c, (n, c) ∈ acc → env.cells.lookup n = some c) →
      ∃ cl, (forIn names acc fun (x : Str × NameKind) cs => if (x.2 == .free) = true then do let a ← cellOf env x.1; pure (ForInStep.yield ((x.1, a) :: cs)) else pure (ForInStep.yield cs)) = (pure cl : Sem _) ∧
        (∀ n c, (n, c) ∈ cl → env.cells.lookup n = some c) ∧ (∀ n, (acc.lookup n).isSome = true ∨ (n, NameKind.free) ∈ names → (cl.lookup n).isSome = true) := by
    intro names
    induction names with
    | nil => intro acc _ ha; exact ⟨acc, rfl, ha, fun n hn => hn.elim id fun x => by cases x⟩
    | cons x names ih =>
      intro acc hn ha
      obtain ⟨n, k⟩ := x
      rw [List.forIn_cons]
      by_cases hk : k = .free
      · subst hk
        obtain ⟨c, hc⟩ := hn n .free (by simp) rfl
        have e : cellOf env n = pure c := by unfold cellOf; rw [hc]
        simp only [beq_self_eq_true, if_true, e]
        obtain ⟨cl, h1, h2, h3⟩ := ih ((n, c) :: acc) (fun n' k' hm hk' => hn n' k' (List.mem_cons_of_mem _ hm) hk') (fun n' c' hm => by
          rcases List.mem_cons.mp hm with q | q
          · cases q; exact hc
          · exact ha n' c' q)
        refine ⟨cl, h1, h2, fun n' hn' => h3 n' ?_⟩
        by_cases hnn : n' = n
        · subst hnn; left; simp
        · rcases hn' with q | q
          · left; rw [List.lookup_cons, beq_eq_false_iff_ne.mpr hnn]; exact q
          · rcases List.mem_cons.mp q with q | q
            · cases q; exact absurd rfl hnn
            · exact .inr q
      · have hb : (k == NameKind.free) = false := by simpa using hk
        simp only [hb, Bool.false_eq_true, if_false]
        obtain ⟨cl, h1, h2, h3⟩ := ih acc (fun n' k' hm hk' => hn n' k' (List.mem_cons_of_mem _ hm) hk') ha
        refine ⟨cl, h1, h2, fun n' hn' => h3 n' ?_⟩
        rcases hn' with q | q
        · exact .inl q
        · rcases List.mem_cons.mp q with q | q
          · cases q; exact absurd rfl hk
          · exact .inr q
  obtain ⟨cl, h1, h2, h3⟩ := key scope.names [] h (fun _ _ hm => by cases hm)
  refine ⟨cl, ?_, h2, fun n hn => h3 n (.inr hn)⟩
  show (forIn scope.names [] (fun (x : Str × NameKind) cs => if (x.2 == .free) = true then do let a ← cellOf env x.1; pure (ForInStep.yield ((x.1, a) :: cs)) else pure (ForInStep.yield cs)) >>= fun s => pure s) = (pure cl : Sem _)
  rw [h1]
  rfl

section
variable {C : Cx} {fix : Fix} {f : Fr} {ρ : Loc} {σ : Sto} {s : Shared} {A : Around} {E : Value → Shared → Prop}
theorem iter_self {d : D} {i : Nat} {I : Addr} {o : Obj} {h : Heap} {P : Value → Shared → Prop} (hI : s.heap.get? I = some o) (hit : ItObj h σ d i o) (k : P (.ref I) s) : wpAny (model C.prog C.w) A (pyIter (.ref I)) P E s := by
  cases hit with
  | list hc c1 c2 => exact wpAny_pyIter_listiter ⟨_, hI, c1, c2⟩ k
  | tup ht c1 c2 => exact wpAny_pyIter_tupleiter ⟨_, hI, c1, c2⟩ k
  | rng => exact wpAny_pyIter_rangeiter hI k

def Tgt.names : Tgt → List String
  | .name x => [x]
  | .tup xs => xs
theorem sets_not {ρ : Loc} : ∀ {xs : List String} {ds : List D} {z : String}, z ∉ xs → (ρ.sets xs ds) z = ρ z := by
  intro xs
  induction xs generalizing ρ with
  | nil => intro ds z _; cases ds <;> rfl
  | cons x xs ih =>
    intro ds z hz
    cases ds with
    | nil => rfl
    | cons d ds =>
      simp only [List.mem_cons, not_or] at hz
      show (Loc.sets (ρ.set x d) xs ds) z = ρ z
      rw [ih hz.2]
      unfold Loc.set; rw [if_neg hz.1]
theorem sets_same {ρ ρ' : Loc} : ∀ {xs : List String} {ds : List D} {z : String}, z ∈ xs → ds.length = xs.length → (ρ.sets xs ds) z = (ρ'.sets xs ds) z := by
  intro xs
  induction xs generalizing ρ ρ' with
  | nil => intro ds z hz; cases hz
  | cons x xs ih =>
    intro ds z hz hl
    cases ds with
    | nil => simp at hl
    | cons d ds =>
      show (Loc.sets (ρ.set x d) xs ds) z = (Loc.sets (ρ'.set x d) xs ds) z
      by_cases hm : z ∈ xs
      · exact ih hm (by simpa using hl)
      · rw [sets_not hm, sets_not hm]
        have : z = x := by simpa [hm] using hz
        subst this
        unfold Loc.set; simp
theorem assignW_in {t : Tgt} {x : D} {ρ₀ ρc : Loc} {Q : Loc → Prop} (loc vis : String → Prop) (h : assignW t x ρ₀ Q) (hl : ∀ z, loc z → z ≠ ".0" → z ∈ t.names) (ht : ∀ z ∈ t.names, loc z)
    (hc : ∀ z d, ρc z = some d → ρ₀ z = some d ∧ ¬ loc z) (hc' : ∀ z d, ρ₀ z = some d → ¬ loc z → ρc z = some d) :
    assignW t x ρc (fun ρ' => ∃ ρ'', Q ρ'' ∧ (∀ z d, ρ'' z = some d → z ≠ ".0" → ρ' z = some d) ∧ (∀ z d, ρc z = some d → ρ'' z = some d)) := by
  cases t with
  | name y =>
    refine ⟨_, h, fun z d e h0 => ?_, fun z d e => ?_⟩
    · unfold Loc.set at e ⊢
      split at e
      · rename_i hz; rw [if_pos hz]; exact e
      · rename_i hz
        rw [if_neg hz]
        refine hc' z d e fun hlz => hz ?_
        simpa [Tgt.names] using hl z hlz h0
    · unfold Loc.set
      rw [if_neg]
      · exact (hc z d e).1
      · rintro rfl; exact (hc z d e).2 (ht z (by simp [Tgt.names]))
  | tup ys =>
    unfold assignW at h ⊢
    cases x with
    | tup ds =>
      obtain ⟨hlen, h⟩ := h
      refine ⟨hlen, _, h, fun z d e h0 => ?_, fun z d e => ?_⟩
      · by_cases hm : z ∈ ys
        · rw [sets_same (ρ' := ρ₀) hm hlen]; exact e
        · rw [sets_not hm] at e ⊢
          exact hc' z d e fun hlz => hm (hl z hlz h0)
      · have hm : z ∉ ys := fun hm => (hc z d e).2 (ht z hm)
        rw [sets_not hm]; exact (hc z d e).1
    | _ => exact h.elim

theorem mTgt_local {sc : Scope} {t : Tgt} {e : Expr} (h : mTgt true sc t e = true) : ∀ z ∈ t.names, sc.names.lookup (Str.ofString z) = some .local := by
  have one : ∀ z, isStore true sc z = true → sc.names.lookup (Str.ofString z) = some .local := by
    intro z hz
    unfold isStore at hz
    split at hz
    · assumption
    · cases hz
    · cases hz
  cases t with
  | name x =>
    cases e <;> try exact absurd h Bool.false_ne_true
    replace h := an h
    intro z hz
    simp only [Tgt.names, List.mem_singleton] at hz
    subst hz; exact one _ h.2
  | tup xs =>
    cases e <;> try exact absurd h Bool.false_ne_true
    rename_i es n p
    replace h : mTgt.go true sc xs es = true := h
    show ∀ z ∈ xs, _
    clear n p
    induction xs generalizing es with
    | nil => intro z hz; cases hz
    | cons x xs ih =>
      cases es with
      | nil => exact absurd h Bool.false_ne_true
      | cons e es =>
        cases e <;> try exact absurd h Bool.false_ne_true
        replace h := an h; have h1 := an h.1
        intro z hz
        rcases List.mem_cons.mp hz with rfl | hz
        · exact one _ h1.2
        · exact ih es h.2 z hz

/-- the turns of a comprehension -/
theorem compLoop_sound {I Da Ca : Addr} {d : D} {xs : List D} {t : Tgt} {elt target iter : Expr} {ifs : List Expr} {csc : Scope} {pos : Pos} {J : Nat → List D → Sto → Prop} {σ₀ : Sto} {h₀ : Heap} {cenv : Env} {ρ₀ ρc : Loc}
    (condW : Loc → Sto → (Bool → Sto → Prop) → Prop) (eltW : Loc → Sto → PostE → Prop)
    (hf : FrOk ⟨cenv, [Ca]⟩) (hh : A.handled = none) (hm : mTgt true cenv.scope t target = true) (hx : itemsD σ₀ d = some xs) (hlen : xs.length ≤ line)
    (hcond : ∀ fix' ρ' σ' Q', (∀ a o, fix a o → fix' a o) → condW ρ' σ' Q' → AWt C A fix' ⟨cenv, [Ca]⟩ (forIn ifs true fun c r => if r = true then do let ok ← isTrue c cenv (eval c cenv); pure (ForInStep.yield ok) else pure (ForInStep.yield r)) ρ' σ' Q')
    (helt : ∀ fix' ρ' σ' Q', (∀ a o, fix a o → fix' a o) → eltW ρ' σ' Q' → AWe C A fix' ⟨cenv, [Ca]⟩ (eval elt cenv) ρ' σ' Q')
    (turn : ∀ i acc σ', J i acc σ' → i ≤ xs.length → stillD σ₀ σ' d ∧ ∀ x, xs[i]? = some x → assignW t x ρ₀ fun ρ₂ => condW ρ₂ σ' fun c σ₂ => (c = true → eltW ρ₂ σ₂ fun v σ₃ => J (i + 1) (acc ++ [v]) σ₃) ∧ (c = false → J (i + 1) acc σ₂))
    (hl : ∀ z, cenv.scope.names.lookup (Str.ofString z) = some .local → z ≠ ".0" → z ∈ t.names)
    (hc : ∀ z d, ρc z = some d ↔ ρ₀ z = some d ∧ cenv.scope.names.lookup (Str.ofString z) ≠ some .local)
    {σ₁ : Sto} {s₁ : Shared} {o₁ : Obj} (R : Rel C fix ⟨cenv, [Ca]⟩ ρc σ₁ s₁) (hJ : J 0 [] σ₁) (g : Grow h₀ s₁.heap) (hI : s₁.heap.get? I = some o₁) (hit : ItObj s₁.heap σ₀ d 0 o₁)
    (l1 : σ₁ I = none) (l2 : I ≠ Ca) (l3 : ∀ o, ¬ fix I o) (hD : s₁.heap.get? Da = some { cls := .type "list", data := .seq #[] 0 }) (d1 : σ₁ Da = none) (d2 : Da ≠ Ca) (d3 : ∀ o, ¬ fix Da o) (hID : I ≠ Da)
    {Re : Value → Shared → Prop} :
    codeAny (model C.prog C.w) A (.compLoop (.ListComp elt [⟨target, iter, ifs, 0⟩] csc pos) 0 (.ref I) (.ref Da) cenv)
      (fun r s' => match r with | .ok _ => ∃ acc σ', J xs.length acc σ' ∧ Rel C fix ⟨cenv, [Ca]⟩ ρc (σ'.put Da (.list acc)) s' ∧ σ' Da = none ∧ Grow h₀ s'.heap | .error e => Re e s') s₁ := by
  refine codeAny_loop rfl (fun n s' => ∃ i acc σ' o vs ne, n = xs.length - i ∧ i ≤ xs.length ∧ acc.length ≤ i ∧ J i acc σ' ∧ Rel C fix ⟨cenv, [Ca]⟩ ρc σ' s' ∧ Grow h₀ s'.heap ∧ s'.heap.get? I = some o ∧ ItObj s'.heap σ₀ d i o ∧ σ' I = none ∧
    s'.heap.get? Da = some { cls := .type "list", data := .seq (List.toArray vs) ne } ∧ IsAll s'.heap acc vs ∧ σ' Da = none) ?_ _ ⟨0, [], σ₁, o₁, [], 0, rfl, Nat.zero_le _, Nat.le_refl _, hJ, R, g, hI, hit, l1, hD, .nil, d1⟩
  rintro n s' ⟨i, acc, σ', o, vs, ne, rfl, hi', hacc, hJ', R', g', hI', hit', l1', hD', hvs, d1'⟩
  show wpAny _ A ((compTurn (.ListComp elt [⟨target, iter, ifs, 0⟩] csc pos) 0 (.ref I) (.ref Da) cenv).onRaise (fun x => do noteFrame x cenv; theTreesLotGoes x)) _ _ s'
  refine wpAny_noted ?_
  rw [compTurn_list]
  obtain ⟨hst, tu⟩ := turn i acc σ' hJ' hi'
  have hx' : itemsD σ' d = some xs := by
    cases d <;> first | exact hx | skip
    rename_i a
    simp only [itemsD] at hx ⊢
    rw [show σ' a = σ₀ a from hst]; exact hx
  have hitσ : ItObj s'.heap σ' d i o := hit'.grow (.refl _) hst
  have l2' : I ∉ (⟨cenv, [Ca]⟩ : Fr).own := by simpa using l2
  have d2' : Da ∉ (⟨cenv, [Ca]⟩ : Fr).own := by simpa using d2
  refine wpAny_bind (wpAny_standAt (wpAny_bind ?_))
  rcases Nat.lt_or_ge i xs.length with hlt | hge
  · have hxi : xs[i]? = some xs[i] := List.getElem?_eq_getElem hlt
    have RD := R'.addFix hD' d1' d2'
    refine next_item RD hx' hI' hitσ l1' l2' (fun o h => by rcases h with h | ⟨h, _⟩; exact l3 o h; exact hID h) hxi fun v o' s₂ R₂ g₂ hI₂ hit₂ iv => ?_
    refine wpAny_bind (letOwned_sound hI₂ hit₂ ?_)
    have R₂' := R₂.addFix hI₂ l1' l2'
    have hfx : ∀ a o, fix a o → ((fix.add Da { cls := .type "list", data := .seq (List.toArray vs) ne }).add I o') a o := fun a o h => .inl (.inl h)
    refine wpAny_bind (assign_sound (.inl rfl) hf hh hm R₂' iv (assignW_in (fun z => cenv.scope.names.lookup (Str.ofString z) = some .local) (fun _ => True) (tu _ hxi) hl (mTgt_local hm) (fun z d e => ⟨((hc z d).mp e).1, ((hc z d).mp e).2⟩) (fun z d e h => (hc z d).mpr ⟨e, h⟩)) fun ρ₃ s₃ R₃ g₃ hb => ?_)
    obtain ⟨ρ₄, hb, hb1, hb2⟩ := hb
    have R₄ := R₃.reloc (ρ' := ρ₄) fun x d e h0 _ => hb1 x d e h0
    refine wpAny_bind (wpAny_mono (hcond _ ρ₄ σ' _ hfx hb _ s₃ R₄) (fun ok s₅ h₅ => ?_) fun _ _ x => x)
    obtain ⟨σ₅, R₅, g₅, hq⟩ := h₅
    have loI := R₅.looseAt
    have stillIt : ∀ {h}, Grow s₂.heap h → ItObj h σ₀ d (i + 1) o' := fun g => by
      refine hit₂.grow g ?_
      cases d <;> first | exact True.intro | exact (show _ = _ from hst).symm
    cases ok with
    | false =>
      refine wpAny_pure ⟨rfl, xs.length - (i + 1), by omega, i + 1, acc, σ₅, o', vs, ne, rfl, hlt, by omega, hq.2 rfl, ?_⟩
      have R₆ := (R₅.dropFix R₂.cellsOf)
      have loD := R₆.looseAt
      have R₇ := (R₆.dropFix R'.cellsOf).reloc (ρ' := ρc) fun x d e _ _ => hb2 x d e
      exact ⟨R₇, g'.trans (g₂.trans (g₃.trans g₅)), loI.2.2, stillIt (g₃.trans g₅), loI.1, loD.2.2, hvs.grow (g₂.trans (g₃.trans g₅)), loD.1⟩
    | true =>
      refine wpAny_bind (wpAny_bind (wpAny_mono (helt _ ρ₄ σ₅ _ hfx (hq.1 rfl) _ s₅ R₅) (fun y s₆ h₆ => ?_) fun _ _ x => x))
      obtain ⟨dy, σ₆, R₆, g₆, iy, hj⟩ := h₆
      have loI := R₆.looseAt
      have R₇ := R₆.dropFix R₂.cellsOf
      have loD := R₇.looseAt
      have R₈ := (R₇.dropFix R'.cellsOf).reloc (ρ' := ρc) fun x d e _ _ => hb2 x d e
      have hvl := hvs.length
      have gg := g₂.trans (g₃.trans (g₅.trans g₆))
      refine wpAny_bind (wpAny_list_append_plain (hsz := by rw [List.size_toArray]; unfold line at hlen; unfold sizeLine; omega) ⟨ne, loD.2.2⟩ fun h₉ hl₉ hs₉ => wpAny_pure (wpAny_pure ⟨rfl, ?_⟩))
      obtain ⟨ne', hl₉⟩ := hl₉
      obtain ⟨R₉, g₉⟩ := R₈.loose (tk := s₆.toks) loD.1 d2' d3 (fun o e => by rw [loD.2.2] at e; cases e; rfl) hs₉.extBut
      refine ⟨xs.length - (i + 1), by omega, i + 1, acc ++ [dy], σ₆, o', vs ++ [y], ne', rfl, hlt, by simp; omega, hj, R₉, g'.trans (gg.trans g₉), hs₉.extBut I _ hID loI.2.2, stillIt ((g₃.trans (g₅.trans g₆)).trans g₉), loI.1, ?_, ((hvs.grow gg).snoc iy).grow g₉, loD.1⟩
      rw [hl₉]; simp
  · have hie : i = xs.length := by omega
    subst hie
    have RD := R'.addFix hD' d1' d2'
    refine next_end hh RD hx' hI' hitσ l1' l2' (fun o h => by rcases h with h | ⟨h, _⟩; exact l3 o h; exact hID h) (Nat.le_refl _) fun s₂ R₂ g₂ => ?_
    have loD := R₂.looseAt
    refine wpAny_pure ⟨acc, σ', hJ', ?_, d1', g'.trans g₂⟩
    exact (R₂.dropFix R'.cellsOf).track ⟨vs, ne, loD.2.2, hvs.grow g₂⟩ d2' d3
end

theorem lookup_relabel {env : Env} {x : Str} : ∀ (names : List (Str × NameKind)),
    (names.map fun (n, k) => if (k == NameKind.free && env.scope.kind == .function && env.kindOf n == some .cell) then (n, NameKind.cell) else (n, k)).lookup x =
      (names.lookup x).map fun k => if (k == NameKind.free && env.scope.kind == .function && env.kindOf x == some .cell) then NameKind.cell else k
  | [] => rfl
  | (n, k) :: r => by
    have ih := lookup_relabel (env := env) (x := x) r
    rw [List.map_cons]
    have hfst : ∀ b : Bool, (if b = true then (n, NameKind.cell) else (n, k)) = (n, if b = true then NameKind.cell else k) := by intro b; cases b <;> rfl
    show List.lookup x ((if (k == NameKind.free && env.scope.kind == .function && env.kindOf n == some .cell) = true then (n, NameKind.cell) else (n, k)) :: _) = _
    rw [hfst, List.lookup_cons, List.lookup_cons]
    cases hx : x == n with
    | true => rw [beq_iff_eq.mp hx]; rfl
    | false => exact ih

section
variable {C : Cx} {fix : Fix} {f : Fr} {ρ : Loc} {σ : Sto} {s : Shared} {A : Around} {E : Value → Shared → Prop}

theorem compSc_kind {sc csc : Scope} {t : Tgt} (h : compScOk sc csc t = true) : csc.kind = .function := by
  unfold compScOk at h; simp only [Bool.and_eq_true, beq_iff_eq] at h; exact h.1
theorem compSc_mem {sc csc : Scope} {t : Tgt} (h : compScOk sc csc t = true) {n : Str} {k : NameKind} (hm : (n, k) ∈ csc.names) :
    (k = .local ∧ csc.names.lookup n = some .local ∧ (n = Str.ofString ".0" ∨ ∃ y ∈ t.names, n = Str.ofString y)) ∨ (k = .free ∧ (sc.names.lookup n = some .cell ∨ sc.names.lookup n = some .free)) ∨ k = .globalImplicit := by
  unfold compScOk at h
  simp only [Bool.and_eq_true, List.all_eq_true] at h
  have := h.2 _ hm
  cases k with
  | «local» =>
    simp only [Bool.and_eq_true, beq_iff_eq, Bool.or_eq_true] at this
    refine .inl ⟨rfl, this.1, this.2.imp id fun q => ?_⟩
    cases t with
    | name y => exact ⟨y, by simp [Tgt.names], by simpa using q⟩
    | tup ys =>
      simp only [List.any_eq_true, beq_iff_eq] at q
      obtain ⟨y, hy, e⟩ := q
      exact ⟨y, hy, e⟩
  | free => simp only [Bool.or_eq_true, beq_iff_eq] at this; exact .inr (.inl ⟨rfl, this⟩)
  | globalImplicit => exact .inr (.inr rfl)
  | _ => simp at this

theorem lookup_mem {α : Type} {n : Str} {a : α} {l : List (Str × α)} (h : l.lookup n = some a) : (n, a) ∈ l := mem_of_lookup h

/-- a comprehension, whole -/
theorem comp_gen {e' t' i' : Expr} {fs : List Expr} {csc : Scope} {p : Pos} {t : Tgt} {d : D} {v : Value} {xs : List D} {J : Nat → List D → Sto → Prop} {use : Option (Value → Sem Unit)} {Q' : Value → Shared → Prop}
    (condW : Loc → Sto → (Bool → Sto → Prop) → Prop) (eltW : Loc → Sto → PostE → Prop)
    (hf : FrOk f) (hA : Room A) (hsys : ∃ o, fix sysModules o) (hc : compScOk f.env.scope csc t = true) (ht : mTgt true (relab f.env.scope csc) t t' = true)
    (hcond : ∀ fix' f' ρ' σ' Q', FrOk f' → f'.env.scope = relab f.env.scope csc → (∀ a o, fix a o → fix' a o) → condW ρ' σ' Q' → AWt C A fix' f' (forIn fs true fun c r => if r = true then do let ok ← isTrue c f'.env (eval c f'.env); pure (ForInStep.yield ok) else pure (ForInStep.yield r)) ρ' σ' Q')
    (helt : ∀ fix' f' ρ' σ' Q', FrOk f' → f'.env.scope = relab f.env.scope csc → (∀ a o, fix a o → fix' a o) → eltW ρ' σ' Q' → AWe C A fix' f' (eval e' f'.env) ρ' σ' Q')
    (R : Rel C fix f ρ σ s) (hd : Is s.heap d v) (hx : itemsD σ d = some xs) (hlen : xs.length ≤ line) (hJ : J 0 [] σ)
    (turn : ∀ i acc σ', J i acc σ' → i ≤ xs.length → stillD σ σ' d ∧ ∀ x, xs[i]? = some x → assignW t x ρ fun ρ₂ => condW ρ₂ σ' fun c σ₂ => (c = true → eltW ρ₂ σ₂ fun v σ₃ => J (i + 1) (acc ++ [v]) σ₃) ∧ (c = false → J (i + 1) acc σ₂))
    (fin : ∀ acc σ' Da Ca oC s', J xs.length acc σ' → σ' Da = none → Rel C (fix.add Ca oC) f ρ (σ'.put Da (.list acc)) s' → Grow s.heap s'.heap → (∃ m, s'.heap.Ns Ca m) → frozen oC = false → (∀ o, ¬ fix Ca o) → compPost (model C.prog C.w) A E use Q' (.ref Da) Ca (.ok .next) s')
    {cl : List (Str × Addr)} (hclos : closureFor csc f.env = pure cl) (hcl1 : ∀ n c, (n, c) ∈ cl → f.env.cells.lookup n = some c) (hcl2 : ∀ n, (n, NameKind.free) ∈ csc.names → (cl.lookup n).isSome = true) :
    wpAny (model C.prog C.w) A (pyIter v) (fun it s₂ => wpAny (model C.prog C.w) A (newList []) (fun acc s₃ =>
      wpAny (model C.prog C.w) A (newFunctionEnv csc f.env.globals cl [] f.env.qual none .none (some f.env)) (fun cenv s₄ =>
        codeAny (model C.prog C.w) A (.compStart (.ListComp e' [⟨t', i', fs, 0⟩] csc p) 0 it acc { cenv with scope := relabel csc f.env }) (compPost (model C.prog C.w) A E use Q' acc cenv.locals) s₄) E s₃) E s₂) E s := by
  refine iter_sound R hsys hd hx hlen fun I oI s₂ R₂ g₂ hI hit l1 l2 l3 => ?_
  refine wpAny_newList ?_ (by simp)
  have kD : ∀ b o, s₂.heap.get? b = some o → (s₂.heap.push { cls := .type "list", data := .seq ([] : List Value).toArray }).get? b = some o := fun b o e => Heap.get?_push_of_some _ e
  have R₃ := R₂.ext (tk := s₂.toks) kD
  have hDat := Heap.get?_push_size s₂.heap (o := { cls := .type "list", data := .seq ([] : List Value).toArray }) rfl
  have frD := R₂.fresh (a := s₂.heap.objs.size) get_size
  generalize hs3 : ({ s₂ with heap := s₂.heap.push { cls := .type "list", data := .seq ([] : List Value).toArray } } : Shared) = s₃
  have hs3h : s₃.heap = s₂.heap.push { cls := .type "list", data := .seq ([] : List Value).toArray } := by rw [← hs3]
  have R₃ : Rel C fix f ρ σ s₃ := by rw [← hs3]; exact R₃
  rw [← hs3h] at kD hDat
  have hcell : ∀ x ∈ csc.names, x.2 ≠ .cell := fun x hx e => by
    obtain ⟨n, k⟩ := x
    rcases compSc_mem hc hx with ⟨h, _⟩ | ⟨h, _⟩ | h <;> (subst h; cases e)
  refine wpAny_newFunctionEnv hcell (by intro y hy; cases hy) (fun h₄ hns₄ hsb₄ => ?_) (compSc_kind hc)
  have kC : ∀ b o, s₃.heap.get? b = some o → h₄.get? b = some o := fun b o e => hsb₄.extBut b o (Nat.ne_of_lt (Heap.lt_size e)) (Heap.get?_push_of_some _ e)
  have frC := R₃.fresh (a := s₃.heap.objs.size) get_size
  have R₄ := R₃.ext (h' := h₄) (tk := s₃.toks + ([] : List (Str × Value)).length) kC
  generalize hs4 : ({ s₃ with heap := h₄, toks := s₃.toks + ([] : List (Str × Value)).length } : Shared) = s₄ at R₄ ⊢
  have hs4h : s₄.heap = h₄ := by rw [← hs4]
  generalize hCa : s₃.heap.objs.size = Ca at hns₄ frC ⊢
  generalize hDa : s₂.heap.objs.size = Da at hDat frD ⊢
  have hDaCa : Da ≠ Ca := by rw [← hCa]; exact Nat.ne_of_lt (Heap.lt_size hDat)
  have hI₃ := kD _ _ hI
  have hICa : I ≠ Ca := by rw [← hCa]; exact Nat.ne_of_lt (Heap.lt_size hI₃)
  have hIDa : I ≠ Da := by rw [← hDa]; exact Nat.ne_of_lt (Heap.lt_size hI)
  have envEq : ({ (newEnv csc Ca f.env.globals cl f.env.qual none Value.none (some f.env) 0) with scope := relabel csc f.env } : Env) = compEnvC csc cl Ca f.env := rfl
  have kindEq : ∀ x, (compEnvC csc cl Ca f.env).kindOf x = (csc.names.lookup x).map fun k => if (k == NameKind.free && f.env.scope.kind == .function && f.env.kindOf x == some .cell) then NameKind.cell else k := fun x => lookup_relabel csc.names
  have kLocal : ∀ x, (compEnvC csc cl Ca f.env).kindOf x = some .local → csc.names.lookup x = some .local := fun x h => by
    rw [kindEq] at h
    obtain ⟨k, hk, e⟩ := Option.map_eq_some_iff.mp h
    split at e
    · cases e
    · rw [hk, e]
  have kFree : ∀ x, (compEnvC csc cl Ca f.env).kindOf x = some .cell ∨ (compEnvC csc cl Ca f.env).kindOf x = some .free → (x, NameKind.free) ∈ csc.names := fun x h => by
    rw [kindEq] at h
    rcases h with h | h <;> (obtain ⟨k, hk, e⟩ := Option.map_eq_some_iff.mp h; have hm := lookup_mem hk; rcases compSc_mem hc hm with ⟨q, _⟩ | ⟨q, _⟩ | q)
    · subst q; simp at e
    · subst q; exact hm
    · subst q; simp at e
    · subst q; simp at e
    · subst q; exact hm
    · subst q; simp at e
  have clLook : ∀ x, (x, NameKind.free) ∈ csc.names → ∃ c, cl.lookup x = some c ∧ f.env.cells.lookup x = some c := fun x hm => by
    obtain ⟨c, hc'⟩ := Option.isSome_iff_exists.mp (hcl2 x hm)
    exact ⟨c, hc', hcl1 x c (lookup_mem hc')⟩
  have outerKind : ∀ x, (x, NameKind.free) ∈ csc.names → f.env.kindOf x = some .cell ∨ f.env.kindOf x = some .free := fun x hm => by
    rcases compSc_mem hc hm with ⟨q, _⟩ | ⟨_, q⟩ | q
    · cases q
    · exact q
    · cases q
  -- the frame of the comprehension
  let ρc : Loc := fun z => if (compEnvC csc cl Ca f.env).kindOf (Str.ofString z) = some .local then Option.none else ρ z
  have hCown : Ca ∉ f.own := frC.2.1
  have RC : Rel C (fixOf fix f s₄.heap) ⟨compEnvC csc cl Ca f.env, [Ca]⟩ ρc σ s₄ := {
    fixed := R₄.base.fixed
    loc := by
      obtain ⟨m, hn, r⟩ := R₄.loc
      refine ⟨_, by rw [hs4h]; exact hns₄, fun x dx e h0 => ⟨fun k => ?_, fun k => ?_⟩⟩
      · simp only [ρc] at e; rw [if_pos k] at e; cases e
      · have hm := kFree _ k
        have hnl : ¬ (compEnvC csc cl Ca f.env).kindOf (Str.ofString x) = some .local := fun q => by rw [q] at k; rcases k with k | k <;> cases k
        simp only [ρc] at e; rw [if_neg hnl] at e
        obtain ⟨c, u, e1, e2, e3⟩ := (r x dx e h0).2 (outerKind _ hm)
        obtain ⟨c', q1, q2⟩ := clLook _ hm
        rw [e1] at q2; cases q2
        exact ⟨c, u, q1, e2, e3⟩
    locOwn := by simp [compEnvC]
    cells := fun x hx => by
      have hm := kFree x (.inl hx)
      have hx' : f.env.kindOf x = some .cell := by
        rw [kindEq] at hx
        obtain ⟨k, hk, e⟩ := Option.map_eq_some_iff.mp hx
        split at e
        · rename_i q; simp only [Bool.and_eq_true, beq_iff_eq] at q; exact q.2
        · subst e; have := hcell _ (lookup_mem hk); exact absurd rfl this
      obtain ⟨c, u, e1, e2⟩ := R₄.cells x hx'
      obtain ⟨c', q1, q2⟩ := clLook x hm
      rw [e1] at q2; cases q2
      exact ⟨c, u, q1, e2⟩
    frees := fun x hx => by
      obtain ⟨c, q1, _⟩ := clLook x (kFree x (.inr hx))
      exact ⟨c, q1⟩
    cellsFix := fun x c hm => by
      have hlk := hcl1 x c hm
      have hold := R₄.cellsFix x c (lookup_mem hlk)
      have hobj : ∃ o, s₃.heap.get? c = some o := by
        rcases hold.2 with q | ⟨o, q⟩
        · obtain ⟨o, ho, _⟩ := R₃.ownObj c q; exact ⟨o, ho⟩
        · exact ⟨o, R₃.fixed c o q⟩
      obtain ⟨oc, hoc⟩ := hobj
      refine ⟨?_, .inr ?_⟩
      · show c ≠ Ca
        rw [← hCa]; exact Nat.ne_of_lt (Heap.lt_size hoc)
      · rcases hold.2 with q | ⟨o, q⟩
        · exact ⟨oc, .inr ⟨q, by rw [hs4h]; exact kC _ _ hoc⟩⟩
        · exact ⟨o, .inl q⟩
    cellsApart := fun x y c h1 h2 => R₄.cellsApart x y c (hcl1 x c (lookup_mem h1)) (hcl1 y c (lookup_mem h2))
    sto := R₄.sto
    apart := fun a c e => ⟨fun hm => (by
        simp only [List.mem_singleton] at hm
        subst hm; rw [frC.1] at e; exact absurd e (by simp)), fun o h => R₄.base.apart a c e o h⟩
    ownFix := fun a ha o h => by
      simp only [List.mem_singleton] at ha
      subst ha
      rcases h with h | ⟨h, _⟩
      · exact frC.2.2 o h
      · exact hCown h
    ownObj := fun a ha => by
      simp only [List.mem_singleton] at ha
      subst ha
      obtain ⟨o, es, ep, ho, hdt, _⟩ := hns₄
      exact ⟨o, by rw [hs4h]; exact ho, by simp [frozen, hdt]⟩
    gens := R₄.gens
    os := R₄.os }
  have hf' : FrOk ⟨compEnvC csc cl Ca f.env, [Ca]⟩ := ⟨by show csc.kind = .function; exact compSc_kind hc, hf.globals, hf.builtins⟩
  have g₄ : Grow s.heap s₄.heap := g₂.trans (by rw [hs4h]; exact (Grow.of_keeps kD).trans (.of_keeps kC))
  have hI₄ : s₄.heap.get? I = some oI := by rw [hs4h]; exact kC _ _ hI₃
  have hD₄ : s₄.heap.get? Da = some { cls := .type "list", data := .seq #[] 0 } := by rw [hs4h]; exact kC _ _ hDat
  have notOwn : ∀ a, (∃ o, s₂.heap.get? a = some o) ∨ a = Da → a ∉ f.own → ∀ (hfx : ∀ o, ¬ fix a o) o, ¬ fixOf fix f s₄.heap a o := fun a _ hn hfx o h => h.elim (hfx o) fun q => hn q.1
  have loop : codeAny (model C.prog C.w) A (.compLoop (.ListComp e' [⟨t', i', fs, 0⟩] csc p) 0 (.ref I) (.ref Da) (compEnvC csc cl Ca f.env)) (compPost (model C.prog C.w) A E use Q' (.ref Da) Ca) s₄ := by
    refine codeAny_mono (compLoop_sound (fix := fixOf fix f s₄.heap) (h₀ := s₄.heap) (ρ₀ := ρ) (ρc := ρc) (J := J) (t := t) (σ₀ := σ) (d := d) (xs := xs) (Re := fun _ _ => False) condW eltW hf' hA.handled ht hx hlen
      (fun fix' ρ' σ' Q' hfx hw => hcond fix' ⟨compEnvC csc cl Ca f.env, [Ca]⟩ ρ' σ' Q' hf' rfl (fun a o h => hfx a o (.inl h)) hw)
      (fun fix' ρ' σ' Q' hfx hw => helt fix' ⟨compEnvC csc cl Ca f.env, [Ca]⟩ ρ' σ' Q' hf' rfl (fun a o h => hfx a o (.inl h)) hw)
      turn ?_ ?_ RC hJ (.refl _) hI₄ (hit.grow (by rw [hs4h]; exact (Grow.of_keeps kD).trans (.of_keeps kC)) (by cases d <;> first | exact True.intro | exact rfl)) l1 hICa (notOwn I (.inl ⟨_, hI⟩) l2 l3) hD₄ frD.1 hDaCa (notOwn Da (.inr rfl) frD.2.1 frD.2.2) hIDa) fun r s' hr => ?_
    · intro z hz h0
      rcases compSc_mem hc (lookup_mem (kLocal _ hz)) with ⟨_, _, q | ⟨y, hy, e⟩⟩ | ⟨q, _⟩ | q
      · exact absurd (ofString_inj q) h0
      · rw [ofString_inj e]; exact hy
      · cases q
      · cases q
    · intro z dz
      show (if (compEnvC csc cl Ca f.env).kindOf (Str.ofString z) = some .local then Option.none else ρ z) = some dz ↔ _
      constructor
      · intro h
        split at h
        · cases h
        · rename_i q; exact ⟨h, q⟩
      · rintro ⟨h, q⟩
        exact (if_neg q).trans h
    · cases r with
      | error e => exact hr.elim
      | ok fl =>
        obtain ⟨acc, σ', hj, Rn, dn, gn⟩ := hr
        have B : RelB C (fixOf fix f s₄.heap) (σ'.put Da (.list acc)) s' := ⟨Rn.fixed, Rn.sto, fun a c e o h => (Rn.apart a c e).2 o h, Rn.gens, Rn.os⟩
        have RF := B.frame R₄ gn
        obtain ⟨oC, hoC, hzC⟩ := Rn.ownObj Ca (by simp)
        have hsC : (σ'.put Da (.list acc)) Ca = none := by
          cases e : (σ'.put Da (.list acc)) Ca with
          | none => rfl
          | some c => exact absurd (by simp) (Rn.apart Ca c e).1
        obtain ⟨m, hn, _⟩ := Rn.loc
        have := fin acc σ' Da Ca oC s' hj dn (RF.addFix hoC hsC hCown) (g₄.trans gn) ⟨m, hn⟩ hzC frC.2.2
        cases use <;> exact this
  show codeAny (model C.prog C.w) A (.compStart (.ListComp e' [⟨t', i', fs, 0⟩] csc p) 0 (.ref I) (.ref Da) (compEnvC csc cl Ca f.env)) (compPost (model C.prog C.w) A E use Q' (.ref Da) Ca) s₄
  exact codeAny_compStart_list loop (iter_self hI₄ hit loop)
end
end
end Mine

/-! LZ1 -/
open PySem
set_option Elab.async false
set_option autoImplicit false
set_option linter.unusedVariables false
namespace Mine
noncomputable section
section
variable {prog : Program} {w : World} {A : Around} {E : Value → Shared → Prop} {s : Shared}
theorem nextOf_tuple_item {it l : Addr} {i : Nat} {items : Array Value} {x : Value} {Q : Value → Shared → Prop} (hit : s.heap.IsTupleIter it l i)
    (hl : s.heap.IsTuple l items) (hx : items[i]? = some x)
    (hQ : ∀ h', h'.IsTupleIter it l (i + 1) → Heap.SameBut it s.heap h' → Q x { s with heap := h' }) :
    wpAny (model prog w) A (Builtin.SmallTypes.nextOf (.ref it)) Q E s := by
  obtain ⟨o, ho, hc, hd⟩ := id hit
  obtain ⟨ol, hol, _, nl, hdl⟩ := hl
  unfold Builtin.SmallTypes.nextOf
  refine wpAny_bind (wpAny_callSpecial?_slot (name := Str.ofString "__next__") hit.typeIs F.slot_tuple_iterator_next
    (wpAny_call_entry F.slot_tuple_iterator_next hit.typeIs F.entry_tuple_iterator_next ?_ (F.args_tuple_iterator_next_1 _)))
  show wpAny _ _ (field (.ref it) 0 >>= _) _ _ s
  refine wpAny_bind (wpAny_field ho hd (x := .ref l) rfl ?_)
  show wpAny _ _ (if (Value.ref l == Value.none) = true then _ else _) _ _ s
  rw [if_neg (show ¬ ((Value.ref l == Value.none) = true) from Bool.false_ne_true)]
  show wpAny _ _ (field (.ref it) 1 >>= _) _ _ s
  refine wpAny_bind (wpAny_field ho hd (x := .int i 0) rfl ?_)
  show wpAny _ _ (seqItems? (.ref l) >>= _) _ _ s
  refine wpAny_bind (wpAny_seqItems hol hdl ?_)
  simp only [Int.toNat_natCast, hx]
  refine wpAny_bind (wpAny_setField ho hd (by simp) (wpAny_pure ⟨x, rfl, wpAny_pure (hQ _ ?_ (Heap.SameBut.update ..))⟩))
  exact ⟨_, Heap.get?_update_self _ ho (Obj.isFreed_of_fields (Obj.data_mapFields hd _)), (Obj.cls_mapFields ..).trans hc, by
    rw [Obj.data_mapFields hd]; simp [rawInt]⟩
theorem nextOf_tuple_end {it l : Addr} {i : Nat} {items : Array Value} {Q : Value → Shared → Prop} (hh : A.handled = none)
    (hit : s.heap.IsTupleIter it l i) (hl : s.heap.IsTuple l items) (hx : items[i]? = none)
    (hE : ∀ h' e, Heap.ExtBut it s.heap h' → (∃ o, h'.get? e = some o ∧ o.cls = .type "StopIteration") → E (.ref e) { s with heap := h' }) :
    wpAny (model prog w) A (Builtin.SmallTypes.nextOf (.ref it)) Q E s := by
  obtain ⟨o, ho, hc, hd⟩ := id hit
  obtain ⟨ol, hol, _, nl, hdl⟩ := hl
  unfold Builtin.SmallTypes.nextOf
  refine wpAny_bind (wpAny_callSpecial?_slot (name := Str.ofString "__next__") hit.typeIs F.slot_tuple_iterator_next
    (wpAny_call_entry F.slot_tuple_iterator_next hit.typeIs F.entry_tuple_iterator_next ?_ (F.args_tuple_iterator_next_1 _)))
  show wpAny _ _ (field (.ref it) 0 >>= _) _ _ s
  refine wpAny_bind (wpAny_field ho hd (x := .ref l) rfl ?_)
  show wpAny _ _ (if (Value.ref l == Value.none) = true then _ else _) _ _ s
  rw [if_neg (show ¬ ((Value.ref l == Value.none) = true) from Bool.false_ne_true)]
  show wpAny _ _ (field (.ref it) 1 >>= _) _ _ s
  refine wpAny_bind (wpAny_field ho hd (x := .int i 0) rfl ?_)
  show wpAny _ _ (seqItems? (.ref l) >>= _) _ _ s
  refine wpAny_bind (wpAny_seqItems hol hdl ?_)
  simp only [Int.toNat_natCast, hx]
  refine wpAny_bind (wpAny_rule (wpAny_bind (wpAny_setField ho hd (by simp) ?_)))
  show wpAny _ _ (newExc (.type "StopIteration") [] >>= _) _ _ _
  refine wpAny_bind ?_
  simp only [newExc, newTuple]
  refine wpAny_bind (wpAny_newObj_type ?_ (by size_fits))
  refine wpAny_bind (m := firstArgMember _ _) (wpAny_of_eq (a := Value.none) (by first | rfl | (simp only [firstArgMember]; rfl)) ?_)
  refine wpAny_newObj_type ?_ (by size_fits)
  simp only [raiseNew]
  refine wpAny_bind (wpAny_handled ?_)
  first | rw [show A.in1.handled = none from hh] | rw [hh]
  refine wpAny_bind (wpAny_pure (wpAny_throw ?_))
  exact hE _ _ (((Heap.SameBut.update ..).extBut.push _).push _) ⟨_, Heap.get?_push_size _ rfl, rfl⟩

structure ZipIs (h : Heap) (z TI TO i1 i2 l1 l2 : Addr) (k : Nat) (f0 : Value) : Prop where
  z : IsZip h z TI TO f0
  ti : IsPair h TI (.ref i1) (.ref i2)
  to : ∃ a b, IsPair h TO a b
  i1 : h.IsListIter i1 l1 k
  i2 : h.IsTupleIter i2 l2 k

theorem zip_item {z TI TO i1 i2 l1 l2 : Addr} {k : Nat} {xs ys : Array Value} {x y : Value} {Q : Value → Shared → Prop} (D : ZipApart z TI TO i1 i2 l1 l2)
    (hZ : ZipIs s.heap z TI TO i1 i2 l1 l2 k .none) (hl1 : s.heap.IsList l1 xs) (hl2 : s.heap.IsTuple l2 ys) (hx : xs[k]? = some x) (hy : ys[k]? = some y)
    (hQ : ∀ h', ZipIs h' z TI TO i1 i2 l1 l2 (k + 1) (rawInt s.heap.objs.size) → IsPair h' s.heap.objs.size x y → h'.objs.size = s.heap.objs.size + 1 →
      (∀ c o, c ≠ z → c ≠ TO → c ≠ i1 → c ≠ i2 → s.heap.get? c = some o → h'.get? c = some o) → Q (.ref s.heap.objs.size) { s with heap := h' }) :
    wpAny (model prog w) A (Builtin.«zip.__next__» ⟨[.ref z], []⟩) (fun fin s' => ∃ v, fin = .done (.ret v) ∧ Q v s') E s := by
  obtain ⟨hz, hTI, ⟨a, b, hTO⟩, h1, h2⟩ := hZ
  show wpAny _ _ (field (.ref z) 2 >>= _) _ _ _
  refine wpAny_bind (wpAny_field hz rfl (x := .bool false) rfl ?_)
  show wpAny _ _ (field (.ref z) 3 >>= _) _ _ _
  refine wpAny_bind (wpAny_field hz rfl (x := .ref TI) rfl ?_)
  refine wpAny_bind (wpAny_seqItems hTI rfl ?_)
  show wpAny _ _ (Builtin.SmallTypes.ownedTupleIsFree (.ref z) >>= _) _ _ _
  refine wpAny_bind ?_
  unfold Builtin.SmallTypes.ownedTupleIsFree
  refine wpAny_bind (wpAny_field hz rfl (x := .none) rfl (wpAny_pure ?_))
  simp only [if_true]
  refine wpAny_bind (wpAny_rule ?_)
  refine wpAny_bind (wpAny_field hz rfl (x := .ref TO) rfl ?_)
  refine wpAny_bind (wpAny_setField_rec hz (by simp) fun h₁ hz₁ hs₁ => ?_)
  replace hz₁ : IsZip h₁ z TI TO .ellipsis := hz₁
  refine wpAny_bind ?_
  simp only [List.zipIdx_cons, List.zipIdx_nil, List.forIn_cons, List.forIn_nil]
  refine wpAny_bind (wpAny_bind (wpAny_onRaise ?_))
  show wpAny _ _ (Builtin.SmallTypes.nextOf (.ref i1) >>= _) _ _ _
  refine wpAny_bind (wpAny_nextOf_list_item (h1.extBut hs₁.extBut D.i1z) (hl1.extBut hs₁.extBut D.l1z) hx fun h₂ h1₂ hs₂ => wpAny_pure ?_)
  have hTO₂ : IsPair h₂ TO a b := hs₂.extBut _ _ D.TOi1 (hs₁.extBut _ _ D.TOz hTO)
  refine wpAny_bind (wpAny_seqItems hTO₂ rfl ?_)
  refine wpAny_bind (wpAny_updateSeq_pair hTO₂ fun h₃ hTO₃ hs₃ => ?_)
  replace hTO₃ : IsPair h₃ TO x b := hTO₃
  refine wpAny_bind (wpAny_letGo (wpAny_pure ?_))
  refine wpAny_bind (wpAny_bind (wpAny_onRaise ?_))
  show wpAny _ _ (Builtin.SmallTypes.nextOf (.ref i2) >>= _) _ _ _
  have up3 : ∀ o, s.heap.get? i2 = some o → h₃.get? i2 = some o := fun o e => hs₃.extBut _ _ D.TOi2.symm (hs₂.extBut _ _ D.i12.symm (hs₁.extBut _ _ D.i2z e))
  have h2₃ : h₃.IsTupleIter i2 l2 k := by obtain ⟨o, e, r⟩ := h2; exact ⟨o, up3 o e, r⟩
  have hl2₃ : h₃.IsTuple l2 ys := by obtain ⟨o, e, r⟩ := hl2; exact ⟨o, hs₃.extBut _ _ D.l2TO (hs₂.extBut _ _ D.l2i1 (hs₁.extBut _ _ D.l2z e)), r⟩
  refine wpAny_bind (nextOf_tuple_item (s := { s with heap := h₃ }) h2₃ hl2₃ hy fun h₄ h2₄ hs₄ => wpAny_pure ?_)
  have hTO₄ : IsPair h₄ TO x b := hs₄.extBut _ _ D.TOi2 hTO₃
  refine wpAny_bind (wpAny_seqItems hTO₄ rfl ?_)
  refine wpAny_bind (wpAny_updateSeq_pair hTO₄ fun h₅ hTO₅ hs₅ => ?_)
  replace hTO₅ : IsPair h₅ TO x y := hTO₅
  refine wpAny_bind (wpAny_letGo (wpAny_pure (wpAny_pure ?_)))
  refine wpAny_bind (wpAny_seqItems hTO₅ rfl ?_)
  refine wpAny_bind (wpAny_newTuple ?_)
  have hsz : h₅.objs.size = s.heap.objs.size := by rw [hs₅.1, hs₄.1, hs₃.1, hs₂.1, hs₁.1]
  have hz₅ : IsZip h₅ z TI TO .ellipsis := hs₅.extBut _ _ D.TOz.symm (hs₄.extBut _ _ D.i2z.symm (hs₃.extBut _ _ D.TOz.symm (hs₂.extBut _ _ D.i1z.symm hz₁)))
  have hk₅ : ∀ c o, c ≠ z → c ≠ TO → c ≠ i1 → c ≠ i2 → s.heap.get? c = some o → h₅.get? c = some o := fun c o c1 c2 c3 c4 e =>
    hs₅.extBut _ _ c2 (hs₄.extBut _ _ c4 (hs₃.extBut _ _ c2 (hs₂.extBut _ _ c3 (hs₁.extBut _ _ c1 e))))
  have h1₅ : h₅.IsListIter i1 l1 (k + 1) := ((h1₂.extBut hs₃.extBut D.TOi1.symm).extBut hs₄.extBut D.i12).extBut hs₅.extBut D.TOi1.symm
  have h2₅ : h₅.IsTupleIter i2 l2 (k + 1) := by obtain ⟨o, e, r⟩ := h2₄; exact ⟨o, hs₅.extBut _ _ D.TOi2.symm e, r⟩
  have hzlt : z < h₅.objs.size := Heap.lt_size hz₅
  show wpAny _ _ (Builtin.SmallTypes.ownedTupleHandOut (.ref z) (.ref h₅.objs.size) >>= _) _ _ _
  refine wpAny_bind ?_
  unfold Builtin.SmallTypes.ownedTupleHandOut
  have hz₆ : IsZip (h₅.push { cls := .type "tuple", data := .seq #[x, y] }) z TI TO .ellipsis := Heap.get?_push_of_some _ hz₅
  refine wpAny_bind (wpAny_setField_rec hz₆ (by simp) fun h₇ hz₇ hs₇ => ?_)
  replace hz₇ : IsZip h₇ z TI TO (rawInt h₅.objs.size) := hz₇
  refine wpAny_setField_rec hz₇ (by simp) fun h₈ hz₈ hs₈ => ?_
  replace hz₈ : IsZip h₈ z TI TO (rawInt h₅.objs.size) := hz₈
  have up : ∀ c o, c ≠ z → h₅.get? c = some o → h₈.get? c = some o := fun c o c1 e => hs₈.extBut _ _ c1 (hs₇.extBut _ _ c1 (Heap.get?_push_of_some _ e))
  have hT₈ : IsPair h₈ h₅.objs.size x y := hs₈.extBut _ _ (Nat.ne_of_gt hzlt) (hs₇.extBut _ _ (Nat.ne_of_gt hzlt) (Heap.get?_push_size _ rfl))
  have hz8 : h₈.objs.size = h₅.objs.size + 1 := by rw [hs₈.1, hs₇.1, Heap.size_push]
  have hTI₈ : IsPair h₈ TI (.ref i1) (.ref i2) := up _ _ D.TIz (hk₅ _ _ D.TIz D.TITO D.TIi1 D.TIi2 hTI)
  rw [hsz] at hz₈ hT₈ hz8
  refine wpAny_pure ⟨_, rfl, ?_⟩
  show Q (.ref h₅.objs.size) _
  rw [hsz]
  exact hQ h₈ ⟨hz₈, hTI₈, ⟨_, _, up _ _ D.TOz hTO₅⟩, h1₅.at fun o e => up _ o D.i1z e, by obtain ⟨o, e, r⟩ := h2₅; exact ⟨o, up _ o D.i2z e, r⟩⟩ hT₈ hz8 fun c o c1 c2 c3 c4 e => up c o c1 (hk₅ c o c1 c2 c3 c4 e)

theorem zip_end {z TI TO i1 i2 l1 l2 : Addr} {k : Nat} {xs ys : Array Value} {Q : Fin → Shared → Prop} (hh : A.handled = none) (D : ZipApart z TI TO i1 i2 l1 l2)
    (hZ : ZipIs s.heap z TI TO i1 i2 l1 l2 k .none) (hl1 : s.heap.IsList l1 xs) (hl2 : s.heap.IsTuple l2 ys) (hend : xs[k]? = none ∨ ys[k]? = none)
    (hE : ∀ h' e, (∀ c o, c ≠ z → c ≠ TO → c ≠ i1 → c ≠ i2 → s.heap.get? c = some o → h'.get? c = some o) → (∃ o, h'.get? e = some o ∧ o.cls = .type "StopIteration") → E (.ref e) { s with heap := h' }) :
    wpAny (model prog w) A (Builtin.«zip.__next__» ⟨[.ref z], []⟩) Q E s := by
  obtain ⟨hz, hTI, ⟨a, b, hTO⟩, h1, h2⟩ := hZ
  show wpAny _ _ (field (.ref z) 2 >>= _) _ _ _
  refine wpAny_bind (wpAny_field hz rfl (x := .bool false) rfl ?_)
  show wpAny _ _ (field (.ref z) 3 >>= _) _ _ _
  refine wpAny_bind (wpAny_field hz rfl (x := .ref TI) rfl ?_)
  refine wpAny_bind (wpAny_seqItems hTI rfl ?_)
  show wpAny _ _ (Builtin.SmallTypes.ownedTupleIsFree (.ref z) >>= _) _ _ _
  refine wpAny_bind ?_
  unfold Builtin.SmallTypes.ownedTupleIsFree
  refine wpAny_bind (wpAny_field hz rfl (x := .none) rfl (wpAny_pure ?_))
  simp only [if_true]
  refine wpAny_bind (wpAny_rule ?_)
  refine wpAny_bind (wpAny_field hz rfl (x := .ref TO) rfl ?_)
  refine wpAny_bind (wpAny_setField_rec hz (by simp) fun h₁ hz₁ hs₁ => ?_)
  replace hz₁ : IsZip h₁ z TI TO .ellipsis := hz₁
  refine wpAny_bind ?_
  simp only [List.zipIdx_cons, List.zipIdx_nil, List.forIn_cons, List.forIn_nil]
  refine wpAny_bind (wpAny_bind (wpAny_onRaise ?_))
  show wpAny _ _ (Builtin.SmallTypes.nextOf (.ref i1) >>= _) _ _ _
  cases hx : xs[k]? with
  | none =>
    refine wpAny_bind (wpAny_nextOf_list_end hh (h1.extBut hs₁.extBut D.i1z) (hl1.extBut hs₁.extBut D.l1z) hx fun h₂ e hs₂ he => ?_)
    obtain ⟨oe, hoe, hce⟩ := he
    have hz₂ : IsZip h₂ z TI TO .ellipsis := hs₂ _ _ D.i1z.symm hz₁
    have hez : e ≠ z := fun x => by subst x; rw [hz₂] at hoe; cases hoe; simp at hce
    refine wpAny_setField_rec hz₂ (by simp) fun h₃ _ hs₃ => hE h₃ e (fun c o c1 _ c3 _ x => hs₃.extBut _ _ c1 (hs₂ _ _ c3 (hs₁.extBut _ _ c1 x))) ⟨oe, hs₃.extBut _ _ hez hoe, hce⟩
  | some x =>
    have hy : ys[k]? = none := by rcases hend with h | h; rw [hx] at h; cases h; exact h
    refine wpAny_bind (wpAny_nextOf_list_item (h1.extBut hs₁.extBut D.i1z) (hl1.extBut hs₁.extBut D.l1z) hx fun h₂ h1₂ hs₂ => wpAny_pure ?_)
    have hTO₂ : IsPair h₂ TO a b := hs₂.extBut _ _ D.TOi1 (hs₁.extBut _ _ D.TOz hTO)
    refine wpAny_bind (wpAny_seqItems hTO₂ rfl ?_)
    refine wpAny_bind (wpAny_updateSeq_pair hTO₂ fun h₃ hTO₃ hs₃ => ?_)
    refine wpAny_bind (wpAny_letGo (wpAny_pure ?_))
    refine wpAny_bind (wpAny_bind (wpAny_onRaise ?_))
    show wpAny _ _ (Builtin.SmallTypes.nextOf (.ref i2) >>= _) _ _ _
    have up3 : ∀ o, s.heap.get? i2 = some o → h₃.get? i2 = some o := fun o e => hs₃.extBut _ _ D.TOi2.symm (hs₂.extBut _ _ D.i12.symm (hs₁.extBut _ _ D.i2z e))
    have h2₃ : h₃.IsTupleIter i2 l2 k := by obtain ⟨o, e, r⟩ := h2; exact ⟨o, up3 o e, r⟩
    have hl2₃ : h₃.IsTuple l2 ys := by obtain ⟨o, e, r⟩ := hl2; exact ⟨o, hs₃.extBut _ _ D.l2TO (hs₂.extBut _ _ D.l2i1 (hs₁.extBut _ _ D.l2z e)), r⟩
    refine wpAny_bind (nextOf_tuple_end (s := { s with heap := h₃ }) hh h2₃ hl2₃ hy fun h₄ e hs₄ he => ?_)
    obtain ⟨oe, hoe, hce⟩ := he
    have hz₄ : IsZip h₄ z TI TO .ellipsis := hs₄ _ _ D.i2z.symm (hs₃.extBut _ _ D.TOz.symm (hs₂.extBut _ _ D.i1z.symm hz₁))
    have hez : e ≠ z := fun x => by subst x; rw [hz₄] at hoe; cases hoe; simp at hce
    refine wpAny_setField_rec hz₄ (by simp) fun h₅ _ hs₅ => hE h₅ e (fun c o c1 c2 c3 c4 x => hs₅.extBut _ _ c1 (hs₄ _ _ c4 (hs₃.extBut _ _ c2 (hs₂.extBut _ _ c3 (hs₁.extBut _ _ c1 x))))) ⟨oe, hs₅.extBut _ _ hez hoe, hce⟩

theorem pyNext_zip_item {z TI TO i1 i2 l1 l2 : Addr} {k : Nat} {xs ys : Array Value} {x y : Value} {Q : Option Value → Shared → Prop} (D : ZipApart z TI TO i1 i2 l1 l2)
    (hZ : ZipIs s.heap z TI TO i1 i2 l1 l2 k .none) (hl1 : s.heap.IsList l1 xs) (hl2 : s.heap.IsTuple l2 ys) (hx : xs[k]? = some x) (hy : ys[k]? = some y)
    (hQ : ∀ h', ZipIs h' z TI TO i1 i2 l1 l2 (k + 1) (rawInt s.heap.objs.size) → IsPair h' s.heap.objs.size x y → h'.objs.size = s.heap.objs.size + 1 →
      (∀ c o, c ≠ z → c ≠ TO → c ≠ i1 → c ≠ i2 → s.heap.get? c = some o → h'.get? c = some o) → Q (some (.ref s.heap.objs.size)) { s with heap := h' }) :
    wpAny (model prog w) A (pyNext (.ref z)) Q E s := by
  have hT : s.TypeIs (.ref z) "zip" := ⟨_, hZ.z, rfl⟩
  unfold pyNext
  exact wpAny_bind (wpAny_attempt (wpAny_callSpecial?_slot (name := Str.ofString "__next__") hT F.slot_zip_next
    (wpAny_call_entry F.slot_zip_next hT F.entry_zip_next (zip_item D hZ hl1 hl2 hx hy fun h' a1 a2 a3 a4 => wpAny_pure (hQ h' a1 a2 a3 a4)) (F.args_zip_next_1 _))))
theorem pyNext_zip_end {z TI TO i1 i2 l1 l2 : Addr} {k : Nat} {xs ys : Array Value} {Q : Option Value → Shared → Prop} (hh : A.handled = none) (D : ZipApart z TI TO i1 i2 l1 l2)
    (hZ : ZipIs s.heap z TI TO i1 i2 l1 l2 k .none) (hl1 : s.heap.IsList l1 xs) (hl2 : s.heap.IsTuple l2 ys) (hend : xs[k]? = none ∨ ys[k]? = none)
    (hQ : ∀ h', (∀ c o, c ≠ z → c ≠ TO → c ≠ i1 → c ≠ i2 → s.heap.get? c = some o → h'.get? c = some o) → Q none { s with heap := h' }) : wpAny (model prog w) A (pyNext (.ref z)) Q E s := by
  have hT : s.TypeIs (.ref z) "zip" := ⟨_, hZ.z, rfl⟩
  unfold pyNext
  refine wpAny_bind (wpAny_attempt (wpAny_callSpecial?_slot (name := Str.ofString "__next__") hT F.slot_zip_next
    (wpAny_call_entry F.slot_zip_next hT F.entry_zip_next (zip_end hh D hZ hl1 hl2 hend fun h' e hk he => ?_) (F.args_zip_next_1 _))))
  obtain ⟨o, ho, hc⟩ := he
  refine wpAny_bind (wpAny_isInstance (T := "StopIteration") (b := true) ⟨o, ho, hc⟩ isSubtype_stop ?_)
  exact wpAny_pure (hQ _ hk)

abbrev zH1 (h : Heap) (l1 : Addr) : Heap := h.push { cls := .type "list_iterator", data := .fields #[.ref l1, .int 0 0] }
abbrev zH2 (h : Heap) (l1 l2 : Addr) : Heap := (zH1 h l1).push { cls := .type "tuple_iterator", data := .fields #[.ref l2, .int 0 0] }
abbrev zH3 (h : Heap) (l1 l2 : Addr) : Heap := (zH2 h l1 l2).push { cls := .type "tuple", data := .seq #[.ref h.objs.size, .ref (zH1 h l1).objs.size] }
abbrev zH4 (h : Heap) (l1 l2 : Addr) : Heap := (zH3 h l1 l2).push { cls := .type "tuple", data := .seq #[.none, .none] }
abbrev zH5 (h : Heap) (l1 l2 : Addr) : Heap := (zH4 h l1 l2).push { cls := .type "zip", data := .fields #[.none, .bool false, .bool false, .ref (zH2 h l1 l2).objs.size, .ref (zH3 h l1 l2).objs.size] }
theorem zip_new (l1 l2 : Addr) (xs ys : Array Value) :
    Meets (Builtin.«zip.__new__» ⟨[.type "zip", .ref l1, .ref l2], []⟩) (fun _ R s => s.heap.IsList l1 xs ∧ s.heap.IsTuple l2 ys ∧
      R (.ok (.ret (.ref (zH4 s.heap l1 l2).objs.size))) { s with heap := zH5 s.heap l1 l2 }) :=
  .of_wp fun prog w A R s h => by
    obtain ⟨hp, g, d, tk, os⟩ := s; obtain ⟨hl1, hl2, h⟩ := h
    have hsub := sub_zip
    have hL1 : Heap.IsList (Shared.heap ⟨hp, g, d, tk, os⟩) l1 xs := hl1
    have hL2 : Heap.IsTuple (Shared.heap ⟨hp.push { cls := .type "list_iterator", data := .fields #[.ref l1, .int 0 0] }, g, d, tk, os⟩) l2 ys := by
      obtain ⟨o, e, r⟩ := hl2; exact ⟨o, Heap.get?_push_of_some _ e, r⟩
    wp_walk using wpAny_pyIter_list hL1, wpAny_pyIter_tuple hL2
    exact ⟨_, rfl, h⟩
theorem call_zip_lt {l1 l2 : Addr} {xs ys : Array Value} {Q : Value → Shared → Prop} (hl1 : s.heap.IsList l1 xs) (hl2 : s.heap.IsTuple l2 ys)
    (h : ∀ h', ZipIs h' (s.heap.objs.size + 4) (s.heap.objs.size + 2) (s.heap.objs.size + 3) s.heap.objs.size (s.heap.objs.size + 1) l1 l2 0 .none → h'.objs.size = s.heap.objs.size + 5 →
      (∀ c o, s.heap.get? c = some o → h'.get? c = some o) → Q (.ref (s.heap.objs.size + 4)) { s with heap := h' }) :
    wpAny (model prog w) A (call (.type "zip") [.ref l1, .ref l2]) Q E s := by
  refine callType_new F.called_zip (by decide) (F.typeCall_zip_2 _ _) (F.newCall_zip_2 _ _) (fun obj => F.args_object_init_3 obj _ _) F.entry_zip_new
    (zip_new l1 l2 xs ys) ⟨hl1, hl2, ?_⟩
  have z1 : (zH1 s.heap l1).objs.size = s.heap.objs.size + 1 := Heap.size_push ..
  have z2 : (zH2 s.heap l1 l2).objs.size = s.heap.objs.size + 2 := by rw [Heap.size_push, z1]
  have z3 : (zH3 s.heap l1 l2).objs.size = s.heap.objs.size + 3 := by rw [Heap.size_push, z2]
  have z4 : (zH4 s.heap l1 l2).objs.size = s.heap.objs.size + 4 := by rw [Heap.size_push, z3]
  have z5 : (zH5 s.heap l1 l2).objs.size = s.heap.objs.size + 5 := by rw [Heap.size_push, z4]
  have g5 : (zH5 s.heap l1 l2).get? (zH4 s.heap l1 l2).objs.size = some _ := Heap.get?_push_size _ rfl
  have g4 : (zH5 s.heap l1 l2).get? (zH3 s.heap l1 l2).objs.size = some _ := Heap.get?_push_of_some _ (Heap.get?_push_size _ rfl)
  have g3 : (zH5 s.heap l1 l2).get? (zH2 s.heap l1 l2).objs.size = some _ := Heap.get?_push_of_some _ (Heap.get?_push_of_some _ (Heap.get?_push_size _ rfl))
  have g2 : (zH5 s.heap l1 l2).get? (zH1 s.heap l1).objs.size = some _ := Heap.get?_push_of_some _ (Heap.get?_push_of_some _ (Heap.get?_push_of_some _ (Heap.get?_push_size _ rfl)))
  have g1 : (zH5 s.heap l1 l2).get? s.heap.objs.size = some _ := Heap.get?_push_of_some _ (Heap.get?_push_of_some _ (Heap.get?_push_of_some _ (Heap.get?_push_of_some _ (Heap.get?_push_size _ rfl))))
  show _ ∧ _
  rw [z2, z3, z4] at g5
  rw [z1, z2] at g3
  rw [z3] at g4
  rw [z1] at g2
  rw [z4]
  exact ⟨⟨_, g5, rfl⟩, h _ ⟨g5, g3, ⟨_, _, g4⟩, ⟨_, g1, rfl, rfl⟩, ⟨_, g2, rfl, rfl⟩⟩ z5 fun c o x =>
    Heap.get?_push_of_some _ (Heap.get?_push_of_some _ (Heap.get?_push_of_some _ (Heap.get?_push_of_some _ (Heap.get?_push_of_some _ x))))⟩
end
end
end Mine

/-! LM6 -/
open PySem
set_option Elab.async false
set_option autoImplicit false
set_option linter.unusedVariables false
set_option linter.unusedSectionVars false
set_option linter.unusedSimpArgs false
namespace Mine
noncomputable section

section
variable {M : Model} {A : Around} {E : Value → Shared → Prop} {s : Shared} {env : Env}

theorem starEach_cons {e : Expr} {r : List Expr} (h : noStar e = true) : starEach (e :: r) env = (false, eval e env) :: starEach r env := by
  cases e <;> first | rfl | exact absurd h Bool.false_ne_true
theorem backTo_cons {pos : Pos} {t : Sem Value} {r : List (Bool × Sem Value)} : backTo pos ((false, t) :: r) = (false, t) :: backTo pos r := rfl
theorem markedEach_id : ∀ {ops : List CmpOp} {es : List Expr} {ts : List (Sem Value)}, es.all noSet = true → markedEach ops es ts = ts
  | [], _, _, _ => by unfold markedEach; rfl
  | [op], [], ts, _ => by unfold markedEach; rfl
  | [op], [e], [], _ => by unfold markedEach; rfl
  | [op], [e], [t], h => by
    unfold markedEach
    have : behindInMarks op e = false := by
      cases e <;> first | rfl | exact absurd h Bool.false_ne_true
    simp [markedBehindIn, this]
  | [op], [e], t :: t' :: ts, h => by
    unfold markedEach
    have := markedEach_id (ops := []) (es := []) (ts := t' :: ts) rfl
    rw [this]
  | [op], e :: e' :: es, [], h => by unfold markedEach; rfl
  | [op], e :: e' :: es, t :: ts, h => by
    unfold markedEach
    rw [markedEach_id (ops := []) (es := e' :: es) (ts := ts) (by simp at h ⊢; exact h.2)]
  | op :: op' :: ops, [], ts, h => by unfold markedEach; rfl
  | op :: op' :: ops, e :: es, [], h => by unfold markedEach; rfl
  | op :: op' :: ops, e :: es, t :: ts, h => by
    unfold markedEach
    rw [markedEach_id (ops := op' :: ops) (es := es) (ts := ts) (by simp at h ⊢; exact h.2)]
end

theorem starEach_any {es : List Expr} {env : Env} (h : es.all noStar = true) : (starEach es env).any (·.1) = false := by
  induction es with
  | nil => rfl
  | cons e es ih =>
    simp only [List.all_cons, Bool.and_eq_true] at h
    rw [starEach_cons h.1, List.any_cons, ih h.2]; rfl
theorem backTo_any {pos : Pos} {ts : List (Bool × Sem Value)} : (backTo pos ts).any (·.1) = ts.any (·.1) := by
  unfold backTo
  rw [List.any_map]
  congr 1
theorem evalArgs_all {M : Model} {A : Around} {E : Value → Shared → Prop} {s : Shared} {fv : Value} {ts : List (Bool × Sem Value)} {Q : Args → Shared → Prop} (hst : ts.any (·.1) = false)
    (h : wpAny M A (spliced ts) (fun vs s' => Q ⟨vs, []⟩ s') E s) : wpAny M A (evalArgs fv true ts []) Q E s := by
  cases ts with
  | nil => exact fun Γ p hΓ => evalArgs_none (Q := fun a s' => Q a s') (h Γ p hΓ) Γ p hΓ
  | cons t ts =>
    obtain ⟨b, t⟩ := t
    simp only [List.any_cons, Bool.or_eq_false_iff] at hst
    obtain ⟨rfl, _⟩ := hst
    exact Calls.evalArgs_plain h
theorem callWith_val {M : Model} {A : Around} {E : Value → Shared → Prop} {s : Shared} {pos : Pos} {v : Value} {first : List Value} {args : List (Bool × Sem Value)} {Q : Value → Shared → Prop} (hv : ∀ a, v ≠ .ref a) (hplain : args.any (·.1) = false)
    (h : wpAny M A (evalArgs v true args []) (fun a s₁ => wpAny M A (call v (first ++ a.pos) a.kw) Q E s₁) E s) :
    wpAny M A (callWith pos v first args []) Q E s := by
  have hk : keeperOf v = pure .machine := by
    cases v <;> first | rfl | exact absurd rfl (hv _)
  unfold callWith
  refine wpAny_bind (wpAny_holding (wpAny_mono h (fun a s₁ h₁ => wpAny_bind (wpAny_standAt ?_)) fun _ _ x => x))
  simp only [hplain, List.any_nil, Bool.or_false]
  rw [hk]
  refine wpAny_bind (wpAny_pure ?_)
  exact wpAny_bind (wpAny_mono h₁ (fun r s₂ hr => wpAny_bind (wpAny_holding (wpAny_point (wpAny_pure hr)))) fun _ _ x => x)
theorem isTrue_default {e : Expr} {env : Env} {whole : Sem Value} (h : ∀ x p, e ≠ .UnaryOp .Not x p) (h1 : ∀ o vs p, e ≠ .BoolOp o vs p) (h2 : ∀ a b c p, e ≠ .IfExp a b c p) (h3 : ∀ l os cs p, e ≠ .Compare l os cs p) :
    isTrue e env whole = (do let v ← whole; standAt e.pos; holding [v] (truthy v)) := by
  cases e <;> first | rfl | exact absurd rfl (h1 _ _ _) | exact absurd rfl (h2 _ _ _ _) | exact absurd rfl (h3 _ _ _ _) | skip
  rename_i o x p
  cases o <;> first | rfl | exact absurd rfl (h _ _)
theorem attributeBase_id {o : Expr} {n : Str} {env : Env} {whole : Sem Value} (h : noCall o = true) : attributeBase o n env whole = whole := by
  cases o <;> first | rfl | exact absurd h Bool.false_ne_true
theorem wpAny_release {M : Model} {A : Around} {E : Value → Shared → Prop} {s : Shared} {vs keep : List Value} {Q : Unit → Shared → Prop} (h : Q () s) : wpAny M A (release vs keep) Q E s := fun Γ p hΓ => by
  rw [Sem.wp_release]; exact h
theorem truth_sound' {C : Cx} {A : Around} {E : Value → Shared → Prop} {s : Shared} {d : D} {v : Value} {Q : Bool → Prop} {P : Bool → Shared → Prop} (hd : Is s.heap d v) (h : truthW d Q) (k : ∀ b, d = .bool b → Q b → P b s) : wpAny (model C.prog C.w) A (truthy v) P E s := by
  cases hd with
  | bool b => exact wpAny_truthy_bool (k b rfl h)
  | _ => exact h.elim
theorem sizeLine_line : sizeLine = line := rfl

theorem noSet_folded {e : Expr} {env : Env} (h : noSet e = true) (x : Value) : foldedSetIterable e env x = pure x := by
  cases e <;> first | rfl | exact absurd h Bool.false_ne_true

/-- what a comprehension gives, in whatever use -/
theorem comp_use {C : Cx} {k : Kx} {A : Around} {G : Fix} (K : KOk C k A G) (hA : Room A) {fix : Fix} {f : Fr} {e' t' i' : Expr} {fs : List Expr} {csc : Scope} {p pos : Pos} {t : Tgt} {ρ : Loc} {σ : Sto} {Q : PostE}
    (hf : FrOk f) (hG : ∀ a o, G a o → fix a o) (hc : compScOk f.env.scope csc t = true) (ht : mTgt true (relab f.env.scope csc) t t' = true) (hs : noSet i' = true)
    {it elt : Ex} {ifs : List Ex}
    (hit : ∀ Q, evW k it ρ σ Q → AWe C A fix f (eval i' f.env) ρ σ Q)
    (hifs : ∀ fix' f' ρ' σ' Q', FrOk f' → f'.env.scope = relab f.env.scope csc → (∀ a o, G a o → fix' a o) → condsW k ifs ρ' σ' Q' → AWt C A fix' f' (forIn fs true fun c r => if r = true then do let ok ← isTrue c f'.env (eval c f'.env); pure (ForInStep.yield ok) else pure (ForInStep.yield r)) ρ' σ' Q')
    (helt : ∀ fix' f' ρ' σ' Q', FrOk f' → f'.env.scope = relab f.env.scope csc → (∀ a o, G a o → fix' a o) → evW k elt ρ' σ' Q' → AWe C A fix' f' (eval e' f'.env) ρ' σ' Q')
    (h : evW k (.comp elt t it ifs) ρ σ Q) {E : Value → Shared → Prop} {s : Shared} (R : Rel C fix f ρ σ s) {use : Option (Value → Sem Unit)} {Q' : Value → Shared → Prop}
    (fin : ∀ σ' Da Ca oC s', Rel C (fix.add Ca oC) f ρ σ' s' → Grow s.heap s'.heap → (∃ m, s'.heap.Ns Ca m) → frozen oC = false → (∀ o, ¬ fix Ca o) → Q (.ref Da) σ' → compPost (model C.prog C.w) A E use Q' (.ref Da) Ca (.ok .next) s') :
    wpAny (model C.prog C.w) A (comprehension (.ListComp e' [⟨t', i', fs, 0⟩] csc p) csc f.env pos (newList []) false (eval i' f.env) use) Q' E s := by
  have hfree : ∀ n kd, (n, kd) ∈ csc.names → kd = .free → ∃ c, f.env.cells.lookup n = some c := by
    intro n kd hm hk
    subst hk
    rcases compSc_mem hc hm with ⟨q, _⟩ | ⟨_, q⟩ | q
    · cases q
    · rcases q with q | q
      · obtain ⟨c, _, e, _⟩ := R.cells n q; exact ⟨c, e⟩
      · exact R.frees n q
    · cases q
  obtain ⟨cl, hclos, hcl1, hcl2⟩ := closure_ok (scope := csc) (env := f.env) hfree
  simp only [evW] at h
  refine wpAny_comprehension_free (use := use) (g := ⟨t', i', fs, 0⟩) (gs := []) rfl (fun x => noSet_folded hs x) hclos (compSc_kind hc) (fun x hx hl => ?_) (wpAny_mono (hit _ h E s R) (fun v s₁ h₁ => ?_) fun _ _ x => x)
  · obtain ⟨n, kd⟩ := x
    rcases compSc_mem hc hx with ⟨_, q, _⟩ | ⟨q, _⟩ | q
    · exact q
    · subst q; cases hl
    · subst q; cases hl
  · obtain ⟨d, σ₁, R₁, g₁, i₁, xs, hx, hlen, J, hJ, turn, last⟩ := h₁
    exact comp_gen (fix := fix) (condsW k ifs) (evW k elt) hf hA (let ⟨o, ho⟩ := K.sysm; ⟨o, hG _ _ ho⟩) hc ht
      (fun fix' f' ρ' σ' Q' hf' hsc hfx hw => hifs fix' f' ρ' σ' Q' hf' hsc (fun a o g => hfx a o (hG a o g)) hw)
      (fun fix' f' ρ' σ' Q' hf' hsc hfx hw => helt fix' f' ρ' σ' Q' hf' hsc (fun a o g => hfx a o (hG a o g)) hw)
      R₁ i₁ hx hlen hJ turn (fun acc σ' Da Ca oC s' hj hD hR hg hn hz hfC => fin _ Da Ca oC s' hR (g₁.trans hg) hn hz hfC (last acc σ' hj Da hD)) hclos hcl1 hcl2

theorem comp_sound {C : Cx} {k : Kx} {A : Around} {G : Fix} (K : KOk C k A G) (hA : Room A) {fix : Fix} {f : Fr} {e' t' i' : Expr} {fs : List Expr} {csc : Scope} {p : Pos} {t : Tgt} {ρ : Loc} {σ : Sto} {Q : PostE}
    (hf : FrOk f) (hG : ∀ a o, G a o → fix a o) (hc : compScOk f.env.scope csc t = true) (ht : mTgt true (relab f.env.scope csc) t t' = true) (hs : noSet i' = true)
    {it elt : Ex} {ifs : List Ex}
    (hit : ∀ Q, evW k it ρ σ Q → AWe C A fix f (eval i' f.env) ρ σ Q)
    (hifs : ∀ fix' f' ρ' σ' Q', FrOk f' → f'.env.scope = relab f.env.scope csc → (∀ a o, G a o → fix' a o) → condsW k ifs ρ' σ' Q' → AWt C A fix' f' (forIn fs true fun c r => if r = true then do let ok ← isTrue c f'.env (eval c f'.env); pure (ForInStep.yield ok) else pure (ForInStep.yield r)) ρ' σ' Q')
    (helt : ∀ fix' f' ρ' σ' Q', FrOk f' → f'.env.scope = relab f.env.scope csc → (∀ a o, G a o → fix' a o) → evW k elt ρ' σ' Q' → AWe C A fix' f' (eval e' f'.env) ρ' σ' Q')
    (h : evW k (.comp elt t it ifs) ρ σ Q) : AWe C A fix f (eval (.ListComp e' [⟨t', i', fs, 0⟩] csc p) f.env) ρ σ Q := by
  intro E s R
  refine comp_use K hA hf hG hc ht hs hit hifs helt h R fun σ' Da Ca oC s' hR hg hn hz hfC hq => ?_
  obtain ⟨m, hn⟩ := hn
  refine ⟨m, hn, fun h' hs' => ?_⟩
  have lo := hR.looseAt
  obtain ⟨R', g'⟩ := (hR.dropFix R.cellsOf).loose (tk := s'.toks) lo.1 lo.2.1 hfC (fun o e => by rw [lo.2.2] at e; cases e; exact hz) hs'.extBut
  exact ⟨_, σ', R', hg.trans g', .ref _, hq⟩

theorem forIn_conds {C : Cx} {A : Around} {fix : Fix} {f : Fr} {ρ : Loc} {σ : Sto} {Q : Bool → Sto → Prop} {e : Expr} {es : List Expr}
    (h : AWt C A fix f (isTrue e f.env (eval e f.env)) ρ σ fun c σ₁ => (c = true → AWt C A fix f (forIn es true fun c r => if r = true then do let ok ← isTrue c f.env (eval c f.env); pure (ForInStep.yield ok) else pure (ForInStep.yield r)) ρ σ₁ Q) ∧ (c = false → Q false σ₁)) :
    AWt C A fix f (forIn (e :: es) true fun c r => if r = true then do let ok ← isTrue c f.env (eval c f.env); pure (ForInStep.yield ok) else pure (ForInStep.yield r)) ρ σ Q := by
  have hfalse : ∀ es : List Expr, (forIn es false fun c r => if r = true then do let ok ← isTrue c f.env (eval c f.env); pure (ForInStep.yield ok) else pure (ForInStep.yield r)) = (pure false : Sem Bool) := by
    intro es
    induction es with
    | nil => rfl
    | cons e es ih => rw [List.forIn_cons]; exact ih
  intro E s R
  rw [List.forIn_cons]
  refine wpAny_bind ?_
  simp only [if_true]
  refine wpAny_bind (wpAny_mono (h E s R) (fun c s₁ h₁ => wpAny_pure ?_) fun _ _ x => x)
  obtain ⟨σ₁, R₁, g₁, q⟩ := h₁
  cases c with
  | true => exact wpAny_mono (q.1 rfl E s₁ R₁) (fun b s₂ h₂ => h₂.grow g₁) fun _ _ x => x
  | false =>
    refine wpAny_of_eq (hfalse es) ?_
    exact ⟨σ₁, R₁, g₁, q.2 rfl⟩

theorem t_default {C : Cx} {A : Around} {fix : Fix} {f : Fr} {ρ : Loc} {σ : Sto} {Q : Bool → Sto → Prop} {e : Expr} (h : AWe C A fix f (eval e f.env) ρ σ fun d σ₁ => truthW d fun c => Q c σ₁)
    (he : isTrue e f.env (eval e f.env) = (do let v ← eval e f.env; standAt e.pos; holding [v] (truthy v))) : AWt C A fix f (isTrue e f.env (eval e f.env)) ρ σ Q := by
  intro E s R
  rw [he]
  refine wpAny_bind (wpAny_mono (h E s R) (fun v s₁ h₁ => ?_) fun _ _ x => x)
  obtain ⟨d, σ₁, R₁, g₁, i₁, q⟩ := h₁
  exact wpAny_bind (wpAny_standAt (wpAny_holding (truth_sound i₁ q fun b hb => ⟨σ₁, R₁, g₁, hb⟩)))

set_option maxHeartbeats 4000000
theorem KOk.sysF {C : Cx} {k : Kx} {A : Around} {G : Fix} (K : KOk C k A G) {fix : Fix} (hG : ∀ a o, G a o → fix a o) : ∃ o, fix sysModules o := K.sysm.imp fun o h => hG _ o h
/-- an expression's value is as it says -/
def Ev (C : Cx) (k : Kx) (A : Around) (G : Fix) (x : Ex) : Prop := ∀ (fix : Fix) (f : Fr) (e : Expr) (ρ : Loc) (σ : Sto) (Q : PostE), FrOk f → (∀ a o, G a o → fix a o) → mEx x f.env.scope e = true → evW k x ρ σ Q → AWe C A fix f (eval e f.env) ρ σ Q
/-- its truth, too -/
def Tv (C : Cx) (k : Kx) (A : Around) (G : Fix) (x : Ex) : Prop := ∀ (fix : Fix) (f : Fr) (e : Expr) (ρ : Loc) (σ : Sto) (Q : Bool → Sto → Prop), FrOk f → (∀ a o, G a o → fix a o) → mEx x f.env.scope e = true → tW k x ρ σ Q → AWt C A fix f (isTrue e f.env (eval e f.env)) ρ σ Q
section sound
variable {C : Cx} {k : Kx} {A : Around} {G : Fix} (K : KOk C k A G) (hA : Room A)
include K hA
theorem opt_sound {x : Ex} (H : Ev C k A G x) (fix : Fix) (f : Fr) (e : Option Expr) (ρ : Loc) (σ : Sto) (Q : PostE) (hf : FrOk f) (hG : ∀ a o, G a o → fix a o) (hm : mOpt x f.env.scope e = true) (h : evW k x ρ σ Q) :
    AWe C A fix f (valueOrNone (evalOpt e f.env)) ρ σ Q := by
  cases e with
  | none =>
    have hx : x = .none := by cases x <;> first | rfl | first | exact absurd hm Bool.false_ne_true | exact absurd (an hm).2 Bool.false_ne_true
    subst hx
    intro E s R
    exact wpAny_pure ⟨_, σ, R, .refl _, .none, h⟩
  | some e => exact H fix f e ρ σ Q hf hG hm h
theorem evs_sound : ∀ (xs : List Ex) (H : ∀ x ∈ xs, Ev C k A G x) (fix : Fix) (f : Fr) (es : List Expr) (pos : Pos) (ρ : Loc) (σ : Sto) (Q : List D → Sto → Prop), FrOk f → (∀ a o, G a o → fix a o) → mExs xs f.env.scope es = true → es.all noStar = true → evsW k xs ρ σ Q →
    AWs C A fix f (spliced (backTo pos (starEach es f.env))) ρ σ fun ds σ' => ds.length = es.length ∧ Q ds σ'
  | [], H, fix, f, es, pos, ρ, σ, Q, hf, hG, hm, hst, h => by
    cases es with
    | nil => intro E s R; exact Calls.spliced_nil ⟨[], σ, R, .refl _, .nil, rfl, h⟩
    | cons => first | exact absurd hm Bool.false_ne_true | exact absurd (an hm).2 Bool.false_ne_true
  | x :: xs, H, fix, f, es, pos, ρ, σ, Q, hf, hG, hm, hst, h => by
    cases es with
    | nil => first | exact absurd hm Bool.false_ne_true | exact absurd (an hm).2 Bool.false_ne_true
    | cons e es =>
      replace hm := an hm
      simp only [List.all_cons, Bool.and_eq_true] at hst
      simp only [ws_cons] at h
      intro E s R
      rw [starEach_cons hst.1, backTo_cons]
      refine Calls.spliced_cons (wpAny_mono ((H x (by simp)) fix f e ρ σ _ hf hG hm.1 h E s R) (fun v s₁ h₁ => ?_) fun _ _ x => x)
      obtain ⟨d, σ₁, R₁, g₁, i₁, h₁⟩ := h₁
      refine wpAny_mono (evs_sound xs (fun y hy => H y (by simp [hy])) fix f es pos ρ σ₁ _ hf hG hm.2 hst.2 h₁ E s₁ R₁) (fun vs s₂ h₂ => ?_) fun _ _ x => x
      obtain ⟨ds, σ₂, R₂, g₂, i₂, hl₂, h₂⟩ := h₂
      exact ⟨d :: ds, σ₂, R₂, g₁.trans g₂, .cons (i₁.grow g₂) i₂, by simp [hl₂], h₂⟩
theorem bool_sound (and : Bool) : ∀ (xs : List Ex) (H : ∀ x ∈ xs, Ev C k A G x) (fix : Fix) (f : Fr) (es : List Expr) (pos : Pos) (ρ : Loc) (σ : Sto) (Q : PostE), FrOk f → (∀ a o, G a o → fix a o) → mExs xs f.env.scope es = true → boolW k and xs ρ σ Q →
    AWe C A fix f (boolOp pos (if and then .And else .Or) (evalEach es f.env)) ρ σ Q
  | [], H, fix, f, es, pos, ρ, σ, Q, hf, hG, hm, h => by exact h.elim
  | [x], H, fix, f, es, pos, ρ, σ, Q, hf, hG, hm, h => by
    cases es with
    | nil => first | exact absurd hm Bool.false_ne_true | exact absurd (an hm).2 Bool.false_ne_true
    | cons e es =>
      cases es with
      | nil =>
        replace hm := (an hm).1
        simp only [wb_one, wb_cons] at h
        exact (H x (by simp)) fix f e ρ σ Q hf hG hm h
      | cons => first | exact absurd hm Bool.false_ne_true | exact absurd (an hm).2 Bool.false_ne_true
  | x :: y :: xs, H, fix, f, es, pos, ρ, σ, Q, hf, hG, hm, h => by
    cases es with
    | nil => first | exact absurd hm Bool.false_ne_true | exact absurd (an hm).2 Bool.false_ne_true
    | cons e es =>
      cases es with
      | nil => first | exact absurd hm Bool.false_ne_true | exact absurd (an hm).2 Bool.false_ne_true
      | cons e' es =>
        replace hm := an hm
        simp only [wb_one, wb_cons] at h
        intro E s R
        rw [arm_evalEach_cons, arm_evalEach_cons]
        unfold boolOp
        refine wpAny_bind (wpAny_mono ((H x (by simp)) fix f e ρ σ _ hf hG hm.1 h E s R) (fun v s₁ h₁ => ?_) fun _ _ x => x)
        obtain ⟨d, σ₁, R₁, g₁, i₁, q⟩ := h₁
        refine wpAny_bind (wpAny_standAt (wpAny_bind (wpAny_holding (truth_sound i₁ q fun b hb => ?_))))
        have next : b = and → wpAny (model C.prog C.w) A (boolOp pos (if and = true then BoolOp.And else BoolOp.Or) (eval e' f.env :: evalEach es f.env)) (PV C fix f ρ s.heap Q) E s₁ := fun hc =>
          wpAny_mono (bool_sound and (y :: xs) (fun y hy => H y (List.mem_cons_of_mem _ hy)) fix f (e' :: es) pos ρ σ₁ Q hf hG (hm.2) (hb.1 hc) E s₁ R₁) (fun v s₃ h₃ => h₃.grow g₁) fun _ _ x => x
        cases b <;> cases and
        · exact next rfl
        · exact wpAny_pure ⟨d, σ₁, R₁, g₁, i₁, hb.2 rfl⟩
        · exact wpAny_pure ⟨d, σ₁, R₁, g₁, i₁, hb.2 rfl⟩
        · exact next rfl
theorem all_sound (and : Bool) : ∀ (xs : List Ex) (H : ∀ x ∈ xs, Tv C k A G x) (fix : Fix) (f : Fr) (es : List Expr) (ρ : Loc) (σ : Sto) (Q : Bool → Sto → Prop), FrOk f → (∀ a o, G a o → fix a o) → mExs xs f.env.scope es = true → allW k and xs ρ σ Q →
    AWt C A fix f (allTrue (if and then .And else .Or) es f.env) ρ σ Q
  | [], H, fix, f, es, ρ, σ, Q, hf, hG, hm, h => by
    cases es with
    | nil =>
      intro E s R
      rw [arm_allTrue_nil]
      refine wpAny_pure ⟨σ, R, .refl _, ?_⟩
      cases and <;> exact h
    | cons => first | exact absurd hm Bool.false_ne_true | exact absurd (an hm).2 Bool.false_ne_true
  | x :: xs, H, fix, f, es, ρ, σ, Q, hf, hG, hm, h => by
    cases es with
    | nil => first | exact absurd hm Bool.false_ne_true | exact absurd (an hm).2 Bool.false_ne_true
    | cons e es =>
      replace hm := an hm
      simp only [wa_cons] at h
      intro E s R
      rw [arm_allTrue_cons]
      refine wpAny_bind (wpAny_mono ((H x (by simp)) fix f e ρ σ _ hf hG hm.1 h E s R) (fun c s₁ h₁ => ?_) fun _ _ x => x)
      obtain ⟨σ₁, R₁, g₁, q⟩ := h₁
      have next : c = and → wpAny (model C.prog C.w) A (allTrue (if and = true then BoolOp.And else BoolOp.Or) es f.env) (PB C fix f ρ s.heap Q) E s₁ := fun hc =>
          wpAny_mono (all_sound and xs (fun y hy => H y (List.mem_cons_of_mem _ hy)) fix f es ρ σ₁ Q hf hG hm.2 (q.1 hc) E s₁ R₁) (fun v s₃ h₃ => h₃.grow g₁) fun _ _ x => x
      cases c <;> cases and
      · exact next rfl
      · exact wpAny_pure ⟨σ₁, R₁, g₁, q.2 rfl⟩
      · exact wpAny_pure ⟨σ₁, R₁, g₁, q.2 rfl⟩
      · exact next rfl
theorem conds_sound : ∀ (xs : List Ex) (H : ∀ x ∈ xs, Tv C k A G x) (fix : Fix) (f : Fr) (es : List Expr) (ρ : Loc) (σ : Sto) (Q : Bool → Sto → Prop), FrOk f → (∀ a o, G a o → fix a o) → mExs xs f.env.scope es = true → condsW k xs ρ σ Q →
    AWt C A fix f (forIn es true fun c r => if r = true then do let ok ← isTrue c f.env (eval c f.env); pure (ForInStep.yield ok) else pure (ForInStep.yield r)) ρ σ Q
  | [], H, fix, f, es, ρ, σ, Q, hf, hG, hm, h => by
    cases es with
    | nil => intro E s R; rw [List.forIn_nil]; exact wpAny_pure ⟨σ, R, .refl _, h⟩
    | cons => first | exact absurd hm Bool.false_ne_true | exact absurd (an hm).2 Bool.false_ne_true
  | x :: xs, H, fix, f, es, ρ, σ, Q, hf, hG, hm, h => by
    cases es with
    | nil => first | exact absurd hm Bool.false_ne_true | exact absurd (an hm).2 Bool.false_ne_true
    | cons e es =>
      replace hm := an hm
      simp only [wc_cons] at h
      refine forIn_conds fun E s R => wpAny_mono ((H x (by simp)) fix f e ρ σ _ hf hG hm.1 h E s R) (fun c s₁ h₁ => ?_) fun _ _ x => x
      obtain ⟨σ₁, R₁, g₁, q⟩ := h₁
      exact ⟨σ₁, R₁, g₁, fun hc => conds_sound xs (fun y hy => H y (by simp [hy])) fix f es ρ σ₁ Q hf hG hm.2 (q.1 hc), q.2⟩
theorem chain_sound : ∀ (bs : List Ex) (H : ∀ x ∈ bs, Ev C k A G x) (ops : List CmpOp) (fix : Fix) (f : Fr) (rs : List Expr) (pos : Pos) (d : D) (v : Value) (ρ : Loc) (σ : Sto) (Q : PostE), FrOk f → (∀ a o, G a o → fix a o) → mExs bs f.env.scope rs = true → chainW k bs ops d ρ σ Q →
    ∀ E s, Rel C fix f ρ σ s → Is s.heap d v → wpAny (model C.prog C.w) A (compareChain pos v ops (evalEach rs f.env)) (PV C fix f ρ s.heap Q) E s
  | bs, H, [], fix, f, rs, pos, d, v, ρ, σ, Q, hf, hG, hm, h => by cases bs <;> exact h.elim
  | [], H, op :: ops, fix, f, rs, pos, d, v, ρ, σ, Q, hf, hG, hm, h => by exact h.elim
  | [b], H, [op], fix, f, rs, pos, d, v, ρ, σ, Q, hf, hG, hm, h => by
    intro E s R hd
    cases rs with
    | nil => first | exact absurd hm Bool.false_ne_true | exact absurd (an hm).2 Bool.false_ne_true
    | cons r rs =>
      cases rs with
      | cons => first | exact absurd hm Bool.false_ne_true | exact absurd (an hm).2 Bool.false_ne_true
      | nil =>
        replace hm := (an hm).1
        simp only [wch_one] at h
        rw [arm_evalEach_cons, arm_evalEach_nil]
        unfold compareChain
        refine wpAny_bind (wpAny_holding (wpAny_mono ((H b (by simp)) fix f r ρ σ _ hf hG hm h E s R) (fun vr s₁ h₁ => ?_) fun _ _ x => x))
        obtain ⟨dr, σ₁, R₁, g₁, i₁, h₁⟩ := h₁
        refine wpAny_bind (wpAny_standAt (wpAny_operating ?_))
        exact wpAny_mono (cmp_sound hA (K.sysF hG) R₁ (hd.grow g₁) i₁ h₁) (fun v s₃ h₃ => h₃.grow g₁) fun _ _ x => x
  | [b], H, op :: op' :: ops, fix, f, rs, pos, d, v, ρ, σ, Q, hf, hG, hm, h => by
    intro E s R hd
    cases rs with
    | nil => first | exact absurd hm Bool.false_ne_true | exact absurd (an hm).2 Bool.false_ne_true
    | cons r rs =>
      cases rs with
      | cons => first | exact absurd hm Bool.false_ne_true | exact absurd (an hm).2 Bool.false_ne_true
      | nil =>
        replace hm := (an hm).1
        simp only [wch_odd] at h
        rw [arm_evalEach_cons, arm_evalEach_nil]
        unfold compareChain
        refine wpAny_bind (wpAny_holding (wpAny_mono ((H b (by simp)) fix f r ρ σ _ hf hG hm h E s R) (fun vr s₁ h₁ => ?_) fun _ _ x => x))
        obtain ⟨dr, σ₁, R₁, g₁, i₁, h₁⟩ := h₁
        refine wpAny_bind (wpAny_standAt (wpAny_bind (wpAny_holding (wpAny_mono (cmp_sound hA (K.sysF hG) R₁ (hd.grow g₁) i₁ h₁) (fun vc s₂ h₂ => ?_) fun _ _ x => x))))
        obtain ⟨dc, σ₂, R₂, g₂, i₂, h₂⟩ := h₂
        refine wpAny_bind (wpAny_release (wpAny_bind (wpAny_holding (truth_sound i₂ h₂ fun b hb => ?_))))
        cases b with
        | true => exact (hb.1 rfl).elim
        | false => exact wpAny_pure ⟨dc, σ₂, R₂, g₁.trans g₂, i₂, hb.2 rfl⟩
  | b :: b' :: bs, H, op :: ops, fix, f, rs, pos, d, v, ρ, σ, Q, hf, hG, hm, h => by
    intro E s R hd
    cases rs with
    | nil => first | exact absurd hm Bool.false_ne_true | exact absurd (an hm).2 Bool.false_ne_true
    | cons r rs =>
      cases rs with
      | nil => first | exact absurd hm Bool.false_ne_true | exact absurd (an hm).2 Bool.false_ne_true
      | cons r' rs =>
        replace hm := an hm
        have hm2 : mExs (b' :: bs) f.env.scope (r' :: rs) = true := hm.2
        have h' : evW k b ρ σ fun r σ₁ => cmpW op d r σ₁ fun c σ₂ => truthW c fun b => (b = true → chainW k (b' :: bs) ops r ρ σ₂ Q) ∧ (b = false → Q c σ₂) := by
          exact h
        rw [arm_evalEach_cons, arm_evalEach_cons]
        have hun : compareChain pos v (op :: ops) (eval r f.env :: eval r' f.env :: evalEach rs f.env) = (do
            let rv ← holding [v] (eval r f.env)
            standAt pos
            let c ← holding [v, rv] (compareOp op v rv)
            release [v, rv] [c]
            if ← holding [c, rv] (truthy c) then compareChain pos rv ops (eval r' f.env :: evalEach rs f.env) else pure c) := by
          cases ops <;> rfl
        rw [hun]
        refine wpAny_bind (wpAny_holding (wpAny_mono ((H b (by simp)) fix f r ρ σ _ hf hG hm.1 h' E s R) (fun vr s₁ h₁ => ?_) fun _ _ x => x))
        obtain ⟨dr, σ₁, R₁, g₁, i₁, h₁⟩ := h₁
        refine wpAny_bind (wpAny_standAt (wpAny_bind (wpAny_holding (wpAny_mono (cmp_sound hA (K.sysF hG) R₁ (hd.grow g₁) i₁ h₁) (fun vc s₂ h₂ => ?_) fun _ _ x => x))))
        obtain ⟨dc, σ₂, R₂, g₂, i₂, h₂⟩ := h₂
        refine wpAny_bind (wpAny_release (wpAny_bind (wpAny_holding (truth_sound i₂ h₂ fun b hb => ?_))))
        cases b with
        | true => exact wpAny_mono (chain_sound (b' :: bs) (fun y hy => H y (List.mem_cons_of_mem _ hy)) ops fix f (r' :: rs) pos dr vr ρ σ₂ Q hf hG hm2 (hb.1 rfl) E s₂ R₂ (i₁.grow g₂)) (fun v s₃ h₃ => h₃.grow (g₁.trans g₂)) fun _ _ x => x
        | false => exact wpAny_pure ⟨dc, σ₂, R₂, g₁.trans g₂, i₂, hb.2 rfl⟩
theorem test_sound : ∀ (bs : List Ex) (H : ∀ x ∈ bs, Ev C k A G x) (ops : List CmpOp) (fix : Fix) (f : Fr) (rs : List Expr) (pos : Pos) (d : D) (v : Value) (ρ : Loc) (σ : Sto) (Q : Bool → Sto → Prop), FrOk f → (∀ a o, G a o → fix a o) → mExs bs f.env.scope rs = true → chainW k bs ops d ρ σ (fun d σ' => truthW d fun b => Q b σ') →
    ∀ E s, Rel C fix f ρ σ s → Is s.heap d v → wpAny (model C.prog C.w) A (testChain pos v ops (evalEach rs f.env)) (PB C fix f ρ s.heap Q) E s
  | bs, H, [], fix, f, rs, pos, d, v, ρ, σ, Q, hf, hG, hm, h => by cases bs <;> exact h.elim
  | [], H, op :: ops, fix, f, rs, pos, d, v, ρ, σ, Q, hf, hG, hm, h => by exact h.elim
  | [b], H, [op], fix, f, rs, pos, d, v, ρ, σ, Q, hf, hG, hm, h => by
    intro E s R hd
    cases rs with
    | nil => first | exact absurd hm Bool.false_ne_true | exact absurd (an hm).2 Bool.false_ne_true
    | cons r rs =>
      cases rs with
      | cons => first | exact absurd hm Bool.false_ne_true | exact absurd (an hm).2 Bool.false_ne_true
      | nil =>
        replace hm := (an hm).1
        simp only [wch_one] at h
        rw [arm_evalEach_cons, arm_evalEach_nil]
        unfold testChain
        refine wpAny_bind (wpAny_holding (wpAny_mono ((H b (by simp)) fix f r ρ σ _ hf hG hm h E s R) (fun vr s₁ h₁ => ?_) fun _ _ x => x))
        obtain ⟨dr, σ₁, R₁, g₁, i₁, h₁⟩ := h₁
        refine wpAny_bind (wpAny_standAt (wpAny_bind (wpAny_operating ?_)))
        refine wpAny_mono (cmp_sound hA (K.sysF hG) R₁ (hd.grow g₁) i₁ h₁) (fun vc s₂ h₂ => ?_) fun _ _ x => x
        obtain ⟨dc, σ₂, R₂, g₂, i₂, h₂⟩ := h₂
        exact wpAny_holding (truth_sound i₂ h₂ fun b hb => ⟨σ₂, R₂, g₁.trans g₂, hb⟩)
  | [b], H, op :: op' :: ops, fix, f, rs, pos, d, v, ρ, σ, Q, hf, hG, hm, h => by
    intro E s R hd
    cases rs with
    | nil => first | exact absurd hm Bool.false_ne_true | exact absurd (an hm).2 Bool.false_ne_true
    | cons r rs =>
      cases rs with
      | cons => first | exact absurd hm Bool.false_ne_true | exact absurd (an hm).2 Bool.false_ne_true
      | nil =>
        replace hm := (an hm).1
        simp only [wch_odd] at h
        rw [arm_evalEach_cons, arm_evalEach_nil]
        unfold testChain
        refine wpAny_bind (wpAny_holding (wpAny_mono ((H b (by simp)) fix f r ρ σ _ hf hG hm h E s R) (fun vr s₁ h₁ => ?_) fun _ _ x => x))
        obtain ⟨dr, σ₁, R₁, g₁, i₁, h₁⟩ := h₁
        refine wpAny_bind (wpAny_standAt (wpAny_bind (wpAny_holding (wpAny_mono (cmp_sound hA (K.sysF hG) R₁ (hd.grow g₁) i₁ h₁) (fun vc s₂ h₂ => ?_) fun _ _ x => x))))
        obtain ⟨dc, σ₂, R₂, g₂, i₂, h₂⟩ := h₂
        refine wpAny_bind (wpAny_release (wpAny_bind (wpAny_holding (truth_sound' i₂ h₂ fun b hd hb => ?_))))
        subst hd
        cases b with
        | true => exact (hb.1 rfl).elim
        | false => exact wpAny_pure ⟨σ₂, R₂, g₁.trans g₂, hb.2 rfl⟩
  | b :: b' :: bs, H, op :: ops, fix, f, rs, pos, d, v, ρ, σ, Q, hf, hG, hm, h => by
    intro E s R hd
    cases rs with
    | nil => first | exact absurd hm Bool.false_ne_true | exact absurd (an hm).2 Bool.false_ne_true
    | cons r rs =>
      cases rs with
      | nil => first | exact absurd hm Bool.false_ne_true | exact absurd (an hm).2 Bool.false_ne_true
      | cons r' rs =>
        replace hm := an hm
        have hm2 : mExs (b' :: bs) f.env.scope (r' :: rs) = true := hm.2
        have h' : evW k b ρ σ fun r σ₁ => cmpW op d r σ₁ fun c σ₂ => truthW c fun b => (b = true → chainW k (b' :: bs) ops r ρ σ₂ (fun d σ' => truthW d fun b => Q b σ')) ∧ (b = false → truthW c fun b => Q b σ₂) := by
          exact h
        rw [arm_evalEach_cons, arm_evalEach_cons]
        have hun : testChain pos v (op :: ops) (eval r f.env :: eval r' f.env :: evalEach rs f.env) = (do
            let rv ← holding [v] (eval r f.env)
            standAt pos
            let c ← holding [v, rv] (compareOp op v rv)
            release [v, rv] [c]
            if ← holding [c, rv] (truthy c) then testChain pos rv ops (eval r' f.env :: evalEach rs f.env) else pure false) := by
          cases ops <;> rfl
        rw [hun]
        refine wpAny_bind (wpAny_holding (wpAny_mono ((H b (by simp)) fix f r ρ σ _ hf hG hm.1 h' E s R) (fun vr s₁ h₁ => ?_) fun _ _ x => x))
        obtain ⟨dr, σ₁, R₁, g₁, i₁, h₁⟩ := h₁
        refine wpAny_bind (wpAny_standAt (wpAny_bind (wpAny_holding (wpAny_mono (cmp_sound hA (K.sysF hG) R₁ (hd.grow g₁) i₁ h₁) (fun vc s₂ h₂ => ?_) fun _ _ x => x))))
        obtain ⟨dc, σ₂, R₂, g₂, i₂, h₂⟩ := h₂
        refine wpAny_bind (wpAny_release (wpAny_bind (wpAny_holding (truth_sound' i₂ h₂ fun b hd hb => ?_))))
        subst hd
        cases b with
        | true => exact wpAny_mono (test_sound (b' :: bs) (fun y hy => H y (List.mem_cons_of_mem _ hy)) ops fix f (r' :: rs) pos dr vr ρ σ₂ Q hf hG hm2 (hb.1 rfl) E s₂ R₂ (i₁.grow g₂)) (fun v s₃ h₃ => h₃.grow (g₁.trans g₂)) fun _ _ x => x
        | false => exact wpAny_pure ⟨σ₂, R₂, g₁.trans g₂, hb.2 rfl⟩
theorem ev_none_ok  : Ev C k A G (.none) := by
    intro fix f e ρ σ Q hf hG hm h
    obtain ⟨_, _, rfl⟩ := mEx_none hm
    intro E s R
    exact wpAny_pure ⟨_, σ, R, .refl _, .none, h⟩
theorem ev_bool_ok {b : Bool} : Ev C k A G (.bool b) := by
    intro fix f e ρ σ Q hf hG hm h
    obtain ⟨_, _, rfl⟩ := mEx_bool hm
    intro E s R
    exact wpAny_pure ⟨_, σ, R, .refl _, .bool b, h⟩
theorem ev_int_ok {i : Int} : Ev C k A G (.int i) := by
    intro fix f e ρ σ Q hf hG hm h
    obtain ⟨_, _, rfl⟩ := mEx_int hm
    intro E s R
    exact wpAny_Constant_int ⟨_, σ, R.tok, .refl _, .int i _, h⟩
theorem ev_str_ok {x : String} : Ev C k A G (.str x) := by
    intro fix f e ρ σ Q hf hG hm h
    obtain ⟨_, _, rfl⟩ := mEx_str hm
    intro E s R
    exact Calls.Constant_str ⟨_, σ, R.tok, .refl _, .str x _, h⟩
theorem ev_loc_ok {x : String} : Ev C k A G (.loc x) := by
    intro fix f e ρ σ Q hf hG hm h
    obtain ⟨_, rfl, hx⟩ := mEx_loc hm
    simp only [w_loc] at h
    obtain ⟨d, hd, hq⟩ := h
    intro E s R
    exact wp_local R hf hx hd fun v hv => ⟨d, σ, R, .refl _, hv, hq⟩
theorem ev_glob_ok {x : String} : Ev C k A G (.glob x) := by
    intro fix f e ρ σ Q hf hG hm h
    obtain ⟨_, rfl, hx⟩ := mEx_glob hm
    simp only [w_glob] at h
    obtain ⟨d, hd, hq⟩ := h
    intro E s R
    obtain ⟨v, hg, hv⟩ := K.glob x d hd s.heap (R.keeps hG)
    exact wp_global hf hx hg ⟨d, σ, R, .refl _, hv, hq⟩
theorem ev_bin_ok {op : Operator} {a : Ex} {b : Ex} (e_a : Ev C k A G a) (e_b : Ev C k A G b) : Ev C k A G (.bin op a b) := by
    intro fix f e ρ σ Q hf hG hm h
    obtain ⟨l, r, p, rfl, ma, mb⟩ := mEx_bin hm
    simp only [w_bin] at h
    intro E s R
    refine wpAny_BinOp (wpAny_mono (e_a fix f l ρ σ _ hf hG ma h E s R) (fun va s₁ h₁ => ?_) fun _ _ x => x)
    obtain ⟨da, σ₁, R₁, g₁, ia, h₁⟩ := h₁
    refine wpAny_mono (e_b fix f r ρ σ₁ _ hf hG mb h₁ E s₁ R₁) (fun vb s₂ h₂ => ?_) fun _ _ x => x
    obtain ⟨db, σ₂, R₂, g₂, ib, h₂⟩ := h₂
    exact wpAny_mono (bin_sound hA R₂ (ia.grow g₂) ib h₂) (fun v s₃ h₃ => h₃.grow (g₁.trans g₂)) fun _ _ x => x
theorem ev_not_ok {a : Ex} (e_a : Ev C k A G a) : Ev C k A G (.not a) := by
    intro fix f e ρ σ Q hf hG hm h
    obtain ⟨x, p, rfl, ma⟩ := mEx_not hm
    simp only [w_not] at h
    intro E s R
    rw [arm_eval_UnaryOp]
    refine wpAny_bind (wpAny_mono (e_a fix f x ρ σ _ hf hG ma h E s R) (fun va s₁ h₁ => ?_) fun _ _ x => x)
    obtain ⟨da, σ₁, R₁, g₁, ia, h₁⟩ := h₁
    refine wpAny_bind (wpAny_standAt (wpAny_holding ?_))
    cases ia with
    | bool b => exact fun _ _ _ => ⟨_, σ₁, R₁, g₁, .bool _, h₁⟩
    | _ => exact h₁.elim
theorem ev_neg_ok {i : Int} : Ev C k A G (.neg i) := by
    intro fix f e ρ σ Q hf hG hm h
    obtain ⟨_, _, _, rfl⟩ := mEx_neg hm
    simp only [w_neg] at h
    intro E s R
    rw [arm_eval_UnaryOp]
    refine wpAny_bind (wpAny_Constant_int (wpAny_bind (wpAny_standAt (wpAny_holding ?_))))
    exact P.neg_int ⟨_, σ, (R.tok (tk := s.toks + 1)).tok, .refl _, .int _ _, h⟩
theorem ev_and_ok {xs : List Ex} (e_xs : ∀ x ∈ xs, Ev C k A G x) : Ev C k A G (.and xs) := by
    intro fix f e ρ σ Q hf hG hm h
    obtain ⟨vs, p, rfl, mx⟩ := mEx_and hm
    simp only [w_and] at h
    exact bool_sound K hA true xs e_xs fix f vs p ρ σ Q hf hG mx h
theorem ev_or_ok {xs : List Ex} (e_xs : ∀ x ∈ xs, Ev C k A G x) : Ev C k A G (.or xs) := by
    intro fix f e ρ σ Q hf hG hm h
    obtain ⟨vs, p, rfl, mx⟩ := mEx_or hm
    simp only [w_or] at h
    exact bool_sound K hA false xs e_xs fix f vs p ρ σ Q hf hG mx h
theorem ev_cmp_ok {a : Ex} {ops : List CmpOp} {bs : List Ex} (e_a : Ev C k A G a) (e_bs : ∀ x ∈ bs, Ev C k A G x) : Ev C k A G (.cmp a ops bs) := by
    intro fix f e ρ σ Q hf hG hm h
    obtain ⟨l, rs, p, rfl, ma, mb, ms⟩ := mEx_cmp hm
    simp only [w_cmp] at h
    intro E s R
    rw [arm_eval_Compare, markedEach_id ms]
    refine wpAny_bind (wpAny_mono (e_a fix f l ρ σ _ hf hG ma h E s R) (fun va s₁ h₁ => ?_) fun _ _ x => x)
    obtain ⟨da, σ₁, R₁, g₁, ia, h₁⟩ := h₁
    exact wpAny_mono (chain_sound K hA bs e_bs ops fix f rs p da va ρ σ₁ Q hf hG mb h₁ E s₁ R₁ ia) (fun v s₃ h₃ => h₃.grow g₁) fun _ _ x => x
theorem ev_call_ok {g : String} {xs : List Ex} (e_xs : ∀ x ∈ xs, Ev C k A G x) : Ev C k A G (.call g xs) := by
    intro fix f e ρ σ Q hf hG hm h
    obtain ⟨q, as, p, rfl, hg, mx, mst⟩ := mEx_call hm
    simp only [w_call] at h
    intro E s R
    have hst : (backTo p (starEach as f.env)).any (·.1) = false := by rw [backTo_any]; exact starEach_any mst
    obtain ⟨ha, h⟩ := h
    obtain ⟨a, ha⟩ := Option.isSome_iff_exists.mp ha
    obtain ⟨hgl, o, fd, hGo, hfd⟩ := K.addr g a ha
    show wpAny _ A (do callWith p (← eval (.Name (Str.ofString g) q) f.env) [] (backTo p (starEach as f.env)) []) _ E s
    refine wpAny_bind (wp_global hf hg (hgl _ (R.keeps hG)) ?_)
    refine Calls.callWith_function (o := o) (fd := fd) (evalArgs_all hst (wpAny_mono (evs_sound K hA xs e_xs fix f as p ρ σ _ hf hG mx mst h E s R) (fun vs s₁ h₁ => ?_) fun _ _ x => x))
    obtain ⟨ds, σ₁, R₁, g₁, i₁, hl₁, h₁⟩ := h₁
    exact ⟨⟨R₁.fixed a o (hG a o hGo), hfd⟩, wpAny_mono (K.callF ha h₁ hG R₁ i₁) (fun v s₃ h₃ => h₃.grow g₁) fun _ _ x => x⟩
theorem ev_bcall_ok {g : String} {xs : List Ex} (e_xs : ∀ x ∈ xs, Ev C k A G x) : Ev C k A G (.bcall g xs) := by
    intro fix f e ρ σ Q hf hG hm h
    obtain ⟨q, as, p, rfl, hg, mx, mst⟩ := mEx_bcall hm
    simp only [w_bcall] at h
    intro E s R
    have hst : (backTo p (starEach as f.env)).any (·.1) = false := by rw [backTo_any]; exact starEach_any mst
    obtain ⟨hb, h⟩ := h
    obtain ⟨v, hv⟩ := Option.isSome_iff_exists.mp hb
    show wpAny _ A (do callWith p (← eval (.Name (Str.ofString g) q) f.env) [] (backTo p (starEach as f.env)) []) _ E s
    refine wpAny_bind (wp_global hf hg (K.blt g v hv _ (R.keeps hG)) ?_)
    refine callWith_val (bltOf_val hv) hst (evalArgs_all hst (wpAny_mono (evs_sound K hA xs e_xs fix f as p ρ σ _ hf hG mx mst h E s R) (fun vs s₁ h₁ => ?_) fun _ _ x => x))
    obtain ⟨ds, σ₁, R₁, g₁, i₁, hl₁, h₁⟩ := h₁
    exact wpAny_mono (bcall_sound hA (K.sysF hG) R₁ hv i₁ h₁) (fun v s₃ h₃ => h₃.grow g₁) fun _ _ x => x
theorem ev_meth_ok {o : Ex} {m : String} {xs : List Ex} (e_o : Ev C k A G o) (e_xs : ∀ x ∈ xs, Ev C k A G x) : Ev C k A G (.meth o m xs) := by
    intro fix f e ρ σ Q hf hG hm h
    obtain ⟨v, ap, as, p, rfl, hl, hn, mo, mx, mst, mc⟩ := mEx_meth hm
    simp only [w_meth] at h
    intro E s R
    have hst : (backTo p (starEach as f.env)).any (·.1) = false := by rw [backTo_any]; exact starEach_any mst
    have hform : methodCallForm (as.length + ([] : List Keyword).length) (backTo p (starEach as f.env)) (backToKw p (keywordEach [] f.env)) = true := by
      unfold methodCallForm
      have h1 : (backTo p (starEach as f.env)).all (fun x => !x.1) = true := by
        rw [List.all_eq_true]
        intro x hx
        have := List.any_eq_false.mp hst x hx
        simpa using this
      rw [h1]
      exact decide_eq_true hn
    rw [arm_eval_Call, attributeBase_id mc]
    refine wpAny_bind (wpAny_mono (e_o fix f v ρ σ _ hf hG mo h E s R) (fun va s₁ h₁ => ?_) fun _ _ x => x)
    obtain ⟨da, σ₁, R₁, g₁, ia, T, hT, hid, h₁⟩ := h₁
    obtain ⟨id, hid⟩ := Option.isSome_iff_exists.mp hid
    refine wpAny_bind (wpAny_standAt ?_)
    unfold methodCall
    rw [hform]
    refine wpAny_bind (wpAny_holding ?_)
    show wpAny _ A (getMethod va (Str.ofString m) _) _ E s₁
    refine getMeth_sound hA R₁ ia hT hid ?_
    have hpos : methodCallPos true v f.env ap p = pure p := by
      unfold methodCallPos
      rw [if_pos]
      simpa using hl
    rw [hpos]
    refine wpAny_bind (wpAny_pure ?_)
    refine callWith_val (fun a => by simp) hst (evalArgs_all hst (wpAny_mono (evs_sound K hA xs e_xs fix f as p ρ σ₁ _ hf hG mx mst h₁ E s₁ R₁) (fun vs s₂ h₂ => ?_) fun _ _ x => x))
    obtain ⟨ds, σ₂, R₂, g₂, i₂, hl₂, hT₂, h₂⟩ := h₂
    exact wpAny_mono (meth_sound hA (K.sysF hG) R₂ (ia.grow g₂) hT₂ hid i₂ h₂) (fun v s₃ h₃ => h₃.grow (g₁.trans g₂)) fun _ _ x => x
theorem ev_item_ok {a : Ex} {i : Ex} (e_a : Ev C k A G a) (e_i : Ev C k A G i) : Ev C k A G (.item a i) := by
    intro fix f e ρ σ Q hf hG hm h
    obtain ⟨v, sl, p, rfl, ma, mi, msl⟩ := mEx_item hm
    simp only [w_item] at h
    intro E s R
    refine PyProof.Rows.Subscript_ (wpAny_mono (e_a fix f v ρ σ _ hf hG ma h E s R) (fun va s₁ h₁ => ?_) fun _ _ x => x)
    obtain ⟨da, σ₁, R₁, g₁, ia, h₁⟩ := h₁
    refine wpAny_mono (e_i fix f sl ρ σ₁ _ hf hG mi h₁ E s₁ R₁) (fun vb s₂ h₂ => ?_) fun _ _ x => x
    obtain ⟨db, σ₂, R₂, g₂, ib, h₂⟩ := h₂
    refine wpAny_mono (item_sound hA R₂ (ia.grow g₂) ib h₂ ?_) (fun v s₃ h₃ => h₃.grow (g₁.trans g₂)) fun _ _ x => x
    cases sl <;> first | rfl | exact absurd msl Bool.false_ne_true
theorem ev_slice_ok {a : Ex} {lo : Ex} {hi : Ex} (e_a : Ev C k A G a) (e_lo : Ev C k A G lo) (e_hi : Ev C k A G hi) : Ev C k A G (.slice a lo hi) := by
    intro fix f e ρ σ Q hf hG hm h
    obtain ⟨v, l, u, q, p, rfl, ma, ml, mu⟩ := mEx_slice hm
    simp only [w_slice] at h
    intro E s R
    refine PyProof.Rows.Subscript_ (wpAny_mono (e_a fix f v ρ σ _ hf hG ma h E s R) (fun va s₁ h₁ => ?_) fun _ _ x => x)
    obtain ⟨da, σ₁, R₁, g₁, ia, h₁⟩ := h₁
    rw [arm_eval_Slice]
    refine wpAny_bind (wpAny_mono (opt_sound K hA e_lo fix f l ρ σ₁ _ hf hG ml h₁ E s₁ R₁) (fun vl s₂ h₂ => ?_) fun _ _ x => x)
    obtain ⟨dl, σ₂, R₂, g₂, il, h₂⟩ := h₂
    refine wpAny_bind (wpAny_holding (wpAny_mono (opt_sound K hA e_hi fix f u ρ σ₂ _ hf hG mu h₂ E s₂ R₂) (fun vu s₃ h₃ => ?_) fun _ _ x => x))
    obtain ⟨du, σ₃, R₃, g₃, iu, h₃⟩ := h₃
    refine wpAny_bind (wpAny_holding (wpAny_pure ?_))
    refine wpAny_mono (slice_sound hA R₃ (ia.grow (g₂.trans g₃)) (il.grow g₃) iu h₃ (fun _ => rfl)) (fun i s₄ h₄ => wpAny_mono h₄ (fun v s₅ h₅ => h₅.grow (g₁.trans (g₂.trans g₃))) fun _ _ x => x) fun _ _ x => x
theorem ev_tup_ok {xs : List Ex} (e_xs : ∀ x ∈ xs, Ev C k A G x) : Ev C k A G (.tup xs) := by
    intro fix f e ρ σ Q hf hG hm h
    obtain ⟨es, k', p, rfl, mx, mst, hl⟩ := mEx_tup hm
    simp only [w_tup] at h
    intro E s R
    refine wpAny_Tuple_spliced (wpAny_mono (evs_sound K hA xs e_xs fix f es p ρ σ _ hf hG mx mst h E s R) (fun vs s₁ h₁ => ?_) fun _ _ x => x)
    obtain ⟨ds, σ₁, R₁, g₁, i₁, hl₁, h₁⟩ := h₁
    have hvl := i₁.length
    have keep : ∀ b o, s₁.heap.get? b = some o → (s₁.heap.push { cls := .type "tuple", data := .seq vs.toArray }).get? b = some o := fun b o e => Heap.get?_push_of_some _ e
    refine ⟨by rw [sizeLine_line]; unfold line; omega, .tup ds, σ₁, R₁.ext (tk := s₁.toks) keep, g₁.trans (.of_keeps keep), .tup (Heap.get?_push_size _ rfl) (i₁.grow (.of_keeps keep)), h₁⟩
theorem ev_list_ok {xs : List Ex} (e_xs : ∀ x ∈ xs, Ev C k A G x) : Ev C k A G (.list xs) := by
    intro fix f e ρ σ Q hf hG hm h
    obtain ⟨es, p, rfl, mx, mst, hl⟩ := mEx_list hm
    simp only [w_list] at h
    intro E s R
    refine wpAny_List_spliced (wpAny_mono (evs_sound K hA xs e_xs fix f es p ρ σ _ hf hG mx mst h E s R) (fun vs s₁ h₁ => ?_) fun _ _ x => x)
    obtain ⟨ds, σ₁, R₁, g₁, i₁, hl₁, h₁⟩ := h₁
    have hvl := i₁.length
    have keep : ∀ b o, s₁.heap.get? b = some o → (s₁.heap.push { cls := .type "list", data := .seq vs.toArray }).get? b = some o := fun b o e => Heap.get?_push_of_some _ e
    refine ⟨by rw [sizeLine_line]; unfold line; omega, .ref _, _, R₁.new (c := .list ds) (tk := s₁.toks) get_size keep fun g => ⟨vs, 0, Heap.get?_push_size _ rfl, i₁.grow g⟩, g₁.trans (.of_keeps keep), .ref _, h₁ _ (R₁.fresh get_size).1⟩
theorem ev_comp_ok {elt : Ex} {t : Tgt} {it : Ex} {ifs : List Ex} (e_elt : Ev C k A G elt) (e_it : Ev C k A G it) (t_ifs : ∀ x ∈ ifs, Tv C k A G x) : Ev C k A G (.comp elt t it ifs) := by
    intro fix f e ρ σ Q hf hG hm h
    obtain ⟨e', t', i', fs, csc, p, rfl, hc, mi, mt, mf, me, hs⟩ := mEx_comp hm
    exact comp_sound K hA hf hG hc mt hs (fun Q hq => e_it fix f i' ρ σ Q hf hG mi hq)
      (fun fix' f' ρ' σ' Q' hf' hsc hG' hq => conds_sound K hA ifs t_ifs fix' f' fs ρ' σ' Q' hf' hG' (hsc ▸ mf) hq)
      (fun fix' f' ρ' σ' Q' hf' hsc hG' hq => e_elt fix' f' e' ρ' σ' Q' hf' hG' (hsc ▸ me) hq) h
theorem ev_zip_ok {a : Ex} {b : Ex} : Ev C k A G (.zip a b) := by
    intro fix f e ρ σ Q hf hG hm h
    exact h.elim
theorem t_not_ok {a : Ex} (t_a : Tv C k A G a) : Tv C k A G (.not a) := by
    intro fix f e ρ σ Q hf hG hm h
    obtain ⟨x, p, rfl, ma⟩ := mEx_not hm
    simp only [wt_not] at h
    intro E s R
    rw [arm_isTrue_UnaryOp]
    refine wpAny_bind (wpAny_mono (t_a fix f x ρ σ _ hf hG ma h E s R) (fun c s₁ h₁ => wpAny_pure h₁) fun _ _ x => x)
theorem t_and_ok {xs : List Ex} (t_xs : ∀ x ∈ xs, Tv C k A G x) : Tv C k A G (.and xs) := by
    intro fix f e ρ σ Q hf hG hm h
    obtain ⟨vs, p, rfl, mx⟩ := mEx_and hm
    simp only [wt_and] at h
    exact all_sound K hA true xs t_xs fix f vs ρ σ Q hf hG mx h
theorem t_or_ok {xs : List Ex} (t_xs : ∀ x ∈ xs, Tv C k A G x) : Tv C k A G (.or xs) := by
    intro fix f e ρ σ Q hf hG hm h
    obtain ⟨vs, p, rfl, mx⟩ := mEx_or hm
    simp only [wt_or] at h
    exact all_sound K hA false xs t_xs fix f vs ρ σ Q hf hG mx h
theorem t_cmp_ok {a : Ex} {ops : List CmpOp} {bs : List Ex} (e_a : Ev C k A G a) (e_bs : ∀ x ∈ bs, Ev C k A G x) : Tv C k A G (.cmp a ops bs) := by
    intro fix f e ρ σ Q hf hG hm h
    obtain ⟨l, rs, p, rfl, ma, mb, ms⟩ := mEx_cmp hm
    simp only [wt_cmp] at h
    intro E s R
    rw [arm_isTrue_Compare, markedEach_id ms]
    refine wpAny_bind (wpAny_mono (e_a fix f l ρ σ _ hf hG ma h E s R) (fun va s₁ h₁ => ?_) fun _ _ x => x)
    obtain ⟨da, σ₁, R₁, g₁, ia, h₁⟩ := h₁
    exact wpAny_mono (test_sound K hA bs e_bs ops fix f rs p da va ρ σ₁ Q hf hG mb h₁ E s₁ R₁ ia) (fun v s₃ h₃ => h₃.grow g₁) fun _ _ x => x
theorem t_none_ok  : Tv C k A G (.none) := by
    intro fix f e ρ σ Q hf hG hm h
    exact h.elim
theorem t_bool_ok {b : Bool} (E0 : Ev C k A G (.bool b)) : Tv C k A G (.bool b) := by
    intro fix f e ρ σ Q hf hG hm h
    obtain ⟨_, _, rfl⟩ := mEx_bool hm
    exact t_default (E0 fix f _ ρ σ _ hf hG hm (h)) (isTrue_default (by simp) (by simp) (by simp) (by simp))
theorem t_int_ok {b : Int} : Tv C k A G (.int b) := by
    intro fix f e ρ σ Q hf hG hm h
    exact h.elim
theorem t_str_ok {b : String} : Tv C k A G (.str b) := by
    intro fix f e ρ σ Q hf hG hm h
    exact h.elim
theorem t_loc_ok {x : String} (E0 : Ev C k A G (.loc x)) : Tv C k A G (.loc x) := by
    intro fix f e ρ σ Q hf hG hm h
    obtain ⟨_, rfl, hx⟩ := mEx_loc hm
    exact t_default (E0 fix f _ ρ σ _ hf hG hm (h)) (isTrue_default (by simp) (by simp) (by simp) (by simp))
theorem t_glob_ok {x : String} (E0 : Ev C k A G (.glob x)) : Tv C k A G (.glob x) := by
    intro fix f e ρ σ Q hf hG hm h
    obtain ⟨_, rfl, hx⟩ := mEx_glob hm
    exact t_default (E0 fix f _ ρ σ _ hf hG hm (h)) (isTrue_default (by simp) (by simp) (by simp) (by simp))
theorem t_bin_ok {op : Operator} {a : Ex} {b : Ex} (E0 : Ev C k A G (.bin op a b)) : Tv C k A G (.bin op a b) := by
    intro fix f e ρ σ Q hf hG hm h
    obtain ⟨l, r, p, rfl, ma, mb⟩ := mEx_bin hm
    exact t_default (E0 fix f _ ρ σ _ hf hG hm (h)) (isTrue_default (by simp) (by simp) (by simp) (by simp))
theorem t_neg_ok {i : Int} : Tv C k A G (.neg i) := by
    intro fix f e ρ σ Q hf hG hm h
    exact h.elim
theorem t_call_ok {g : String} {xs : List Ex} (E0 : Ev C k A G (.call g xs)) : Tv C k A G (.call g xs) := by
    intro fix f e ρ σ Q hf hG hm h
    obtain ⟨q, as, p, rfl, hg, mx, mst⟩ := mEx_call hm
    exact t_default (E0 fix f _ ρ σ _ hf hG hm (h)) (isTrue_default (by simp) (by simp) (by simp) (by simp))
theorem t_bcall_ok {g : String} {xs : List Ex} (E0 : Ev C k A G (.bcall g xs)) : Tv C k A G (.bcall g xs) := by
    intro fix f e ρ σ Q hf hG hm h
    obtain ⟨q, as, p, rfl, hg, mx, mst⟩ := mEx_bcall hm
    exact t_default (E0 fix f _ ρ σ _ hf hG hm (h)) (isTrue_default (by simp) (by simp) (by simp) (by simp))
theorem t_meth_ok {o : Ex} {m : String} {xs : List Ex} (E0 : Ev C k A G (.meth o m xs)) : Tv C k A G (.meth o m xs) := by
    intro fix f e ρ σ Q hf hG hm h
    obtain ⟨v, ap, as, p, rfl, _⟩ := mEx_meth hm
    exact t_default (E0 fix f _ ρ σ _ hf hG hm (h)) (isTrue_default (by simp) (by simp) (by simp) (by simp))
theorem t_item_ok {a : Ex} {i : Ex} (E0 : Ev C k A G (.item a i)) : Tv C k A G (.item a i) := by
    intro fix f e ρ σ Q hf hG hm h
    obtain ⟨v, sl, p, rfl, _⟩ := mEx_item hm
    exact t_default (E0 fix f _ ρ σ _ hf hG hm (h)) (isTrue_default (by simp) (by simp) (by simp) (by simp))
theorem t_slice_ok {a : Ex} {lo : Ex} {hi : Ex} (E0 : Ev C k A G (.slice a lo hi)) : Tv C k A G (.slice a lo hi) := by
    intro fix f e ρ σ Q hf hG hm h
    obtain ⟨v, l, u, q, p, rfl, _⟩ := mEx_slice hm
    exact t_default (E0 fix f _ ρ σ _ hf hG hm (h)) (isTrue_default (by simp) (by simp) (by simp) (by simp))
theorem t_tup_ok {xs : List Ex} (E0 : Ev C k A G (.tup xs)) : Tv C k A G (.tup xs) := by
    intro fix f e ρ σ Q hf hG hm h
    obtain ⟨es, k', p, rfl, _⟩ := mEx_tup hm
    exact t_default (E0 fix f _ ρ σ _ hf hG hm (h)) (isTrue_default (by simp) (by simp) (by simp) (by simp))
theorem t_list_ok {xs : List Ex} (E0 : Ev C k A G (.list xs)) : Tv C k A G (.list xs) := by
    intro fix f e ρ σ Q hf hG hm h
    obtain ⟨es, p, rfl, _⟩ := mEx_list hm
    exact t_default (E0 fix f _ ρ σ _ hf hG hm (h)) (isTrue_default (by simp) (by simp) (by simp) (by simp))
theorem t_comp_ok {elt : Ex} {t : Tgt} {it : Ex} {ifs : List Ex} (E0 : Ev C k A G (.comp elt t it ifs)) : Tv C k A G (.comp elt t it ifs) := by
    intro fix f e ρ σ Q hf hG hm h
    obtain ⟨e', t', i', fs, csc, p, rfl, _⟩ := mEx_comp hm
    exact t_default (E0 fix f _ ρ σ _ hf hG hm (h)) (isTrue_default (by simp) (by simp) (by simp) (by simp))
theorem t_zip_ok {a : Ex} {b : Ex} : Tv C k A G (.zip a b) := by
    intro fix f e ρ σ Q hf hG hm h
    exact h.elim
mutual
theorem both_sound : ∀ x, Ev C k A G x ∧ Tv C k A G x
  | .none => ⟨ev_none_ok K hA, t_none_ok K hA⟩
  | .bool b => have E0 := ev_bool_ok K hA; ⟨E0, t_bool_ok K hA E0⟩
  | .int i => ⟨ev_int_ok K hA, t_int_ok K hA⟩
  | .str x => ⟨ev_str_ok K hA, t_str_ok K hA⟩
  | .loc x => have E0 := ev_loc_ok K hA; ⟨E0, t_loc_ok K hA E0⟩
  | .glob x => have E0 := ev_glob_ok K hA; ⟨E0, t_glob_ok K hA E0⟩
  | .bin op a b => have E0 := ev_bin_ok K hA (both_sound a).1 (both_sound b).1; ⟨E0, t_bin_ok K hA E0⟩
  | .not a => ⟨ev_not_ok K hA (both_sound a).1, t_not_ok K hA (both_sound a).2⟩
  | .neg i => ⟨ev_neg_ok K hA, t_neg_ok K hA⟩
  | .and xs => ⟨ev_and_ok K hA (boths_sound xs).1, t_and_ok K hA (boths_sound xs).2⟩
  | .or xs => ⟨ev_or_ok K hA (boths_sound xs).1, t_or_ok K hA (boths_sound xs).2⟩
  | .cmp a ops bs => ⟨ev_cmp_ok K hA (both_sound a).1 (boths_sound bs).1, t_cmp_ok K hA (both_sound a).1 (boths_sound bs).1⟩
  | .call g xs => have E0 := ev_call_ok K hA (boths_sound xs).1; ⟨E0, t_call_ok K hA E0⟩
  | .bcall g xs => have E0 := ev_bcall_ok K hA (boths_sound xs).1; ⟨E0, t_bcall_ok K hA E0⟩
  | .meth o m xs => have E0 := ev_meth_ok K hA (both_sound o).1 (boths_sound xs).1; ⟨E0, t_meth_ok K hA E0⟩
  | .item a i => have E0 := ev_item_ok K hA (both_sound a).1 (both_sound i).1; ⟨E0, t_item_ok K hA E0⟩
  | .slice a lo hi => have E0 := ev_slice_ok K hA (both_sound a).1 (both_sound lo).1 (both_sound hi).1; ⟨E0, t_slice_ok K hA E0⟩
  | .tup xs => have E0 := ev_tup_ok K hA (boths_sound xs).1; ⟨E0, t_tup_ok K hA E0⟩
  | .list xs => have E0 := ev_list_ok K hA (boths_sound xs).1; ⟨E0, t_list_ok K hA E0⟩
  | .comp elt t it ifs => have E0 := ev_comp_ok K hA (both_sound elt).1 (both_sound it).1 (boths_sound ifs).2; ⟨E0, t_comp_ok K hA E0⟩
  | .zip a b => ⟨ev_zip_ok K hA, t_zip_ok K hA⟩
theorem boths_sound : ∀ xs : List Ex, (∀ x ∈ xs, Ev C k A G x) ∧ ∀ x ∈ xs, Tv C k A G x
  | [] => ⟨by simp, by simp⟩
  | x :: xs => ⟨List.forall_mem_cons.mpr ⟨(both_sound x).1, (boths_sound xs).1⟩, List.forall_mem_cons.mpr ⟨(both_sound x).2, (boths_sound xs).2⟩⟩
end
theorem ev_sound (x : Ex) (fix : Fix) (f : Fr) (e : Expr) (ρ : Loc) (σ : Sto) (Q : PostE) (hf : FrOk f) (hG : ∀ a o, G a o → fix a o) (hm : mEx x f.env.scope e = true) (h : evW k x ρ σ Q) : AWe C A fix f (eval e f.env) ρ σ Q := (both_sound K hA x).1 fix f e ρ σ Q hf hG hm h
theorem t_sound (x : Ex) (fix : Fix) (f : Fr) (e : Expr) (ρ : Loc) (σ : Sto) (Q : Bool → Sto → Prop) (hf : FrOk f) (hG : ∀ a o, G a o → fix a o) (hm : mEx x f.env.scope e = true) (h : tW k x ρ σ Q) : AWt C A fix f (isTrue e f.env (eval e f.env)) ρ σ Q := (both_sound K hA x).2 fix f e ρ σ Q hf hG hm h
end sound
end
end Mine

/-! LM8 -/
open PySem
set_option Elab.async false
set_option autoImplicit false
set_option linter.unusedVariables false
namespace Mine
noncomputable section

/-! statements -/
mutual
def mSx : Sx → Scope → Stmt → Bool
  | .assign t e, sc, .Assign [tg] v _ => mTgt false sc t tg && mEx e sc v && (match tg, v with | .Tuple .., .Tuple .. => false | _, _ => true)
  | .ite t a b, sc, .If t' a' b' _ => mEx t sc t' && mSxs a sc a' && mSxs b sc b'
  | .loop t it body, sc, .For t' i' b' [] _ => mTgt false sc t t' && mEx it sc i' && mSxs body sc b' && noSet i'
  | .while t body, sc, .While t' b' [] _ => mEx t sc t' && mSxs body sc b'
  | .ret e, sc, .Return (some v) _ => mEx e sc v
  | .cont, _, .Continue _ => true
  | .expr e, sc, .Expr v _ => mEx e sc v && (match v with | .ListComp .. => false | _ => true)
  | .raise c m, sc, .Raise (some (.Call (.Name y _) [.Constant (.str z) _ _] [] _)) none _ => y == Str.ofString c && isGlob sc c && z == Str.ofString m
  | _, _, _ => false
def mSxs : List Sx → Scope → List Stmt → Bool
  | [], _, [] => true
  | x :: xs, sc, e :: es => mSx x sc e && mSxs xs sc es
  | _, _, _ => false
end

inductive FlowIs (h : Heap) : Fl → Flow → Prop
  | next : FlowIs h .next .next
  | cont : FlowIs h .cont .cont
  | brk : FlowIs h .brk .brk
  | ret {d : D} {v : Value} : Is h d v → FlowIs h (.ret d) (.ret v)

def PS (C : Cx) (fix : Fix) (f : Fr) (h₀ : Heap) (Q : PostS) (fl : Flow) (s' : Shared) : Prop := ∃ fl' ρ' σ', Rel C fix f ρ' σ' s' ∧ Grow h₀ s'.heap ∧ FlowIs s'.heap fl' fl ∧ Q fl' ρ' σ'
theorem PS.grow {C : Cx} {fix : Fix} {f : Fr} {h₀ h₁ : Heap} {Q : PostS} {v : Flow} {s' : Shared} (x : PS C fix f h₁ Q v s') (g : Grow h₀ h₁) : PS C fix f h₀ Q v s' :=
  let ⟨d, ρ, σ, a, b, c, e⟩ := x; ⟨d, ρ, σ, a, g.trans b, c, e⟩
def AWx (C : Cx) (A : Around) (fix : Fix) (f : Fr) (t : Sem Flow) (ρ : Loc) (σ : Sto) (Q : PostS) : Prop := ∀ E s, Rel C fix f ρ σ s → wpAny (model C.prog C.w) A t (PS C fix f s.heap Q) E s

section
variable {C : Cx} {fix : Fix} {f : Fr} {ρ : Loc} {σ : Sto} {s : Shared} {A : Around} {E : Value → Shared → Prop}
/-- a for over what stays: the turns -/
theorem forLoop_sound {I : Addr} {d : D} {xs : List D} {t : Tgt} {target : Expr} {body : List Stmt} {k : Kx} {J : Nat → Loc → Sto → Prop} {Q : PostS} {σ₀ : Sto} {h₀ : Heap}
    (bodyW : Loc → Sto → PostS → Prop)
    (hso : StOk f) (hf : FrOk f) (hh : A.handled = none) (hm : mTgt false f.env.scope t target = true) (hx : itemsD σ₀ d = some xs)
    (hbody : ∀ fix' ρ' σ' Q', (∀ a o, fix a o → fix' a o) → bodyW ρ' σ' Q' → AWx C A fix' f (execs body f.env) ρ' σ' Q')
    (turn : ∀ i ρ' σ', J i ρ' σ' → i ≤ xs.length → stillD σ₀ σ' d ∧ ∀ x, xs[i]? = some x → assignW t x ρ' fun ρ₂ => bodyW ρ₂ σ' fun fl ρ₃ σ₃ =>
          match fl with
          | .next | .cont => J (i + 1) ρ₃ σ₃
          | .brk => Q .next ρ₃ σ₃
          | .ret d => Q (.ret d) ρ₃ σ₃)
    (fin : ∀ ρ' σ', J xs.length ρ' σ' → Q .next ρ' σ')
    {ρ₁ : Loc} {σ₁ : Sto} {s₁ : Shared} {i₁ : Nat} {o₁ : Obj} (R : Rel C fix f ρ₁ σ₁ s₁) (hJ : J i₁ ρ₁ σ₁) (hi : i₁ ≤ xs.length) (g : Grow h₀ s₁.heap) (hI : s₁.heap.get? I = some o₁) (hit : ItObj s₁.heap σ₀ d i₁ o₁)
    (l1 : σ₁ I = none) (l2 : I ∉ f.own) (l3 : ∀ o, ¬ fix I o) {Re : Value → Shared → Prop} :
    codeAny (model C.prog C.w) A (.forLoop target (.ref I) body [] f.env) (fun r s' => match r with | .ok fl => PS C fix f h₀ Q fl s' | .error e => Re e s') s₁ := by
  refine codeAny_loop' rfl (fun n s' => ∃ i ρ' σ' o, n = xs.length - i ∧ i ≤ xs.length ∧ J i ρ' σ' ∧ Rel C fix f ρ' σ' s' ∧ Grow h₀ s'.heap ∧ s'.heap.get? I = some o ∧ ItObj s'.heap σ₀ d i o ∧ σ' I = none) ?_ _
    ⟨i₁, ρ₁, σ₁, o₁, rfl, hi, hJ, R, g, hI, hit, l1⟩
  rintro n s' ⟨i, ρ', σ', o, rfl, hi', hJ', R', g', hI', hit', l1'⟩
  show wpAny _ _ ((forTurn target (.ref I) body [] f.env).onRaise (fun x => do noteFrame x f.env; theTreesLotGoes x)) _ _ s'
  refine wpAny_noted ?_
  simp only [forTurn]
  obtain ⟨hst, tu⟩ := turn i ρ' σ' hJ' hi'
  have hx' : itemsD σ' d = some xs := by
    cases d <;> first | exact hx | skip
    rename_i a
    simp only [itemsD] at hx ⊢
    rw [show σ' a = σ₀ a from hst]; exact hx
  have hitσ : ItObj s'.heap σ' d i o := hit'.grow (.refl _) hst
  refine wpAny_bind (wpAny_standAt (wpAny_bind (wpAny_onRaise ?_)))
  rcases Nat.lt_or_ge i xs.length with hlt | hge
  · have hxi : xs[i]? = some xs[i] := List.getElem?_eq_getElem hlt
    refine next_item R' hx' hI' hitσ l1' l2 l3 hxi fun v o' s₂ R₂ g₂ hI₂ hit₂ iv => ?_
    refine wpAny_bind (letOwned_sound hI₂ hit₂ ?_)
    have R₂' := R₂.addFix hI₂ l1' l2
    refine wpAny_bind (assign_sound (.inr hso) hf hh hm R₂' iv (tu _ hxi) fun ρ₃ s₃ R₃ g₃ hb => ?_)
    refine wpAny_bind (wpAny_mono (hbody (fix.add I o') ρ₃ σ' _ (fun a o h => .inl h) hb _ s₃ R₃) (fun fl s₄ h₄ => ?_) fun _ _ x => x)
    obtain ⟨fl', ρ₄, σ₄, R₄, g₄, hfl, q⟩ := h₄
    have lo := R₄.looseAt
    have R₄' := R₄.dropFix R₂.cellsOf
    have gg : Grow h₀ s₄.heap := g'.trans (g₂.trans (g₃.trans g₄))
    have again : J (i + 1) ρ₄ σ₄ → ∃ m, m < xs.length - i ∧ ∃ i ρ' σ' o, m = xs.length - i ∧ i ≤ xs.length ∧ J i ρ' σ' ∧ Rel C fix f ρ' σ' s₄ ∧ Grow h₀ s₄.heap ∧ s₄.heap.get? I = some o ∧ ItObj s₄.heap σ₀ d i o ∧ σ' I = none := fun hj => by
      refine ⟨xs.length - (i + 1), by omega, i + 1, ρ₄, σ₄, o', rfl, hlt, hj, R₄', gg, lo.2.2, ?_, lo.1⟩
      refine hit₂.grow (g₃.trans g₄) ?_
      cases d <;> first | exact True.intro | exact (show _ = _ from hst).symm
    cases hfl with
    | next => exact wpAny_pure (.inl ⟨rfl, again q⟩)
    | cont => exact wpAny_pure (.inl ⟨rfl, again q⟩)
    | brk => exact wpAny_pure ⟨.next, ρ₄, σ₄, R₄', gg, .next, q⟩
    | ret hv => exact wpAny_pure ⟨.ret _, ρ₄, σ₄, R₄', gg, .ret hv, q⟩
  · have hie : i = xs.length := by omega
    subst hie
    refine next_end hh R' hx' hI' hitσ l1' l2 l3 (Nat.le_refl _) fun s₂ R₂ g₂ => ?_
    exact wpAny_pure (.inr ⟨rfl, codeAny_block (wpAny_execs_nil ⟨.next, ρ', σ', R₂, g'.trans g₂, .next, fin ρ' σ' hJ'⟩)⟩)

theorem wpAny_letgo {P : Value → Shared → Prop} (h : P .none s) : wpAny (model C.prog C.w) A (runValue (.builtin "proto.let_go" {})) P E s :=
  wpAny_runValue (codeAny_builtin entry_let_go (show wpAny _ _ (ret .none) _ _ s from wpAny_pure h))
theorem dropValue_sound {e : Expr} {pos : Pos} {v : Value} {P : Flow → Shared → Prop} (h : P .next s) : wpAny (model C.prog C.w) A (dropValue e pos v) P E s := by
  unfold dropValue
  split
  · exact wpAny_pure h
  · exact wpAny_bind (wpAny_standAt (wpAny_bind (wpAny_letgo (wpAny_pure h))))
  · exact wpAny_pure h
end

def noComp : Expr → Bool
  | .ListComp .. => false
  | _ => true
section inv
variable {sc : Scope} {st : Stmt}
theorem mSx_assign {t : Tgt} {e : Ex} (h : mSx (.assign t e) sc st = true) : ∃ tg v p, st = .Assign [tg] v p ∧ mTgt false sc t tg = true ∧ mEx e sc v = true ∧ ((∃ a b c, tg = .Tuple a b c) → ∀ a b c, v ≠ .Tuple a b c) := by
  cases st <;> try exact absurd h Bool.false_ne_true
  rename_i ts v p
  cases ts with
  | nil => exact absurd h Bool.false_ne_true
  | cons tg r =>
    cases r with
    | cons => exact absurd h Bool.false_ne_true
    | nil =>
      obtain ⟨h, h3⟩ := an h; obtain ⟨h1, h2⟩ := an h
      refine ⟨_, _, _, rfl, h1, h2, ?_⟩
      rintro ⟨a, b, c, rfl⟩ a' b' c' rfl
      exact absurd h3 Bool.false_ne_true
theorem mSx_ite {t : Ex} {a b : List Sx} (h : mSx (.ite t a b) sc st = true) : ∃ t' a' b' p, st = .If t' a' b' p ∧ mEx t sc t' = true ∧ mSxs a sc a' = true ∧ mSxs b sc b' = true := by
  cases st <;> try exact absurd h Bool.false_ne_true
  obtain ⟨h, h3⟩ := an h; obtain ⟨h1, h2⟩ := an h
  exact ⟨_, _, _, _, rfl, h1, h2, h3⟩
theorem mSx_loop {t : Tgt} {it : Ex} {b : List Sx} (h : mSx (.loop t it b) sc st = true) : ∃ t' i' b' p, st = .For t' i' b' [] p ∧ mTgt false sc t t' = true ∧ mEx it sc i' = true ∧ mSxs b sc b' = true ∧ noSet i' = true := by
  cases st <;> try exact absurd h Bool.false_ne_true
  rename_i t' i' b' o p
  cases o with
  | cons => exact absurd h Bool.false_ne_true
  | nil =>
    obtain ⟨h, h4⟩ := an h; obtain ⟨h, h3⟩ := an h; obtain ⟨h1, h2⟩ := an h
    exact ⟨_, _, _, _, rfl, h1, h2, h3, h4⟩
theorem mSx_while {t : Ex} {b : List Sx} (h : mSx (.while t b) sc st = true) : ∃ t' b' p, st = .While t' b' [] p ∧ mEx t sc t' = true ∧ mSxs b sc b' = true := by
  cases st <;> try exact absurd h Bool.false_ne_true
  rename_i t' b' o p
  cases o with
  | cons => exact absurd h Bool.false_ne_true
  | nil => obtain ⟨h1, h2⟩ := an h; exact ⟨_, _, _, rfl, h1, h2⟩
theorem mSx_ret {e : Ex} (h : mSx (.ret e) sc st = true) : ∃ v p, st = .Return (some v) p ∧ mEx e sc v = true := by
  cases st <;> try exact absurd h Bool.false_ne_true
  rename_i v p
  cases v <;> try exact absurd h Bool.false_ne_true
  exact ⟨_, _, rfl, h⟩
theorem mSx_cont (h : mSx .cont sc st = true) : ∃ p, st = .Continue p := by
  cases st <;> try exact absurd h Bool.false_ne_true
  exact ⟨_, rfl⟩
theorem mSx_expr {e : Ex} (h : mSx (.expr e) sc st = true) : ∃ v p, st = .Expr v p ∧ mEx e sc v = true ∧ noComp v = true := by
  cases st <;> try exact absurd h Bool.false_ne_true
  obtain ⟨h1, h2⟩ := an h
  exact ⟨_, _, rfl, h1, h2⟩
end inv

theorem swaps_no {v : Expr} {t : Option Expr} {l : Nat} {env : Env} (h : noComp v = true) (h1 : ∀ a b c d, v ≠ .SetComp a b c d) (h2 : ∀ a b c d e, v ≠ .DictComp a b c d e) : swapsWith v t l env = pure false := by
  cases v <;> first | rfl | exact absurd h Bool.false_ne_true | exact absurd rfl (h1 _ _ _ _) | exact absurd rfl (h2 _ _ _ _ _)
theorem mEx_noSetComp {x : Ex} {sc : Scope} {v : Expr} (h : mEx x sc v = true) : (∀ a b c d, v ≠ .SetComp a b c d) ∧ (∀ a b c d e, v ≠ .DictComp a b c d e) := by
  refine ⟨?_, ?_⟩ <;> (intros; rintro rfl; cases x <;> exact absurd h Bool.false_ne_true)
theorem swappedStores_none {tg v : Expr} {env : Env} (h : (∃ a b c, tg = .Tuple a b c) → ∀ a b c, v ≠ .Tuple a b c) (h2 : ∀ a b, tg ≠ .List a b) : swappedStores [tg] v env = pure none := by
  unfold swappedStores
  cases tg <;> try rfl
  · exact absurd rfl (h2 _ _)
  · have := h ⟨_, _, _, rfl⟩
    cases v <;> first | rfl | exact absurd rfl (this _ _ _)
theorem mTgt_kinds {l : Bool} {sc : Scope} {t : Tgt} {e : Expr} (h : mTgt l sc t e = true) : (∀ a b, e ≠ .List a b) ∧ ∀ env v, assignAll v ((assignEach [e] env).map (·.2)) = assign e env v := by
  cases t <;> cases e <;> first | exact absurd h Bool.false_ne_true | refine ⟨by intros; simp, fun env v => rfl⟩

/-- an assignment of anything -/
theorem ex_assign {C : Cx} {k : Kx} {A : Around} {G : Fix} (K : KOk C k A G) (hA : Room A) {fix : Fix} {f : Fr} {t : Tgt} {x : Ex} {tg v : Expr} {p : Pos} {ρ : Loc} {σ : Sto} {Q : PostS}
    (hf : FrOk f) (hso : StOk f) (hG : ∀ a o, G a o → fix a o) (mt : mTgt false f.env.scope t tg = true) (me : mEx x f.env.scope v = true) (hnt : (∃ a b c, tg = .Tuple a b c) → ∀ a b c, v ≠ .Tuple a b c)
    (h : evW k x ρ σ fun d σ₁ => assignW t d ρ fun ρ' => Q .next ρ' σ₁) : AWx C A fix f (exec (.Assign [tg] v p) f.env) ρ σ Q := by
  intro E s R
  obtain ⟨mk1, mk2⟩ := mTgt_kinds mt
  rw [arm_exec_Assign]
  refine wpAny_bind (wpAny_standAt ?_)
  have plain : wpAny (model C.prog C.w) A (do
      let v ← eval v f.env
      assignStores f.env v (← swappedStores [tg] ‹Expr› f.env) ((assignEach [tg] f.env).map (·.2))) (PS C fix f s.heap Q) E s := by
    refine wpAny_bind (wpAny_mono (ev_sound K hA x fix f v ρ σ _ hf hG me h E s R) (fun va s₁ h₁ => ?_) fun _ _ x => x)
    obtain ⟨d, σ₁, R₁, g₁, i₁, h₁⟩ := h₁
    rw [swappedStores_none hnt mk1]
    refine wpAny_bind (wpAny_pure ?_)
    show wpAny _ A (do assignAll va ((assignEach [tg] f.env).map (·.2)); pure Flow.next) _ E s₁
    rw [mk2]
    refine wpAny_bind (assign_sound (.inr hso) hf hA.handled mt R₁ i₁ h₁ fun ρ' s₂ R₂ g₂ hq => ?_)
    exact wpAny_pure ⟨.next, ρ', σ₁, R₂, g₁.trans g₂, .next, hq⟩
  by_cases hc : noComp v = true
  · have hno := mEx_noSetComp me
    have e : swapsWithSole [tg] v p.line f.env = pure false := swaps_no hc hno.1 hno.2
    rw [e]
    exact wpAny_bind (wpAny_pure plain)
  · have hv : ∃ a b c d, v = .ListComp a b c d := by
      cases v <;> first | exact ⟨_, _, _, _, rfl⟩ | exact absurd rfl hc
    obtain ⟨a, b, c, d', rfl⟩ := hv
    have e : ∃ q, swapsWithSole [tg] (.ListComp a b c d') p.line f.env = pure q := by
      cases tg <;> exact ⟨_, rfl⟩
    obtain ⟨q, e⟩ := e
    rw [e]
    refine wpAny_bind (wpAny_pure ?_)
    cases q with
    | false => exact plain
    | true =>
      have hx : ∃ elt tt it ifs, x = .comp elt tt it ifs := by
        cases x <;> first | exact ⟨_, _, _, _, rfl⟩ | exact absurd me Bool.false_ne_true
      obtain ⟨elt, tt, it, ifs, rfl⟩ := hx
      obtain ⟨e', t', i', fs, csc, pp, hcq, hcs, mi, mtt, mf, me', hns⟩ := mEx_comp me
      cases hcq
      rw [if_pos rfl]
      have hfa : firstAsync [⟨t', i', fs, 0⟩] = false := rfl
      have hfi : firstIter [⟨t', i', fs, 0⟩] f.env = eval i' f.env := rfl
      refine wpAny_bind ?_
      rw [arm_evalThenUse_ListComp, hfa, hfi]
      dsimp only
      refine wpAny_bind (comp_use K hA hf hG hcs mtt hns (fun Q hq => ev_sound K hA it fix f i' ρ σ Q hf hG mi hq)
        (fun fix' f' ρ' σ' Q' hf' hsc hG' hq => conds_sound K hA ifs (boths_sound K hA ifs).2 fix' f' fs ρ' σ' Q' hf' hG' (hsc ▸ mf) hq)
        (fun fix' f' ρ' σ' Q' hf' hsc hG' hq => ev_sound K hA elt fix' f' a ρ' σ' Q' hf' hG' (hsc ▸ me') hq) h R fun σ' Da Ca oC s' hR hg hn hz hfC hq => ?_)
      show wpAny _ A (assignAll (.ref Da) ((assignEach [tg] f.env).map (·.2))) _ E s'
      rw [mk2]
      refine assign_sound (.inr hso) hf hA.handled mt hR (.ref Da) hq fun ρ' s₂ R₂ g₂ hq' => ?_
      have lo := R₂.looseAt
      obtain ⟨m, o, es, ep, ho, hdt, hk⟩ := hn
      refine ⟨m, ⟨o, es, ep, ?_, hdt, hk⟩, fun h' hs' => ?_⟩
      · have := hR.looseAt.2.2
        rw [ho] at this; cases this
        exact lo.2.2
      obtain ⟨R', g'⟩ := (R₂.dropFix R.cellsOf).loose (tk := s₂.toks) lo.1 lo.2.1 hfC (fun o e => by rw [lo.2.2] at e; cases e; exact hz) hs'.extBut
      exact wpAny_pure (wpAny_pure ⟨.next, ρ', σ', R', hg.trans (g₂.trans g'), .next, hq'⟩)

theorem flatLoc_ok {ρ : Loc} {x : String} {d : D} (h : flatLoc ρ x = some d) : ρ x = some d ∧ d.flat = true := by
  unfold flatLoc at h
  split at h
  · rename_i e
    split at h
    · rename_i q; cases h; exact ⟨e, q⟩
    · cases h
  · cases h
theorem Is.unheap {h h' : Heap} {d : D} {v : Value} (hf : d.flat = true) (x : Is h d v) : Is h' d v := by
  cases x with
  | none => exact .none
  | bool b => exact .bool b
  | int i t => exact .int i t
  | str x t => exact .str x t
  | ref a => exact .ref a
  | val v => exact .val v
  | tup => cases hf
  | rng => cases hf
theorem IsAll.unheap {h h' : Heap} : ∀ {ds : List D} {vs : List Value}, ds.all D.flat = true → IsAll h ds vs → IsAll h' ds vs
  | _, _, _, .nil => .nil
  | _, _, hf, .cons x r => by
    rw [List.all_cons, Bool.and_eq_true] at hf
    exact .cons (x.unheap hf.1) (r.unheap hf.2)
theorem CellIs.unheap {w : World} {h h' : Heap} {a : Addr} {c : Cell} (hf : c.flat = true) (x : CellIs w h a c) (k : ∀ o, h.get? a = some o → h'.get? a = some o) : CellIs w h' a c := by
  cases c with
  | list ds => obtain ⟨vs, n, e, r⟩ := x; exact ⟨vs, n, k _ e, r.unheap hf⟩
  | _ => cases hf
section
variable {C : Cx} {fix : Fix} {f : Fr} {ρ : Loc} {σ : Sto} {s : Shared} {A : Around} {E : Value → Shared → Prop}
/-- what is flat stands in any heap with the same cells -/
theorem Rel.flatMono {h' : Heap} {tk : Nat} (R : Rel C fix f ρ σ s) (hρ : ∀ x d, ρ x = some d → d.flat = true) (hσ : ∀ a c, σ a = some c → c.flat = true)
    (k : ∀ b o, s.heap.get? b = some o → (b ∈ f.own ∨ (∃ o, fix b o) ∨ (∃ c, σ b = some c)) → h'.get? b = some o) : Rel C fix f ρ σ { s with heap := h', toks := tk } where
  fixed := fun a o e => k a o (R.fixed a o e) (.inr (.inl ⟨o, e⟩))
  loc := by
    obtain ⟨m, hn, r⟩ := R.loc
    refine ⟨m, hn.at' fun o e => k _ o e (.inl R.locOwn), fun x d e hx => ⟨fun q => ?_, fun q => ?_⟩⟩
    · obtain ⟨v, e1, e2⟩ := (r x d e hx).1 q
      exact ⟨v, e1, e2.unheap (hρ x d e)⟩
    · obtain ⟨c, v, e1, ⟨o, ho, hd⟩, e3⟩ := (r x d e hx).2 q
      exact ⟨c, v, e1, ⟨o, k c o ho (by rcases (R.cellsFix _ c (mem_of_lookup e1)).2 with q | q; exact .inl q; exact .inr (.inl q)), hd⟩, e3.unheap (hρ x d e)⟩
  locOwn := R.locOwn
  cells := fun x hx => by
    obtain ⟨c, v, e, o, ho, hd⟩ := R.cells x hx
    exact ⟨c, v, e, o, k c o ho (by rcases (R.cellsFix x c (mem_of_lookup e)).2 with q | q; exact .inl q; exact .inr (.inl q)), hd⟩
  frees := R.frees
  cellsFix := R.cellsFix
  cellsApart := R.cellsApart
  sto := fun a c e => (R.sto a c e).unheap (hσ a c e) fun o ho => k a o ho (.inr (.inr ⟨c, e⟩))
  apart := R.apart
  ownFix := R.ownFix
  ownObj := fun a ha => by obtain ⟨o, e, q⟩ := R.ownObj a ha; exact ⟨o, k a o e (.inl ha), q⟩
  gens := R.gens
  os := R.os
theorem Rel.refix {fix' : Fix} (R : Rel C fix f ρ σ s) (hf : ∀ a o, fix' a o → s.heap.get? a = some o) (h1 : ∀ a o, fix a o → fix' a o) (h2 : ∀ a c o, σ a = some c → ¬ fix' a o) (h3 : ∀ a o, a ∈ f.own → ¬ fix' a o) : Rel C fix' f ρ σ s :=
  { R with
    fixed := hf
    cellsFix := fun x c h => ⟨(R.cellsFix x c h).1, (R.cellsFix x c h).2.imp id fun ⟨p, q⟩ => ⟨p, h1 _ _ q⟩⟩
    apart := fun a c h => ⟨(R.apart a c h).1, fun o => h2 a c o h⟩
    ownFix := fun a h o => h3 a o h }
theorem Rel.unfix {fix' : Fix} (R : Rel C fix' f ρ σ s) (h1 : ∀ a o, fix a o → fix' a o) (hc : ∀ x c, (x, c) ∈ f.env.cells → c ∈ f.own ∨ ∃ o, fix c o) : Rel C fix f ρ σ s :=
  { R with
    fixed := fun a o h => R.fixed a o (h1 a o h)
    cellsFix := fun x c h => ⟨(R.cellsFix x c h).1, hc x c h⟩
    apart := fun a c h => ⟨(R.apart a c h).1, fun o q => (R.apart a c h).2 o (h1 a o q)⟩
    ownFix := fun a h o q => R.ownFix a h o (h1 a o q) }
end

theorem zipApart_of (n p t : Nat) (hp : p < n) (ht : t < n) : ZipApart (n + 4) (n + 2) (n + 3) n (n + 1) p t := by
  constructor <;> (show (_ : Nat) ≠ _; omega)
theorem fresh_of {h : Heap} (c : Nat) (hc : h.objs.size ≤ c) : h.get? c = none := by
  cases e : h.get? c with
  | none => rfl
  | some o => exact absurd (Heap.lt_size e) (Nat.not_lt.mpr hc)
theorem zipLoop_sound {C : Cx} {A : Around} (hA : Room A) {fix : Fix} {f : Fr} {ns : List String} {target : Expr} {body : List Stmt} {ρ : Loc} {σ σb : Sto} {s : Shared} {Q : PostS} {bodyW : Loc → Sto → PostS → Prop} {Re : Value → Shared → Prop}
    {p t : Addr} {xs ys : List D} {J : Nat → Loc → Prop} (hf : FrOk f) (hso : StOk f) (mt : mTgt false f.env.scope (.tup ns) target = true)
    (hbody : ∀ fix' ρ' σ' Q', (∀ a o, fix a o → fix' a o) → bodyW ρ' σ' Q' → AWx C A fix' f (execs body f.env) ρ' σ' Q')
    (R : Rel C fix f ρ σ s) (hp : σ p = some (.list xs)) {vt : List Value} {nt : Nat} (ht : s.heap.get? t = some { cls := .type "tuple", data := .seq vt.toArray nt }) (it : IsAll s.heap ys vt)
    (hb : ∀ a c, σb a = some c → σ a = some c ∧ c.flat = true) (hpb : σb p = none) (hJ : J 0 (flatLoc ρ))
    (turn : ∀ i ρ', J i ρ' → ∀ x y, xs[i]? = some x → ys[i]? = some y → assignW (.tup ns) (.tup [x, y]) ρ' fun ρ₂ => bodyW ρ₂ σb fun fl ρ₃ σ₃ => (fl = .next ∨ fl = .cont) ∧ (∀ a c, σb a = some c → σ₃ a = some c) ∧ J (i + 1) (flatLoc ρ₃))
    (fin : ∀ ρ', J (min xs.length ys.length) ρ' → Q .next ρ' σ)
    {z TI TO i1 i2 : Addr} {s₁ : Shared} (hZ : ZipIs s₁.heap z TI TO i1 i2 p t 0 .none) (D : ZipApart z TI TO i1 i2 p t) (new : ∀ c, c = z ∨ c = TI ∨ c = TO ∨ c = i1 ∨ c = i2 → s.heap.get? c = none)
    (keep : ∀ c o, s.heap.get? c = some o → s₁.heap.get? c = some o) (hs₁ : s₁ = { s with heap := s₁.heap, toks := s₁.toks }) :
    codeAny (model C.prog C.w) A (.forLoop target (.ref z) body [] f.env) (fun r s' => match r with | .ok fl => PS C fix f s.heap Q fl s' | .error e => Re e s') s₁ := by
  obtain ⟨vp, np, hpo, ip⟩ := R.sto p _ hp
  have hlp := ip.length
  have hlt := it.length
  -- what is tracked and not seen by the turns stays as it is
  let fz : Fix := fun a o => fix a o ∨ (s.heap.get? a = some o ∧ (∃ c, σ a = some c) ∧ σb a = none)
  have nw : ∀ c, (∃ o, s.heap.get? c = some o) → c ≠ z ∧ c ≠ TI ∧ c ≠ TO ∧ c ≠ i1 ∧ c ≠ i2 := by
    rintro c ⟨o, e⟩
    refine ⟨?_, ?_, ?_, ?_, ?_⟩ <;> (intro q; rw [new c (by simp [q])] at e; cases e)
  have fzs : ∀ a o, fz a o → s.heap.get? a = some o := fun a o h => h.elim (R.fixed a o) fun q => q.1
  have R0 : Rel C fz f (flatLoc ρ) σb s := by
    refine ((R.sub fun a c e => (hb a c e).1).refix (fix' := fz) fzs (fun a o h => .inl h) (fun a c o e h => ?_) fun a o ho h => ?_).reloc fun x d e _ _ => (flatLoc_ok e).1
    · rcases h with h | ⟨_, _, h⟩
      · exact (R.apart a c (hb a c e).1).2 o h
      · rw [h] at e; cases e
    · rcases h with h | ⟨_, ⟨c, h⟩, _⟩
      · exact R.ownFix a ho o h
      · exact (R.apart a c h).1 ho
  have hflatσ : ∀ a c, σb a = some c → c.flat = true := fun a c e => (hb a c e).2
  have grow1 : Grow s.heap s₁.heap := .of_keeps keep
  have R1 : Rel C fz f (flatLoc ρ) σb s₁ := by
    have := R0.ext (h' := s₁.heap) (tk := s₁.toks) keep
    rw [hs₁]; exact this
  have zLoose : ∀ {ρ' : Loc} {s' : Shared}, Rel C fz f ρ' σb s' → ∀ b, (b = z ∨ b = TI ∨ b = TO ∨ b = i1 ∨ b = i2) → ¬ (b ∈ f.own ∨ (∃ o, fz b o) ∨ (∃ c, σb b = some c)) := by
    intro ρ' s' R' b hbz h
    have hn := new b hbz
    rcases h with h | ⟨o, h⟩ | ⟨c, h⟩
    · obtain ⟨o, e, _⟩ := R.ownObj b h; rw [hn] at e; cases e
    · have := fzs b o h; rw [hn] at this; cases this
    · obtain ⟨o, e, _⟩ := (R.sto b c (hb b c h).1).obj; rw [hn] at e; cases e
  refine codeAny_loop' rfl (fun n s' => ∃ i ρ', n = min xs.length ys.length - i ∧ i ≤ min xs.length ys.length ∧ J i ρ' ∧ (∀ x d, ρ' x = some d → d.flat = true) ∧ Rel C fz f ρ' σb s' ∧ Grow s.heap s'.heap ∧ ZipIs s'.heap z TI TO i1 i2 p t i .none) ?_ _
    ⟨0, flatLoc ρ, rfl, Nat.zero_le _, hJ, fun x d e => (flatLoc_ok e).2, R1, grow1, hZ⟩
  rintro n s' ⟨i, ρ', rfl, hi', hJ', hfl', R', g', hZ'⟩
  have hpo' : s'.heap.IsList p vp.toArray := ⟨_, R'.fixed p _ (.inr ⟨hpo, ⟨_, hp⟩, hpb⟩), rfl, _, rfl⟩
  have hto' : s'.heap.IsTuple t vt.toArray := ⟨_, g' _ _ ht rfl, rfl, _, rfl⟩
  show wpAny _ _ ((forTurn target (.ref z) body [] f.env).onRaise (fun x => do noteFrame x f.env; theTreesLotGoes x)) _ _ s'
  refine wpAny_noted ?_
  simp only [forTurn]
  refine wpAny_bind (wpAny_standAt (wpAny_bind (wpAny_onRaise ?_)))
  rcases Nat.lt_or_ge i (min xs.length ys.length) with hlt' | hge
  · have hix : i < xs.length := Nat.lt_of_lt_of_le hlt' (Nat.min_le_left ..)
    have hiy : i < ys.length := Nat.lt_of_lt_of_le hlt' (Nat.min_le_right ..)
    obtain ⟨vx, hvx, ix⟩ := ip.get (List.getElem?_eq_getElem hix)
    obtain ⟨vy, hvy, iy⟩ := it.get (List.getElem?_eq_getElem hiy)
    refine pyNext_zip_item D hZ' hpo' hto' (x := vx) (y := vy) (by simpa using hvx) (by simpa using hvy) fun h₂ hZ₂ hT₂ hsz hk₂ => ?_
    have keepZ : ∀ b o, s'.heap.get? b = some o → (b ∈ f.own ∨ (∃ o, fz b o) ∨ (∃ c, σb b = some c)) → h₂.get? b = some o := fun b o e q =>
      hk₂ b o (fun x => zLoose R' b (by simp [x]) q) (fun x => zLoose R' b (by simp [x]) q) (fun x => zLoose R' b (by simp [x]) q) (fun x => zLoose R' b (by simp [x]) q) e
    have R₂ := R'.flatMono (h' := h₂) (tk := s'.toks) hfl' hflatσ keepZ
    have g₂ : Grow s.heap h₂ := fun a o e hz => by
      have := nw a ⟨o, e⟩
      exact hk₂ a o this.1 this.2.2.1 this.2.2.2.1 this.2.2.2.2 (g' a o e hz)
    have hTn : s'.heap.get? s'.heap.objs.size = none := get_size
    have hts : ∃ es k pos, target = .Tuple es k pos := by
      cases target <;> first | exact ⟨_, _, _, rfl⟩ | exact absurd mt Bool.false_ne_true
    obtain ⟨es, kk, pos, rfl⟩ := hts
    refine wpAny_bind (wpAny_letOwnedTupleGo_zip (s := { s' with heap := h₂ }) hZ₂.z fun h₃ hz₃ hs₃ => ?_)
    have hTz : s'.heap.objs.size ≠ z := fun q => by
      have e : s'.heap.get? z = some _ := hZ'.z
      rw [← q, hTn] at e
      cases e
    have R₃ := R₂.flatMono (h' := h₃) (tk := s'.toks) hfl' hflatσ fun b o e q => hs₃.extBut b o (fun x => zLoose R₂ b (.inl x) q) e
    have g₃ : Grow s.heap h₃ := fun a o e hz => hs₃.extBut a o (nw a ⟨o, e⟩).1 (g₂ a o e hz)
    have hT₃ : IsPair h₃ s'.heap.objs.size vx vy := hs₃.extBut _ _ hTz hT₂
    have hZ₃ : ZipIs h₃ z TI TO i1 i2 p t (i + 1) .none := by
      obtain ⟨q1, q2, ⟨a, b, q3⟩, q4, q5⟩ := hZ₂
      obtain ⟨o5, e5, r5⟩ := q5
      exact ⟨hz₃, hs₃.extBut _ _ D.TIz q2, ⟨a, b, hs₃.extBut _ _ D.TOz q3⟩, q4.extBut hs₃.extBut D.i1z, ⟨o5, hs₃.extBut _ _ D.i2z e5, r5⟩⟩
    -- the zip's own things are fixed while the turn runs
    obtain ⟨q1, q2, ⟨ta, tb, q3⟩, ⟨o4, e4, r4⟩, ⟨o5, e5, r5⟩⟩ := id hZ₃
    let fx : Fix := fun a o => fz a o ∨ (h₃.get? a = some o ∧ (a = z ∨ a = TI ∨ a = TO ∨ a = i1 ∨ a = i2))
    have R₃' : Rel C fx f ρ' σb { s' with heap := h₃ } := by
      refine R₃.refix (fun a o h => h.elim (R₃.fixed a o) fun q => q.1) (fun a o h => .inl h) (fun a c o e h => ?_) fun a o ho h => ?_
      · rcases h with h | ⟨_, h⟩
        · exact (R₃.apart a c e).2 o h
        · exact zLoose R₃ a h (.inr (.inr ⟨c, e⟩))
      · rcases h with h | ⟨_, h⟩
        · exact R₃.ownFix a ho o h
        · exact zLoose R₃ a h (.inl ho)
    have iT : Is h₃ (.tup [xs[i], ys[i]]) (.ref s'.heap.objs.size) := .tup (vs := [vx, vy]) hT₃ (.cons (ix.grow g₃) (.cons (iy.grow g₃) .nil))
    refine wpAny_bind (assign_sound (.inr hso) hf hA.handled mt R₃' iT (turn i ρ' hJ' _ _ (List.getElem?_eq_getElem hix) (List.getElem?_eq_getElem hiy)) fun ρ₄ s₄ R₄ g₄ hw => ?_)
    refine wpAny_bind (wpAny_mono (hbody fx ρ₄ σb _ (fun a o h => .inl (.inl h)) hw _ s₄ R₄) (fun fl s₅ h₅ => ?_) fun _ _ x => x)
    obtain ⟨fl', ρ₅, σ₅, R₅, g₅, hfl, hq, hσ₅, hJ₅⟩ := h₅
    have R₅' : Rel C fz f (flatLoc ρ₅) σb s₅ := ((R₅.unfix (fix := fz) (fun a o h => .inl h) R₃.cellsOf).sub hσ₅).reloc fun x d e _ _ => (flatLoc_ok e).1
    have hZ₅ : ZipIs s₅.heap z TI TO i1 i2 p t (i + 1) .none :=
      ⟨R₅.fixed _ _ (.inr ⟨q1, by simp⟩), R₅.fixed _ _ (.inr ⟨q2, by simp⟩), ⟨ta, tb, R₅.fixed _ _ (.inr ⟨q3, by simp⟩)⟩, ⟨o4, R₅.fixed _ _ (.inr ⟨e4, by simp⟩), r4⟩, ⟨o5, R₅.fixed _ _ (.inr ⟨e5, by simp⟩), r5⟩⟩
    have again : ∃ m, m < min xs.length ys.length - i ∧ ∃ i ρ', m = min xs.length ys.length - i ∧ i ≤ min xs.length ys.length ∧ J i ρ' ∧ (∀ x d, ρ' x = some d → d.flat = true) ∧ Rel C fz f ρ' σb s₅ ∧ Grow s.heap s₅.heap ∧ ZipIs s₅.heap z TI TO i1 i2 p t i .none :=
      ⟨min xs.length ys.length - (i + 1), by omega, i + 1, flatLoc ρ₅, rfl, hlt', hJ₅, fun x d e => (flatLoc_ok e).2, R₅', g₃.trans (g₄.trans g₅), hZ₅⟩
    cases hfl with
    | next => exact wpAny_pure (.inl ⟨rfl, again⟩)
    | cont => exact wpAny_pure (.inl ⟨rfl, again⟩)
    | brk => rcases hq with q | q <;> cases q
    | ret hv => rcases hq with q | q <;> cases q
  · have hie : i = min xs.length ys.length := by omega
    subst hie
    have hend : vp.toArray[min xs.length ys.length]? = none ∨ vt.toArray[min xs.length ys.length]? = none := by
      rcases Nat.le_total xs.length ys.length with h | h
      · exact .inl (by rw [Nat.min_eq_left h]; simp; omega)
      · exact .inr (by rw [Nat.min_eq_right h]; simp; omega)
    refine pyNext_zip_end hA.handled D hZ' hpo' hto' hend fun h₂ hk₂ => ?_
    have keepZ : ∀ b o, s'.heap.get? b = some o → (b ∈ f.own ∨ (∃ o, fz b o) ∨ (∃ c, σb b = some c)) → h₂.get? b = some o := fun b o e q =>
      hk₂ b o (fun x => zLoose R' b (by simp [x]) q) (fun x => zLoose R' b (by simp [x]) q) (fun x => zLoose R' b (by simp [x]) q) (fun x => zLoose R' b (by simp [x]) q) e
    have R₂ := R'.flatMono (h' := h₂) (tk := s'.toks) hfl' hflatσ keepZ
    have g₂ : Grow s.heap h₂ := fun a o e hz => by
      have := nw a ⟨o, e⟩
      exact hk₂ a o this.1 this.2.2.1 this.2.2.2.1 this.2.2.2.2 (g' a o e hz)
    have Rf : Rel C fix f ρ' σ { s' with heap := h₂, toks := s'.toks } := by
      have Ru := R₂.unfix (fix := fix) (fun a o h => .inl h) R.cellsOf
      exact { Ru with
        sto := fun a c e => by
          cases q : σb a with
          | some c' =>
            have := (hb a c' q).1
            rw [e] at this; cases this
            exact R₂.sto a c q
          | none => exact (R.sto a c e).grow g₂ fun o ho => R₂.fixed a o (.inr ⟨ho, ⟨c, e⟩, q⟩)
        apart := R.apart }
    exact wpAny_pure (.inr ⟨rfl, codeAny_block (wpAny_execs_nil ⟨.next, ρ', σ, Rf, g₂, .next, fin ρ' hJ'⟩)⟩)

theorem zip_sound {C : Cx} {k : Kx} {A : Around} {G : Fix} (K : KOk C k A G) (hA : Room A) {fix : Fix} {f : Fr} {t : Tgt} {a b : Ex} {t' i' : Expr} {b' : List Stmt} {p : Pos} {ρ : Loc} {σ : Sto} {Q : PostS} {bodyW : Loc → Sto → PostS → Prop}
    (hf : FrOk f) (hso : StOk f) (hG : ∀ a o, G a o → fix a o) (mt : mTgt false f.env.scope t t' = true) (mi : mEx (.zip a b) f.env.scope i' = true) (hns : noSet i' = true)
    (hbody : ∀ fix' ρ' σ' Q', (∀ a o, fix a o → fix' a o) → bodyW ρ' σ' Q' → AWx C A fix' f (execs b' f.env) ρ' σ' Q')
    (h : evW k a ρ σ fun d σ₁ => evW k b ρ σ₁ fun d' σ₂ => zipW t d d' ρ σ₂ bodyW Q) : AWx C A fix f (exec (.For t' i' b' [] p) f.env) ρ σ Q := by
  have hz : ∃ q x z p, i' = .Call (.Name (Str.ofString "zip") q) [x, z] [] p ∧ isGlob f.env.scope "zip" = true ∧ mExs [a, b] f.env.scope [x, z] = true ∧ [x, z].all noStar = true := by
    cases i' <;> try exact absurd mi Bool.false_ne_true
    rename_i fn as kw pp
    cases fn <;> try exact absurd mi Bool.false_ne_true
    cases as with
    | nil => exact absurd mi Bool.false_ne_true
    | cons x as =>
      cases as with
      | nil => exact absurd mi Bool.false_ne_true
      | cons z as =>
        cases as with
        | cons => exact absurd mi Bool.false_ne_true
        | nil =>
          cases kw with
          | cons => exact absurd mi Bool.false_ne_true
          | nil =>
            obtain ⟨mi, hst⟩ := an mi; obtain ⟨mi, mb⟩ := an mi; obtain ⟨mi, ma⟩ := an mi; obtain ⟨e, hg⟩ := an mi
            cases eq_of_beq e
            exact ⟨_, x, z, pp, rfl, hg, Bool.and_eq_true_iff.mpr ⟨ma, Bool.and_eq_true_iff.mpr ⟨mb, rfl⟩⟩, hst⟩
  obtain ⟨q, x, z, pp, rfl, hg, mx, mst⟩ := hz
  intro E s R
  refine wpAny_For ?_ (fun x => noSet_folded hns x)
  have hst : (backTo pp (starEach [x, z] f.env)).any (·.1) = false := by rw [backTo_any]; exact starEach_any mst
  have hzv : bltOf "zip" = some (.type "zip") := rfl
  show wpAny _ A (do callWith pp (← eval (.Name (Str.ofString "zip") q) f.env) [] (backTo pp (starEach [x, z] f.env)) []) _ E s
  refine wpAny_bind (wp_global hf hg (K.blt "zip" _ hzv _ (R.keeps hG)) ?_)
  have h' : evsW k [a, b] ρ σ fun ds σ₂ => match ds with | [d, d'] => zipW t d d' ρ σ₂ bodyW Q | _ => False := by
    simp only [evsW]
    exact h
  refine callWith_val (bltOf_val hzv) hst (evalArgs_all hst (wpAny_mono (evs_sound K hA [a, b] (boths_sound K hA [a, b]).1 fix f [x, z] pp ρ σ _ hf hG mx mst h' E s R) (fun vs s₁ h₁ => ?_) fun _ _ x => x))
  obtain ⟨ds, σ₁, R₁, g₁, i₁, hl₁, h₁⟩ := h₁
  have hds : ∃ d d', ds = [d, d'] := by
    match ds, hl₁ with
    | [d, d'], _ => exact ⟨d, d', rfl⟩
  obtain ⟨d, d', rfl⟩ := hds
  obtain ⟨p1, xs, ys, rfl, rfl, hp, ⟨ns, rfl⟩, σb, J, hb, hpb, hJ, turn, fin⟩ := h₁
  obtain ⟨v1, v2, rfl, j1, j2⟩ := i₁.two
  cases j1
  cases j2 with | @tup _ ta vt nt ht it =>
  obtain ⟨vp, np, hpo, ip⟩ := R₁.sto p1 _ hp
  refine call_zip_lt (xs := vp.toArray) (ys := vt.toArray) ⟨_, hpo, rfl, _, rfl⟩ ⟨_, ht, rfl, _, rfl⟩ fun h₂ hZ hsz hk => ?_
  have hpl := Heap.lt_size hpo
  have htl := Heap.lt_size ht
  refine wpAny_pyIter_zip hZ.z ?_
  refine codeAny_mono (zipLoop_sound (Re := fun e s' => cameBackBy (model C.prog C.w) A f.env E e s') hA hf hso mt hbody R₁ hp ht it hb hpb hJ turn fin (s₁ := { s₁ with heap := h₂ }) hZ
    (zipApart_of _ _ _ hpl htl)
    (fun c hc => fresh_of c (by rcases hc with rfl | rfl | rfl | rfl | rfl; exact Nat.le_add_right _ 4; exact Nat.le_add_right _ 2; exact Nat.le_add_right _ 3; exact Nat.le_refl _; exact Nat.le_add_right _ 1)) hk rfl) fun r s' hr => ?_
  cases r with
  | ok fl => exact PS.grow hr g₁
  | error e => exact hr
theorem exW_loop {k : Kx} {X : PostX} {t : Tgt} {it : Ex} {body : List Sx} {ρ : Loc} {σ : Sto} {Q : PostS} (hz : ¬ ∃ a b, it = .zip a b) : exW k X (.loop t it body) ρ σ Q = (evW k it ρ σ fun d σ₁ => ∃ xs, itemsD σ₁ d = some xs ∧ xs.length ≤ line ∧
      ∃ I : Nat → Loc → Sto → Prop, I 0 ρ σ₁ ∧
        (∀ i ρ' σ', I i ρ' σ' → i ≤ xs.length → stillD σ₁ σ' d ∧ ∀ x, xs[i]? = some x → assignW t x ρ' fun ρ₂ => exsW k X body ρ₂ σ' fun fl ρ₃ σ₃ =>
          match fl with
          | .next | .cont => I (i + 1) ρ₃ σ₃
          | .brk => Q .next ρ₃ σ₃
          | .ret d => Q (.ret d) ρ₃ σ₃) ∧
        ∀ ρ' σ', I xs.length ρ' σ' → Q .next ρ' σ') := by
  cases it <;> first | exact absurd ⟨_, _, rfl⟩ hz | rfl
mutual
theorem ex_sound {C : Cx} {k : Kx} {A : Around} {G : Fix} (K : KOk C k A G) (hA : Room A) : ∀ (x : Sx) (fix : Fix) (f : Fr) (st : Stmt) (ρ : Loc) (σ : Sto) (Q : PostS), FrOk f → StOk f → (∀ a o, G a o → fix a o) → mSx x f.env.scope st = true → exW k (fun _ _ => False) x ρ σ Q →
    AWx C A fix f (exec st f.env) ρ σ Q
  | .assign t e, fix, f, st, ρ, σ, Q, hf, hso, hG, hm, h => by
    obtain ⟨tg, v, p, rfl, mt, me, hnt⟩ := mSx_assign hm
    simp only [wx_assign] at h
    exact ex_assign K hA hf hso hG mt me hnt h
  | .ite t a b, fix, f, st, ρ, σ, Q, hf, hso, hG, hm, h => by
    obtain ⟨t', a', b', p, rfl, mt, ma, mb⟩ := mSx_ite hm
    simp only [wx_ite] at h
    intro E s R
    refine wpAny_If (wpAny_mono (t_sound K hA t fix f t' ρ σ _ hf hG mt h E s R) (fun c s₁ h₁ => ?_) fun _ _ x => x)
    obtain ⟨σ₁, R₁, g₁, q⟩ := h₁
    cases c with
    | true => exact wpAny_mono (exs_sound K hA a fix f a' ρ σ₁ Q hf hso hG ma (q.1 rfl) E s₁ R₁) (fun v s₃ h₃ => h₃.grow g₁) fun _ _ x => x
    | false => exact wpAny_mono (exs_sound K hA b fix f b' ρ σ₁ Q hf hso hG mb (q.2 rfl) E s₁ R₁) (fun v s₃ h₃ => h₃.grow g₁) fun _ _ x => x
  | .loop t it body, fix, f, st, ρ, σ, Q, hf, hso, hG, hm, h => by
    obtain ⟨t', i', b', p, rfl, mt, mi, mb, hns⟩ := mSx_loop hm
    by_cases hz : ∃ a b, it = .zip a b
    · obtain ⟨a, b, rfl⟩ := hz
      simp only [wx_zip] at h
      exact zip_sound K hA hf hso hG mt mi hns (fun fix' ρ' σ' Q' hfx hw => exs_sound K hA body fix' f b' ρ' σ' Q' hf hso (fun a o g => hfx a o (hG a o g)) mb hw) h
    · rw [exW_loop hz] at h
      intro E s R
      refine wpAny_For (wpAny_mono (ev_sound K hA it fix f i' ρ σ _ hf hG mi h E s R) (fun v s₁ h₁ => ?_) fun _ _ x => x) (fun x => noSet_folded hns x)
      obtain ⟨d, σ₁, R₁, g₁, i₁, xs, hx, hlen, J, hJ, turn, fin⟩ := h₁
      refine iter_sound R₁ (let ⟨o, ho⟩ := K.sysm; ⟨o, hG _ _ ho⟩) i₁ hx hlen fun I o s₂ R₂ g₂ hI hit l1 l2 l3 => ?_
      exact forLoop_sound (k := k) (J := J) (fun ρ' σ' Q' => exsW k (fun _ _ => False) body ρ' σ' Q') hso hf hA.handled mt hx
        (fun fix' ρ' σ' Q' hfx hw => exs_sound K hA body fix' f b' ρ' σ' Q' hf hso (fun a o g => hfx a o (hG a o g)) mb hw) turn fin R₂ hJ (Nat.zero_le _) (g₁.trans g₂) hI hit l1 l2 l3
  | .while t body, fix, f, st, ρ, σ, Q, hf, hso, hG, hm, h => by
    obtain ⟨t', b', p, rfl, mt, mb⟩ := mSx_while hm
    obtain ⟨I, n, hI, tu⟩ := h
    intro E s R
    refine wpAny_While (codeAny_whileLoop (fun m s' => ∃ ρ' σ', I m ρ' σ' ∧ Rel C fix f ρ' σ' s' ∧ Grow s.heap s'.heap) ?_ n ⟨ρ, σ, hI, R, .refl _⟩)
    rintro m s' ⟨ρ', σ', hI', R', g'⟩
    refine wpAny_mono (t_sound K hA t fix f t' ρ' σ' _ hf hG mt (tu m ρ' σ' hI') _ s' R') (fun c s₁ h₁ => ?_) fun _ _ x => x
    obtain ⟨σ₁, R₁, g₁, q⟩ := h₁
    cases c with
    | false => exact wpAny_execs_nil ⟨.next, ρ', σ₁, R₁, g'.trans g₁, .next, q.1 rfl⟩
    | true =>
      refine wpAny_mono (exs_sound K hA body fix f b' ρ' σ₁ _ hf hso hG mb (q.2 rfl) _ s₁ R₁) (fun fl s₂ h₂ => ?_) fun _ _ x => x
      obtain ⟨fl', ρ₂, σ₂, R₂, g₂, hfl, q₂⟩ := h₂
      have gg := g'.trans (g₁.trans g₂)
      cases hfl with
      | next => obtain ⟨m', hm', hI₂⟩ := q₂; exact ⟨m', hm', ρ₂, σ₂, hI₂, R₂, gg⟩
      | cont => obtain ⟨m', hm', hI₂⟩ := q₂; exact ⟨m', hm', ρ₂, σ₂, hI₂, R₂, gg⟩
      | brk => exact ⟨.next, ρ₂, σ₂, R₂, gg, .next, q₂⟩
      | ret hv => exact ⟨.ret _, ρ₂, σ₂, R₂, gg, .ret hv, q₂⟩
  | .ret e, fix, f, st, ρ, σ, Q, hf, hso, hG, hm, h => by
    obtain ⟨v, p, rfl, me⟩ := mSx_ret hm
    simp only [wx_ret] at h
    intro E s R
    refine wpAny_Return_some (wpAny_mono (ev_sound K hA e fix f v ρ σ _ hf hG me h E s R) (fun va s₁ h₁ => ?_) fun _ _ x => x)
    obtain ⟨d, σ₁, R₁, g₁, i₁, h₁⟩ := h₁
    exact ⟨.ret d, ρ, σ₁, R₁, g₁, .ret i₁, h₁⟩
  | .cont, fix, f, st, ρ, σ, Q, hf, hso, hG, hm, h => by
    obtain ⟨p, rfl⟩ := mSx_cont hm
    intro E s R
    exact wpAny_bind (wpAny_standAt (wpAny_pure ⟨.cont, ρ, σ, R, .refl _, .cont, h⟩))
  | .expr e, fix, f, st, ρ, σ, Q, hf, hso, hG, hm, h => by
    obtain ⟨v, p, rfl, me, hnc⟩ := mSx_expr hm
    simp only [wx_expr] at h
    intro E s R
    have hno := mEx_noSetComp me
    rw [exec_Expr f.env v p (by unfold interactive; rw [hf.kind]; rfl) (swaps_no hnc hno.1 hno.2)]
    refine wpAny_bind (wpAny_standAt (wpAny_bind (wpAny_mono (ev_sound K hA e fix f v ρ σ _ hf hG me h E s R) (fun va s₁ h₁ => ?_) fun _ _ x => x)))
    obtain ⟨d, σ₁, R₁, g₁, i₁, h₁⟩ := h₁
    exact dropValue_sound ⟨.next, ρ, σ₁, R₁, g₁, .next, h₁⟩
  | .raise _ _, fix, f, st, ρ, σ, Q, hf, hso, hG, hm, h => by exact h.elim
theorem exs_sound {C : Cx} {k : Kx} {A : Around} {G : Fix} (K : KOk C k A G) (hA : Room A) : ∀ (xs : List Sx) (fix : Fix) (f : Fr) (sts : List Stmt) (ρ : Loc) (σ : Sto) (Q : PostS), FrOk f → StOk f → (∀ a o, G a o → fix a o) → mSxs xs f.env.scope sts = true → exsW k (fun _ _ => False) xs ρ σ Q →
    AWx C A fix f (execs sts f.env) ρ σ Q
  | [], fix, f, sts, ρ, σ, Q, hf, hso, hG, hm, h => by
    cases sts with
    | cons => exact absurd hm Bool.false_ne_true
    | nil => intro E s R; exact wpAny_execs_nil ⟨.next, ρ, σ, R, .refl _, .next, h⟩
  | x :: xs, fix, f, sts, ρ, σ, Q, hf, hso, hG, hm, h => by
    cases sts with
    | nil => exact absurd hm Bool.false_ne_true
    | cons st sts =>
      replace hm := an hm
      replace h : exW k (fun _ _ => False) x ρ σ (fun fl ρ₁ σ₁ => match fl with | .next => exsW k (fun _ _ => False) xs ρ₁ σ₁ Q | fl => Q fl ρ₁ σ₁) := h
      intro E s R
      refine wpAny_execs_cons (wpAny_mono (ex_sound K hA x fix f st ρ σ _ hf hso hG hm.1 h E s R) (fun fl s₁ h₁ => ?_) fun _ _ x => x)
      obtain ⟨fl', ρ₁, σ₁, R₁, g₁, hfl, q⟩ := h₁
      cases hfl with
      | next => exact wpAny_mono (exs_sound K hA xs fix f sts ρ₁ σ₁ Q hf hso hG hm.2 q E s₁ R₁) (fun v s₃ h₃ => h₃.grow g₁) fun _ _ x => x
      | cont => exact ⟨.cont, ρ₁, σ₁, R₁, g₁, .cont, q⟩
      | brk => exact ⟨.brk, ρ₁, σ₁, R₁, g₁, .brk, q⟩
      | ret hv => exact ⟨.ret _, ρ₁, σ₁, R₁, g₁, .ret hv, q⟩
end
end
end Mine

/-! LM9 -/
open PySem
set_option Elab.async false
set_option autoImplicit false
set_option linter.unusedVariables false
namespace Mine
noncomputable section

structure RoomN (n : Nat) (A : Around) : Prop where
  handled : A.handled = none
  units : A.units + 60 + 10 * n < cLine
  depth : A.depth + n < recursionLimit
theorem RoomN.room {n : Nat} {A : Around} (h : RoomN n A) : Room A := ⟨h.handled, by have := h.units; omega⟩
theorem RoomN.deeper {n : Nat} {A : Around} (h : RoomN (n + 1) A) (env : Env) : RoomN n (A.deeper env) :=
  ⟨h.handled, by have := h.units; show A.units + 3 + 60 + 10 * n < cLine; omega, by have := h.depth; show A.depth + 1 + n < recursionLimit; omega⟩

def SemCall (C : Cx) (G : Fix) (n : Nat) (a : Addr) (ds : List D) (σ : Sto) (Q : PostE) : Prop :=
  ∀ A, RoomN n A → ∀ fix E s vs, (∀ a o, G a o → fix a o) → RelB C fix σ s → IsAll s.heap ds vs → wpAny (model C.prog C.w) A (call (.ref a) vs) (PVB C fix s.heap Q) E s

/-- what the head tells -/
structure Gx where
  C : Cx
  G : Fix
  addr : String → Option Addr
  glob : String → Option D

def Gx.kx (g : Gx) (n : Nat) : Kx := ⟨g.addr, fun f ds σ Q => ∀ a, g.addr f = some a → SemCall g.C g.G n a ds σ Q, g.glob⟩

structure GOk (g : Gx) : Prop where
  glob : ∀ x d, g.glob x = some d → ∀ h : Heap, Keeps g.G h → ∃ v, GlobIs h x v ∧ Is h d v
  blt : ∀ x v, bltOf x = some v → ∀ h, Keeps g.G h → GlobIs h x v
  addr : ∀ f a, g.addr f = some a → (∀ h, Keeps g.G h → GlobIs h f (.ref a)) ∧ ∃ o fd, g.G a o ∧ o.data = .func fd
  sysm : ∃ o, g.G sysModules o
  nolim : ∀ h, Keeps g.G h → h.NoLimit
theorem GOk.kok {g : Gx} (O : GOk g) {n : Nat} {A : Around} (h : RoomN n A) : KOk g.C (g.kx n) A g.G where
  glob := O.glob
  blt := O.blt
  addr := O.addr
  call := fun f a ds σ Q ha hc fix E s vs hG B hd => hc a ha A h fix E s vs hG B hd
  sysm := O.sysm

/-- a def of the text -/
structure FnOk (g : Gx) (a : Addr) (ps : List String) (xs : List Sx) : Prop where
  ok : ∃ o fd body, g.G a o ∧ o.data = .func fd ∧ fd.body = .stmts body ∧ fd.closure = [] ∧ fd.globals = mainGlobals ∧ fd.builtins = builtinsNs ∧ fd.scope.kind = .function ∧ fd.scope.isCoroutine = false ∧ fd.scope.isGenerator = false ∧
    (∀ vs : List Value, vs.length = ps.length → bindArgs fd ⟨vs, []⟩ = pure ((ps.map Str.ofString).zip vs)) ∧
    (∀ p ∈ ps, fd.scope.names.lookup (Str.ofString p) = some .local ∨ fd.scope.names.lookup (Str.ofString p) = some .cell) ∧ (∀ x ∈ fd.scope.names, x.2 ≠ .free) ∧
    (fd.scope.names.map (·.1)).Nodup ∧ mSxs xs fd.scope body = true ∧ ∀ h, Keeps g.G h → h.CodeRec fd.code fd.qualname

theorem cellsFrom_has {x : Str} : ∀ (names : List (Str × NameKind)) (n : Nat) (acc : List (Str × Addr)), names.lookup x = some .cell ∨ (acc.lookup x).isSome = true → ((cellsFrom n names acc).lookup x).isSome = true
  | [], _, _, h => h.elim (fun e => by cases e) id
  | (y, k) :: r, n, acc, h => by
    unfold cellsFrom
    by_cases hk : (k == .cell) = true
    · rw [if_pos hk]
      refine cellsFrom_has r (n + 1) ((y, n) :: acc) ?_
      by_cases hy : (x == y) = true
      · exact .inr (by rw [List.lookup_cons, hy]; rfl)
      · have hy : (x == y) = false := by simpa using hy
        refine h.imp (fun e => ?_) fun e => ?_
        · rw [List.lookup_cons, hy] at e; exact e
        · rw [List.lookup_cons, hy]; exact e
    · rw [if_neg hk]
      refine cellsFrom_has r n acc ?_
      by_cases hy : (x == y) = true
      · refine .inr (h.elim (fun e => ?_) id)
        rw [List.lookup_cons, hy] at e
        exact absurd (by rw [Option.some.inj e]; rfl) hk
      · have hy : (x == y) = false := by simpa using hy
        refine h.imp (fun e => ?_) id
        rw [List.lookup_cons, hy] at e; exact e

theorem cellsFrom_mem : ∀ (names : List (Str × NameKind)) (n : Nat) (acc : List (Str × Addr)), (names.map (·.1)).Nodup → (∀ x, x ∈ names.map (·.1) → x ∉ acc.map (·.1)) → (∀ x c, (x, c) ∈ acc → acc.lookup x = some c) →
    ∀ x c, (x, c) ∈ cellsFrom n names acc → (cellsFrom n names acc).lookup x = some c
  | [], _, _, _, _, h => h
  | (y, k) :: r, n, acc, hn, hd, h => by
    rw [List.map_cons, List.nodup_cons] at hn
    unfold cellsFrom
    split
    · refine cellsFrom_mem r (n + 1) ((y, n) :: acc) hn.2 (fun x hx => ?_) fun x c hm => ?_
      · simp only [List.map_cons, List.mem_cons, not_or]
        exact ⟨fun e => hn.1 (e ▸ hx), hd x (List.mem_cons_of_mem _ hx)⟩
      · rcases List.mem_cons.mp hm with q | q
        · cases q; simp
        · rw [List.lookup_cons]
          have : (x == y) = false := by
            rw [beq_eq_false_iff_ne]
            rintro rfl
            exact hd x (by simp) (List.mem_map.mpr ⟨(x, c), q, rfl⟩)
          rw [this]; exact h x c q
    · exact cellsFrom_mem r n acc hn.2 (fun x hx => hd x (List.mem_cons_of_mem _ hx)) h

theorem binds_are {h : Heap} {kindOf : Str → Option NameKind} : ∀ (ps : List String) (ds : List D) (vs : List Value) (ρ : Loc) (m cm : Str → Option Value), IsAll h ds vs →
    (∀ x d, ρ x = some d → (kindOf (Str.ofString x) = some .local → ∃ v, m (Str.ofString x) = some v ∧ Is h d v) ∧ (kindOf (Str.ofString x) = some .cell → ∃ v, cm (Str.ofString x) = some v ∧ Is h d v)) →
    ∀ x d, (ρ.sets ps ds) x = some d → (kindOf (Str.ofString x) = some .local → ∃ v, bindL kindOf ((ps.map Str.ofString).zip vs) m (Str.ofString x) = some v ∧ Is h d v) ∧
      (kindOf (Str.ofString x) = some .cell → ∃ v, bindC kindOf ((ps.map Str.ofString).zip vs) cm (Str.ofString x) = some v ∧ Is h d v)
  | [], ds, vs, ρ, m, cm, hd, hi => by
    intro x d e
    have e' : ρ x = some d := by cases ds <;> exact e
    exact hi x d e'
  | p :: ps, [], vs, ρ, m, cm, hd, hi => by
    cases hd
    intro x d e
    exact hi x d e
  | p :: ps, d₀ :: ds, vs, ρ, m, cm, hd, hi => by
    cases hd with
    | cons hv hd =>
      rename_i v vs
      refine binds_are ps ds vs (ρ.set p d₀) _ _ hd fun x d e => ⟨fun k => ?_, fun k => ?_⟩
      · unfold Loc.set at e
        split at e
        · rename_i hx; subst hx; cases e
          rw [if_pos k]; exact ⟨v, by simp, hv⟩
        · rename_i hx
          obtain ⟨u, e1, e2⟩ := (hi x d e).1 k
          refine ⟨u, ?_, e2⟩
          split
          · exact (if_neg (fun q => hx (ofString_inj q))).trans e1
          · exact e1
      · unfold Loc.set at e
        split at e
        · rename_i hx; subst hx; cases e
          rw [if_neg (by rw [k]; decide)]; exact ⟨v, by simp, hv⟩
        · rename_i hx
          obtain ⟨u, e1, e2⟩ := (hi x d e).2 k
          refine ⟨u, ?_, e2⟩
          split
          · exact e1
          · exact (if_neg (fun q => hx (ofString_inj q))).trans e1

theorem fn_sound {g : Gx} (O : GOk g) {n : Nat} {a : Addr} {ps : List String} {xs : List Sx} (F : FnOk g a ps xs) {ds : List D} {σ : Sto} {Q : PostE} (hl : ds.length = ps.length)
    (h : exsW (g.kx n) (fun _ _ => False) xs (Loc.nil.sets ps ds) σ (retW Q)) : SemCall g.C g.G (n + 1) a ds σ Q := by
  intro A hA fix E s vs hG B hd
  obtain ⟨o, fd, body, hGo, hdata, hbody, hclo, hglo, hblt, hkind, hco, hgen, hbind, hparam, hfree, hnd, hm, hcd⟩ := F.ok
  have hkeep : Keeps g.G s.heap := fun a o q => B.fixed a o (hG a o q)
  have hvl : vs.length = ps.length := by rw [← hd.length, hl]
  refine wpAny_call (codeAny_call_cells (by have := hA.depth; omega) (hkeep a o hGo) hdata (O.nolim _ hkeep) (hcd _ hkeep) hbody (hbind vs hvl) hclo (fun x hx => ?_) (fun s₁ X => ?_) hco hgen hkind)
  · have hx1 : x.1 ∈ ps.map Str.ofString := by
      obtain ⟨x1, x2⟩ := x
      exact (List.of_mem_zip hx).1
    obtain ⟨p, hp, e⟩ := List.mem_map.mp hx1
    rw [← e]
    rcases hparam p hp with q | q
    · exact .inl q
    · exact .inr ⟨q, cellsFrom_has _ _ _ (.inl q)⟩
  · have sh : ∃ h tk, s₁ = { s with heap := h, toks := tk } := X.toInCall.same
    have hL : (callEnvC fd s.heap.objs.size a).locals = s.heap.objs.size := rfl
    have fresh : ∀ b, s.heap.objs.size ≤ b → s.heap.get? b = none := fun b hb => by
      cases e : s.heap.get? b with
      | none => rfl
      | some o' => exact absurd (Heap.lt_size e) (Nat.not_lt.mpr hb)
    have hown : ∀ b, b ∈ s.heap.objs.size :: (callEnvC fd s.heap.objs.size a).cells.map (·.2) → s.heap.objs.size ≤ b := fun b hb => by
      rcases List.mem_cons.mp hb with rfl | hb
      · exact Nat.le_refl _
      · obtain ⟨⟨x, c⟩, hx, rfl⟩ := List.mem_map.mp hb
        exact Nat.le_of_lt (X.above x c hx)
    have gr : Grow s.heap s₁.heap := .of_keeps X.toInCall.keep
    have RF : Rel g.C fix ⟨callEnvC fd s.heap.objs.size a, s.heap.objs.size :: (callEnvC fd s.heap.objs.size a).cells.map (·.2)⟩ (Loc.nil.sets ps ds) σ s₁ := {
      fixed := fun b p q => X.toInCall.keep b p (B.fixed b p q)
      loc := by
        refine ⟨_, X.toInCall.ns, fun x d e h0 => ?_⟩
        have key := binds_are (h := s₁.heap) (kindOf := (callEnvC fd s.heap.objs.size a).kindOf) ps ds vs Loc.nil (fun _ => none) (fun _ => none) (hd.grow gr) (fun x d e => by cases e) x d e
        refine ⟨key.1, fun k => ?_⟩
        rcases k with k | k
        · obtain ⟨v, e1, e2⟩ := key.2 k
          obtain ⟨c, hc⟩ := Option.isSome_iff_exists.mp (cellsFrom_has fd.scope.names (s.heap.objs.size + 1) [] (.inl k))
          have hcl := X.cell _ c hc
          rw [e1] at hcl
          exact ⟨c, v, hc, hcl, e2⟩
        · exact absurd rfl (hfree _ (mem_of_lookup k))
      locOwn := by simp [hL]
      cells := fun x hx => by
        obtain ⟨c, hc⟩ := Option.isSome_iff_exists.mp (cellsFrom_has fd.scope.names (s.heap.objs.size + 1) [] (.inl hx))
        exact ⟨c, _, hc, X.cell _ c hc⟩
      frees := fun x hx => absurd rfl (hfree _ (mem_of_lookup hx))
      cellsFix := fun x c hx => ⟨Nat.ne_of_gt (X.above x c hx), .inl (List.mem_cons_of_mem _ (List.mem_map.mpr ⟨(x, c), hx, rfl⟩))⟩
      cellsApart := fun x y c h1 h2 => name_of_addr X.apart (mem_of_lookup h1) (mem_of_lookup h2)
      sto := fun b c e => (B.sto b c e).grow gr fun o q => X.toInCall.keep b o q
      apart := fun b c e => ⟨fun hb => by
          obtain ⟨p, hp, _⟩ := (B.sto b c e).obj
          rw [fresh b (hown b hb)] at hp; exact absurd hp (by simp), B.apart b c e⟩
      ownFix := fun b hb p q => by
        have := B.fixed b p q
        rw [fresh b (hown b hb)] at this; cases this
      ownObj := fun b hb => by
        rcases List.mem_cons.mp hb with rfl | hb
        · obtain ⟨p, es, ep, hp, hdt, _⟩ := X.toInCall.ns
          exact ⟨p, hp, by simp [frozen, hdt]⟩
        · obtain ⟨⟨x, c⟩, hx, rfl⟩ := List.mem_map.mp hb
          obtain ⟨p, hp, hdt⟩ := X.cell x c (cellsFrom_mem fd.scope.names _ [] hnd (fun _ _ h => by cases h) (fun _ _ h => by cases h) x c hx)
          exact ⟨p, hp, by simp [frozen, hdt]⟩
      gens := by obtain ⟨h', tk, e⟩ := sh; rw [e]; exact B.gens
      os := by obtain ⟨h', tk, e⟩ := sh; rw [e]; exact B.os }
    have hA' := hA.deeper (callEnvC fd s.heap.objs.size a)
    have hf : FrOk ⟨callEnvC fd s.heap.objs.size a, s.heap.objs.size :: (callEnvC fd s.heap.objs.size a).cells.map (·.2)⟩ := ⟨hkind, hglo, hblt⟩
    have hso : StOk ⟨callEnvC fd s.heap.objs.size a, s.heap.objs.size :: (callEnvC fd s.heap.objs.size a).cells.map (·.2)⟩ := fun x c _ hc => List.mem_cons_of_mem _ (List.mem_map.mpr ⟨(x, c), mem_of_lookup hc, rfl⟩)
    refine wpAny_mono (exs_sound (O.kok hA') hA'.room xs fix ⟨callEnvC fd s.heap.objs.size a, s.heap.objs.size :: (callEnvC fd s.heap.objs.size a).cells.map (·.2)⟩ body _ σ _ hf hso hG hm h _ s₁ RF) (fun fl s' h' => ?_) fun _ _ x => x
    obtain ⟨fl', ρ', σ', R', g', hfl, q⟩ := h'
    have B' : RelB g.C fix σ' s' := ⟨R'.fixed, R'.sto, fun b c e o => (R'.apart b c e).2 o, R'.gens, R'.os⟩
    cases hfl with
    | next => exact ⟨.none, σ', B', gr.trans g', .none, q⟩
    | cont => exact q.elim
    | brk => exact q.elim
    | ret hv => exact ⟨_, σ', B', gr.trans g', hv, q⟩
end
end Mine

/-! LM11 -/
open PySem PySem.W PySem.Calls
set_option Elab.async false
set_option autoImplicit false
set_option linter.unusedVariables false
namespace Mine
noncomputable section
theorem lookup_zip : ∀ {ns : List Str} {vs : List Value}, ns.Nodup → vs.length = ns.length → ∀ n ∈ ns, ((ns.zip vs).lookup n).isSome = true
  | [], _, _, _, n, h => by cases h
  | x :: ns, [], _, h, n, _ => by simp at h
  | x :: ns, v :: vs, hn, hl, n, h => by
    rw [List.zip_cons_cons, List.lookup_cons]
    by_cases e : n = x
    · subst e; simp
    · have : (n == x) = false := by simpa using e
      rw [this]
      exact lookup_zip (List.nodup_cons.mp hn).2 (by simpa using hl) n ((List.mem_cons.mp h).resolve_left e)
theorem filterMap_zip : ∀ {ns : List Str} {vs : List Value}, ns.Nodup → vs.length = ns.length → ns.filterMap (fun n => ((ns.zip vs).lookup n).map (n, ·)) = ns.zip vs
  | [], vs, _, h => by cases vs with | nil => rfl | cons => simp at h
  | x :: ns, [], _, h => by simp at h
  | x :: ns, v :: vs, hn, hl => by
    obtain ⟨h1, h2⟩ := List.nodup_cons.mp hn
    rw [List.filterMap_cons]
    simp only [List.zip_cons_cons, List.lookup_cons, beq_self_eq_true, Option.map_some]
    congr 1
    have e : ∀ l : List Str, (∀ n ∈ l, n ≠ x) → l.filterMap (fun n => (match n == x with | true => some v | false => (ns.zip vs).lookup n).map (n, ·)) = l.filterMap (fun n => ((ns.zip vs).lookup n).map (n, ·)) := by
      intro l
      induction l with
      | nil => intro _; rfl
      | cons y l ih =>
        intro h
        have : (y == x) = false := by rw [beq_eq_false_iff_ne]; exact h y List.mem_cons_self
        rw [List.filterMap_cons, List.filterMap_cons, this, ih fun n hn => h n (List.mem_cons_of_mem _ hn)]
    exact (e ns fun n hn q => h1 (q ▸ hn)).trans (filterMap_zip h2 (by simpa using hl))
theorem bind_plain {fd : FuncData} {vs : List Value} {ns : List Str} (h1 : fd.params.posonlyargs = []) (h2 : fd.params.args.map (·.arg) = ns) (h3 : fd.params.vararg = none) (h4 : fd.params.kwonlyargs = []) (h5 : fd.params.kwarg = none)
    (h6 : fd.defaults = .none) (hn : ns.Nodup) (hl : vs.length = ns.length) : bindArgs fd ⟨vs, []⟩ = pure (ns.zip vs) := by
  unfold bindArgs
  have hs : seqItems? Value.none = pure none := rfl
  have hm : ((ns.take (ns.length - 0)).filter fun n => ((ns.zip vs).lookup n).isNone) = [] := by
    rw [List.filter_eq_nil_iff]
    intro n h
    have := lookup_zip hn hl n (List.mem_of_mem_take h)
    simp [Option.isSome_iff_ne_none.mp this]
  simp only [h1, h2, h3, h4, h5, h6, List.map_nil, List.nil_append, hs, pure_bind, Option.getD_none, List.forIn_nil, List.append_nil, Option.isNone_none, Bool.and_true, hl, Nat.lt_irrefl, decide_false, Bool.false_eq_true, if_false, List.drop_nil, List.length_nil, Nat.sub_zero, gt_iff_lt]
  rw [Nat.sub_zero] at hm
  simp only [hm, List.isEmpty_nil, Bool.not_true, Bool.false_eq_true, if_false, List.drop_length, List.zip_nil_right, List.forIn_nil, pure_bind, filterMap_zip hn hl]

def gOf (h : Heap) (l : Addr) : Fix := fun a o => h.get? a = some o ∧ a ≠ l
def tyNames : List String := ["int", "bool", "str", "tuple", "list"]
def bltNames : List String := ["len", "isinstance", "range", "int", "tuple", "list", "dict", "min", "all", "sorted", "zip", "reversed", "bool", "str"]
def globOf (consts : List (String × Int)) (x : String) : Option D := match consts.lookup x with
  | some i => some (.int i)
  | none => if tyNames.contains x then some (.val (.type x)) else none
theorem blt_boot {x : String} {v : Value} (h : bltOf x = some v) : x ∈ bltNames ∧ bootBuiltins (Str.ofString x) = some v ∧ Str.ofString x ≠ "__name__" := by
  unfold bltOf at h
  split at h <;> first | contradiction | skip
  all_goals (cases h; exact ⟨by decide, by kernel_rfl, by decide +kernel⟩)
theorem ty_boot {x : String} (h : tyNames.contains x = true) : x ∈ bltNames ∧ bootBuiltins (Str.ofString x) = some (.type x) ∧ Str.ofString x ≠ "__name__" := by
  have : x = "int" ∨ x = "bool" ∨ x = "str" ∨ x = "tuple" ∨ x = "list" := by simpa [tyNames] using h
  rcases this with rfl | rfl | rfl | rfl | rfl
  all_goals exact ⟨by decide, by kernel_rfl, by decide +kernel⟩
theorem lookup_mem' {α : Type} {x : String} {y : α} : ∀ {l : List (String × α)}, l.lookup x = some y → (x, y) ∈ l
  | [], h => by cases h
  | (a, b) :: r, h => by
    rw [List.lookup_cons] at h
    by_cases e : x = a
    · subst e; simp at h; subst h; exact List.mem_cons_self
    · have : (x == a) = false := by simpa using e
      rw [this] at h
      exact List.mem_cons_of_mem _ (lookup_mem' h)
/-- what the head tells -/
structure HeadIs (q : Program) (loose : List Str) (mean : ExcName → Option Value) (h : Heap) (mg mb : Str → Option Value) (l : Addr) : Prop where
  T : PyProof.Rows.Top q loose mean mg mb h
  sys : ∃ o, h.get? sysModules = some o
  list : ∃ o vs n, h.get? l = some o ∧ o.data = .seq vs n
  lsys : l ≠ sysModules
/-- where a def stands -/
def addrOf (mg : Str → Option Value) (names : List String) (f : String) : Option Addr := if names.contains f then (match mg (Str.ofString f) with | some (.ref a) => some a | _ => none) else none
def defIn (q : Program) (f : String) : Option DefRec := (PyProof.Rows.recsOf q).find? fun d => d.name == Str.ofString f
def defsIn (q : Program) (names : List String) : Bool := names.all fun f => (defIn q f).isSome
def constsIn (q : Program) (consts : List (String × Int)) : Bool := consts.all fun p => match PyProof.Rows.valOf q (Str.ofString p.1) with
  | some (.int i) => i == p.2
  | _ => false
def bltsIn (q : Program) (loose : List Str) : Bool := bltNames.all fun x => !(startupNames.contains (Str.ofString x)) && !(loose.contains (Str.ofString x)) && !(((PyProof.Rows.recsOf q).map (·.name)).contains (Str.ofString x)) && !(((PyProof.Rows.litsOf q).map (·.1)).contains (Str.ofString x)) && !(((PyProof.Rows.clssOf q loose).map (·.name)).contains (Str.ofString x))
theorem defIn_mem {q : Program} {f : String} {d : DefRec} (h : defIn q f = some d) : d ∈ PyProof.Rows.recsOf q ∧ d.name = Str.ofString f := ⟨List.mem_of_find?_eq_some h, by have := List.find?_some h; exact eq_of_beq this⟩
section
variable {q : Program} {loose : List Str} {mean : ExcName → Option Value} {h : Heap} {mg mb : Str → Option Value} {l : Addr}
theorem HeadIs.nsNe (H : HeadIs q loose mean h mg mb l) {a : Addr} {m : Str → Option Value} (x : h.Ns a m) : a ≠ l := by
  obtain ⟨lo, lvs, ln, hl, hld⟩ := H.list
  obtain ⟨o, es, ep, ho, hd, _⟩ := x
  rintro rfl
  rw [hl] at ho; cases ho; rw [hld] at hd; cases hd
theorem HeadIs.nsK (H : HeadIs q loose mean h mg mb l) {a : Addr} {m : Str → Option Value} (x : h.Ns a m) (h' : Heap) (hk : Keeps (gOf h l) h') : h'.Ns a m := x.at' fun o e => hk a o ⟨e, H.nsNe x⟩
theorem HeadIs.fnAt (H : HeadIs q loose mean h mg mb l) {f : String} {d : DefRec} (hd : defIn q f = some d) : ∃ a o pm code doc, mg (Str.ofString f) = some (.ref a) ∧ gOf h l a o ∧ o.data = .func (docDef d.name d.params d.body d.scope pm code doc) ∧ ∀ h', Keeps (gOf h l) h' → h'.CodeRec code d.name := by
  obtain ⟨lo, lvs, ln, hl, hld⟩ := H.list
  obtain ⟨h1, h2⟩ := defIn_mem hd
  obtain ⟨a, o, pm, code, doc, e1, e2, e3, c, oc, vs, t, c1, c2, c3, c4⟩ := H.T.fn d h1
  rw [h2] at e1
  refine ⟨a, o, pm, code, doc, e1, ⟨e2, ?_⟩, e3, fun h' hk => ⟨c, oc, vs, t, c1, hk c oc ⟨c2, ?_⟩, c3, c4⟩⟩
  · rintro rfl; rw [hl] at e2; cases e2; rw [hld] at e3; cases e3
  · rintro rfl; rw [hl] at c2; cases c2; rw [hld] at c3; cases c3
theorem gok_of {C : Cx} {names : List String} {consts : List (String × Int)} (H : HeadIs q loose mean h mg mb l) (ha : defsIn q names = true) (hc : constsIn q consts = true) (hb : bltsIn q loose = true) :
    GOk ⟨C, gOf h l, addrOf mg names, globOf consts⟩ := by
  have bl : ∀ x v, x ∈ bltNames → bootBuiltins (Str.ofString x) = some v → Str.ofString x ≠ "__name__" → ∀ h' : Heap, Keeps (gOf h l) h' → GlobIs h' x v := by
    intro x v hx hv hne h' hk
    have := List.all_eq_true.mp hb x hx
    simp only [Bool.and_eq_true, Bool.not_eq_true', List.contains_eq_mem, decide_eq_false_iff_not] at this
    obtain ⟨⟨⟨⟨a1, a2⟩, a3⟩, a4⟩, a5⟩ := this
    exact ⟨mg, H.nsK H.T.g h' hk, .inr ⟨H.T.free _ a1 a2 a3 a4 a5, mb, H.nsK H.T.b h' hk, (H.T.builtins _ hne).trans hv⟩⟩
  refine ⟨?_, ?_, ?_, ?_, ?_⟩
  · intro x d hx h' hk
    simp only [globOf] at hx
    split at hx
    · rename_i i e
      cases hx
      have := List.all_eq_true.mp hc _ (lookup_mem' e)
      dsimp only at this
      split at this
      · rename_i j q
        cases eq_of_beq this
        obtain ⟨v, e1, e2⟩ := H.T.const _ _ q
        cases e2 h' with
        | int i t => exact ⟨_, ⟨mg, H.nsK H.T.g h' hk, .inl e1⟩, .int _ _⟩
      · cases this
    · split at hx
      · rename_i q
        cases hx
        obtain ⟨t1, t2, t3⟩ := ty_boot q
        exact ⟨.type x, bl x _ t1 t2 t3 h' hk, .val _⟩
      · cases hx
  · intro x v hx h' hk
    obtain ⟨t1, t2, t3⟩ := blt_boot hx
    exact bl x v t1 t2 t3 h' hk
  · intro f a hf
    simp only [addrOf] at hf
    split at hf
    · rename_i hn
      have := List.all_eq_true.mp ha f (by simpa using hn)
      obtain ⟨d, hd⟩ := Option.isSome_iff_exists.mp this
      obtain ⟨a', o, pm, code, doc, e1, e2, e3, e4⟩ := H.fnAt hd
      rw [e1] at hf; cases hf
      exact ⟨fun h' hk => ⟨mg, H.nsK H.T.g h' hk, .inl e1⟩, o, _, e2, e3⟩
    · cases hf
  · obtain ⟨o, ho⟩ := H.sys
    exact ⟨o, ho, H.lsys.symm⟩
  · intro h' hk
    obtain ⟨mc, hn, hm⟩ := H.T.nolimit
    exact ⟨mc, H.nsK hn h' hk, hm⟩
end
def nodupB : List Str → Bool
  | [] => true
  | x :: r => !r.contains x && nodupB r
theorem nodupB_ok : ∀ {l : List Str}, nodupB l = true → l.Nodup
  | [], _ => List.nodup_nil
  | x :: r, h => by
    simp only [nodupB, Bool.and_eq_true, Bool.not_eq_true'] at h
    rw [List.nodup_cons]
    refine ⟨fun q => ?_, nodupB_ok h.2⟩
    have : r.contains x = true := by simpa using q
    rw [h.1] at this
    cases this
def fnIs (q : Program) (f : String) (ps : List String) (xs : List Sx) : Bool :=
  match defIn q f with
  | some d => d.scope.kind == .function && !d.scope.isCoroutine && !d.scope.isGenerator &&
        d.params.posonlyargs.isEmpty && (d.params.args.map (·.arg) == ps.map Str.ofString) && d.params.vararg.isNone && d.params.kwonlyargs.isEmpty && d.params.kwarg.isNone &&
        nodupB (ps.map Str.ofString) && (ps.all fun p => d.scope.names.lookup (Str.ofString p) == some .local || d.scope.names.lookup (Str.ofString p) == some .cell) && (d.scope.names.all fun x => x.2 != .free) &&
        nodupB (d.scope.names.map (·.1)) && mSxs xs d.scope d.body
  | none => false
theorem fnok_of {q : Program} {loose : List Str} {mean : ExcName → Option Value} {h : Heap} {mg mb : Str → Option Value} {l : Addr} {C : Cx} {names : List String} {glob : String → Option D} {f : String} {ps : List String} {xs : List Sx} (H : HeadIs q loose mean h mg mb l)
    (hn : names.contains f = true) (e : fnIs q f ps xs = true) : ∃ a, addrOf mg names f = some a ∧ FnOk ⟨C, gOf h l, addrOf mg names, glob⟩ a ps xs := by
  unfold fnIs at e
  split at e
  · rename_i d hd
    obtain ⟨a, o, pm, code, doc, e1, e2, e3, e4⟩ := H.fnAt hd
    refine ⟨a, by unfold addrOf; rw [if_pos hn, e1], ?_⟩
    simp only [Bool.and_eq_true, Bool.not_eq_true', beq_iff_eq, List.isEmpty_iff, Option.isNone_iff_eq_none, List.all_eq_true, Bool.or_eq_true, bne_iff_ne, ne_eq] at e
    obtain ⟨⟨⟨⟨⟨⟨⟨⟨⟨⟨⟨⟨e1', e2'⟩, e3'⟩, e4'⟩, e5'⟩, e6'⟩, e7'⟩, e8'⟩, e9'⟩, e10'⟩, e11'⟩, e12'⟩, e13'⟩ := e
    exact ⟨o, _, d.body, e2, e3, rfl, rfl, rfl, rfl, e1', e2', e3', fun vs hv => bind_plain e4' e5' e6' e7' e8' rfl (nodupB_ok e9') (by simpa using hv), fun p hp => e10' p hp, fun x hx => e11' x hx, nodupB_ok e12', e13', fun h' hk => e4 h' hk⟩
  · cases e

/-- the script, only read -/
def σ₀ (l : Addr) (o : Obj) (ns : List Int) : Sto := fun a => if a = l then some (.rl o (ns.map D.int)) else none
theorem ints_isAll {h : Heap} : ∀ {vs : List Value} {ns : List Int}, PyProof.Rows.IntsAre vs ns → IsAll h (ns.map D.int) vs
  | _, _, .nil => .nil
  | _, _, .cons n t r => .cons (.int n t) (ints_isAll r)
theorem law_runs {C : Cx} {s₁ : Shared} {l fa : Addr} {n : Nat} {vs : List Value} {ns : List Int} {A : Around} {E : Value → Shared → Prop} {lo : Obj} (hA : RoomN n A) (hl : s₁.heap.get? l = some lo) (hc : lo.cls = .type "list") {m : Nat} (hd : lo.data = .seq vs.toArray m)
    (hi : PyProof.Rows.IntsAre vs ns) (hg : s₁.gens = #[]) (hos : C.os = s₁.os)
    (S : SemCall C (gOf s₁.heap l) n fa [.ref l] (σ₀ l lo ns) fun d σ' => d = .bool true ∧ σ' l = some (.rl lo (ns.map D.int))) :
    wpAny (model C.prog C.w) A (call (.ref fa) [.ref l]) (fun v s' => v = .bool true ∧ (∀ b o, s₁.heap.get? b = some o → s'.heap.get? b = some o) ∧ s'.os = s₁.os ∧ s'.gens = #[]) E s₁ := by
  refine wpAny_mono (S A hA (gOf s₁.heap l) E s₁ [.ref l] (fun _ _ h => h) ⟨fun a o h => h.1, fun a c e => ?_, fun a c e o h => ?_, hg, hos.symm⟩ (.cons (.ref l) .nil)) (fun v s' h => ?_) fun _ _ x => x
  · unfold σ₀ at e
    split at e
    · rename_i q; subst q; cases e; exact ⟨hl, hc, vs, m, hd, ints_isAll hi⟩
    · cases e
  · unfold σ₀ at e
    split at e
    · rename_i q; exact h.2 q
    · cases e
  · obtain ⟨d, σ', B, g, i, rfl, hl'⟩ := h
    cases i
    refine ⟨rfl, fun b o e => ?_, B.os.trans hos, B.gens⟩
    by_cases q : b = l
    · subst q
      rw [hl] at e; cases e
      exact (B.sto _ _ hl').1
    · exact B.fixed b o ⟨e, q⟩
end
end Mine

/-! LP0 -/
set_option autoImplicit false
set_option linter.unusedVariables false
set_option linter.unusedSimpArgs false
namespace Mine
noncomputable section
/-! trains on one lane, plain -/
inductive Spot where
  | out
  | lane (p : Nat)
  | side (p : Nat)
  deriving DecidableEq, Inhabited
def Spot.fits (L : Nat) : Spot → Prop
  | .out => True
  | .lane p => p < L
  | .side p => p < L
inductive Word where
  | go
  | on
  | aside
  deriving DecidableEq, Inhabited
abbrev Move := Word × Nat
/-- the spot ahead; a way is true where it goes right -/
def ahead (L : Nat) (way : Bool) (p : Nat) : Spot := if way then (if p + 1 < L then .lane (p + 1) else .out) else (if p = 0 then .out else .lane (p - 1))
def clear (st : List Spot) (s : Spot) : Bool := s == .out || !st.contains s
def movesOf (lane : List Nat) (ways : List Bool) (st : List Spot) (t : Nat) : List Move := match st.getD t .out with
  | .out => []
  | .side p => if clear st (ahead lane.length (ways.getD t true) p) then [(.on, t)] else []
  | .lane p => (if clear st (ahead lane.length (ways.getD t true) p) then [(.go, t)] else []) ++ (if st.count (.side p) < lane.getD p 0 then [(.aside, t)] else [])
def allMoves (lane : List Nat) (ways : List Bool) (st : List Spot) : List Move := (List.range ways.length).flatMap (movesOf lane ways st)
def Spot.place : Spot → Nat
  | .out => 0
  | .lane p => p
  | .side p => p
def goalOf (lane : List Nat) (ways : List Bool) (st : List Spot) (m : Move) : Spot := match m.1 with
  | .aside => .side (st.getD m.2 .out).place
  | _ => ahead lane.length (ways.getD m.2 true) (st.getD m.2 .out).place
def afterOf (lane : List Nat) (ways : List Bool) (st : List Spot) (m : Move) : List Spot := st.set m.2 (goalOf lane ways st m)

structure GoodL (lane : List Nat) : Prop where
  l1 : 1 ≤ lane.length
  l8 : lane.length ≤ 8
  h4 : ∀ p (h : p < lane.length), lane[p] ≤ 4
structure Good (lane : List Nat) (ways : List Bool) (st : List Spot) : Prop extends GoodL lane where
  w1 : 1 ≤ ways.length
  w6 : ways.length ≤ 6
  len : st.length = ways.length
  fits : ∀ s ∈ st, s.fits lane.length
  one : ∀ p, p < lane.length → st.count (.lane p) ≤ 1
  most : ∀ p, p < lane.length → st.count (.side p) ≤ lane.getD p 0

theorem ahead_fits {L : Nat} {w : Bool} {p : Nat} (h : p < L) : (ahead L w p).fits L := by
  unfold ahead
  cases w <;> simp only [Bool.false_eq_true, if_false, if_true] <;> split <;> simp [Spot.fits] <;> omega
theorem ahead_side {L : Nat} {w : Bool} {p q : Nat} : ahead L w p ≠ .side q := by
  unfold ahead
  cases w <;> simp only [Bool.false_eq_true, if_false, if_true] <;> split <;> simp

theorem count_set {α : Type} [DecidableEq α] : ∀ (xs : List α) (t : Nat) (x y : α), t < xs.length → (xs.set t x).count y + (if xs[t]? = some y then 1 else 0) = xs.count y + (if x = y then 1 else 0)
  | [], _, _, _, h => by simp at h
  | a :: xs, 0, x, y, _ => by
    simp only [List.set_cons_zero, List.count_cons, List.getElem?_cons_zero, Option.some.injEq, beq_iff_eq]
    omega
  | a :: xs, t + 1, x, y, h => by
    simp only [List.set_cons_succ, List.count_cons, List.getElem?_cons_succ]
    have := count_set xs t x y (by simpa using h)
    omega

theorem mem_moves {lane : List Nat} {ways : List Bool} {st : List Spot} {m : Move} (h : m ∈ allMoves lane ways st) : m.2 < ways.length ∧ m ∈ movesOf lane ways st m.2 := by
  obtain ⟨t, ht, hm⟩ := List.mem_flatMap.mp h
  have : m.2 = t := by
    unfold movesOf at hm
    split at hm
    · cases hm
    · split at hm
      · simp at hm; rw [hm]
      · cases hm
    · rcases List.mem_append.mp hm with q | q
      · split at q
        · simp at q; rw [q]
        · cases q
      · split at q
        · simp at q; rw [q]
        · cases q
  rw [this]
  exact ⟨List.mem_range.mp ht, hm⟩

/-- what a move is -/
inductive IsMove (lane : List Nat) (ways : List Bool) (st : List Spot) : Move → Prop
  | on {t p : Nat} : st[t]? = some (.side p) → clear st (ahead lane.length (ways.getD t true) p) = true → IsMove lane ways st (.on, t)
  | go {t p : Nat} : st[t]? = some (.lane p) → clear st (ahead lane.length (ways.getD t true) p) = true → IsMove lane ways st (.go, t)
  | aside {t p : Nat} : st[t]? = some (.lane p) → st.count (.side p) < lane.getD p 0 → IsMove lane ways st (.aside, t)

theorem getD_some {α : Type} {xs : List α} {t : Nat} {d x : α} (h : xs[t]? = some x) : xs.getD t d = x := by
  rw [List.getD_eq_getElem?_getD, h]; rfl
theorem getD_at {α : Type} {xs : List α} {t : Nat} {d : α} (h : t < xs.length) : xs[t]? = some (xs.getD t d) := by
  rw [List.getD_eq_getElem?_getD, List.getElem?_eq_getElem h]; rfl

theorem isMove {lane : List Nat} {ways : List Bool} {st : List Spot} {m : Move} (hl : st.length = ways.length) (h : m ∈ allMoves lane ways st) : m.2 < ways.length ∧ IsMove lane ways st m := by
  obtain ⟨ht, hm⟩ := mem_moves h
  refine ⟨ht, ?_⟩
  obtain ⟨w, t⟩ := m
  simp only at ht hm
  have hg := getD_at (xs := st) (d := .out) (by omega : t < st.length)
  unfold movesOf at hm
  split at hm
  · cases hm
  · rename_i p e
    rw [e] at hg
    split at hm
    · rename_i q
      simp at hm; subst hm
      exact .on hg q
    · cases hm
  · rename_i p e
    rw [e] at hg
    rcases List.mem_append.mp hm with q | q
    · split at q
      · rename_i r; simp at q; subst q; exact .go hg r
      · cases q
    · split at q
      · rename_i r; simp at q; subst q; exact .aside hg r
      · cases q
theorem isMove_mem {lane : List Nat} {ways : List Bool} {st : List Spot} {m : Move} (ht : m.2 < ways.length) (h : IsMove lane ways st m) : m ∈ allMoves lane ways st := by
  unfold allMoves
  rw [List.mem_flatMap]
  refine ⟨m.2, List.mem_range.mpr ht, ?_⟩
  cases h with
  | on e q => simp only [movesOf, getD_some e, q, if_true]; simp
  | go e q => simp only [movesOf, getD_some e, q, if_true]; simp
  | aside e q => simp only [movesOf, getD_some e, q, if_true]; simp

theorem clear_iff {st : List Spot} {s : Spot} : clear st s = true ↔ s = .out ∨ s ∉ st := by
  unfold clear
  simp [List.contains_iff_mem]

theorem goal_fits {lane : List Nat} {ways : List Bool} {st : List Spot} {m : Move} (hf : ∀ s ∈ st, s.fits lane.length) (h : IsMove lane ways st m) : (goalOf lane ways st m).fits lane.length := by
  cases h with
  | on e q => simp only [goalOf, getD_some e]; exact ahead_fits (by simpa [Spot.fits, Spot.place] using hf _ (List.mem_of_getElem? e))
  | go e q => simp only [goalOf, getD_some e]; exact ahead_fits (by simpa [Spot.fits, Spot.place] using hf _ (List.mem_of_getElem? e))
  | aside e q => simp only [goalOf, getD_some e]; simpa [Spot.fits, Spot.place] using hf _ (List.mem_of_getElem? e)

theorem good_after {lane : List Nat} {ways : List Bool} {st : List Spot} {m : Move} (G : Good lane ways st) (h : m ∈ allMoves lane ways st) : Good lane ways (afterOf lane ways st m) := by
  obtain ⟨ht, hm⟩ := isMove G.len h
  have hts : m.2 < st.length := by rw [G.len]; exact ht
  have hgf := goal_fits G.fits hm
  refine { toGoodL := G.toGoodL, w1 := G.w1, w6 := G.w6, len := ?_, fits := ?_, one := ?_, most := ?_ }
  · simp [afterOf, G.len]
  · intro s hs
    rcases List.mem_or_eq_of_mem_set hs with q | q
    · exact G.fits s q
    · subst q; exact hgf
  · intro p hp
    have := count_set st m.2 (goalOf lane ways st m) (.lane p) hts
    have h1 := G.one p hp
    unfold afterOf
    by_cases e : goalOf lane ways st m = .lane p
    · have h0 : st.count (.lane p) = 0 := by
        rw [List.count_eq_zero]
        cases hm with
        | on e' q =>
          simp only [goalOf, getD_some e', Spot.place] at e
          rw [e] at q
          rcases clear_iff.mp q with q | q
          · cases q
          · exact q
        | go e' q =>
          simp only [goalOf, getD_some e', Spot.place] at e
          rw [e] at q
          rcases clear_iff.mp q with q | q
          · cases q
          · exact q
        | aside e' q => simp [goalOf] at e
      rw [if_pos e] at this
      split at this <;> omega
    · rw [if_neg e] at this
      split at this <;> omega
  · intro p hp
    have := count_set st m.2 (goalOf lane ways st m) (.side p) hts
    have h1 := G.most p hp
    unfold afterOf
    by_cases e : goalOf lane ways st m = .side p
    · have h0 : st.count (.side p) < lane.getD p 0 := by
        cases hm with
        | on e' q => exact absurd e ahead_side
        | go e' q => exact absurd e ahead_side
        | aside e' q =>
          simp only [goalOf, getD_some e', Spot.place, Spot.side.injEq] at e
          rw [← e]; exact q
      rw [if_pos e] at this
      split at this <;> omega
    · rw [if_neg e] at this
      split at this <;> omega

/-! what is left to go -/
def left1 (L : Nat) (way : Bool) : Spot → Nat
  | .out => 0
  | .lane p => if way then L - p else p + 1
  | .side p => if way then L - p else p + 1
def sumW (f : Bool → Spot → Nat) (ways : List Bool) (st : List Spot) : Nat := (List.zipWith f ways st).sum
def leftOf (L : Nat) (ways : List Bool) (st : List Spot) : Nat := sumW (left1 L) ways st
/-- what each move takes from -/
def pot1 (L : Nat) (way : Bool) : Spot → Nat
  | .out => 0
  | .lane p => 2 * left1 L way (.lane p)
  | .side p => 2 * left1 L way (.lane p) - 1
def pot (L : Nat) (ways : List Bool) (st : List Spot) : Nat := sumW (pot1 L) ways st
theorem left_ahead {L : Nat} {w : Bool} {p : Nat} (h : p < L) : left1 L w (ahead L w p) + 1 = left1 L w (.lane p) := by
  cases w
  · cases p with
    | zero => rfl
    | succ p => rfl
  · by_cases e : p + 1 < L
    · simp only [ahead, left1, e, if_true]; omega
    · simp only [ahead, left1, e, if_true, if_false]; omega
theorem pot_ahead {L : Nat} {w : Bool} {p : Nat} : pot1 L w (ahead L w p) ≤ 2 * left1 L w (ahead L w p) := by
  cases w
  · cases p with
    | zero => exact Nat.le_refl _
    | succ p => exact Nat.le_refl _
  · by_cases e : p + 1 < L
    · simp only [ahead, e, if_true]; exact Nat.le_refl _
    · simp only [ahead, e, if_true, if_false]; exact Nat.le_refl _
theorem sum_set {f : Bool → Spot → Nat} : ∀ (ways : List Bool) (st : List Spot) (t : Nat) (s s' : Spot) (w : Bool), ways[t]? = some w → st[t]? = some s → sumW f ways (st.set t s') + f w s = sumW f ways st + f w s'
  | [], _, _, _, _, _, h, _ => by cases h
  | _ :: _, [], _, _, _, _, _, h => by cases h
  | a :: ways, b :: st, 0, s, s', w, h, h' => by
    cases h; cases h'
    simp only [sumW, List.set_cons_zero, List.zipWith_cons_cons, List.sum_cons]
    omega
  | a :: ways, b :: st, t + 1, s, s', w, h, h' => by
    have := sum_set (f := f) ways st t s s' w h h'
    simp only [sumW, List.set_cons_succ, List.zipWith_cons_cons, List.sum_cons] at this ⊢
    omega
theorem sum_le {f : Bool → Spot → Nat} {B : Nat} : ∀ {ways : List Bool} {st : List Spot}, (∀ w, ∀ s ∈ st, f w s ≤ B) → sumW f ways st ≤ B * ways.length
  | [], _, _ => Nat.zero_le _
  | _ :: _, [], _ => Nat.zero_le _
  | w :: ways, s :: st, hf => by
    have ih := sum_le (f := f) (B := B) (ways := ways) (st := st) fun w s hs => hf w s (List.mem_cons_of_mem _ hs)
    have := hf w s List.mem_cons_self
    simp only [sumW, List.zipWith_cons_cons, List.sum_cons, List.length_cons, Nat.mul_succ] at ih ⊢
    omega
theorem way_at {ways : List Bool} {t : Nat} (h : t < ways.length) : ways[t]? = some (ways.getD t true) := getD_at h
/-- a sum behind a move -/
theorem sum_after {f : Bool → Spot → Nat} {lane : List Nat} {ways : List Bool} {st : List Spot} {m : Move} (G : Good lane ways st) (h : m ∈ allMoves lane ways st) :
    ∃ w p, p < lane.length ∧ ((m.1 = .aside ∧ sumW f ways (afterOf lane ways st m) + f w (.lane p) = sumW f ways st + f w (.side p)) ∨
      (m.1 ≠ .aside ∧ ∃ s, (s = .lane p ∨ s = .side p) ∧ sumW f ways (afterOf lane ways st m) + f w s = sumW f ways st + f w (ahead lane.length w p))) := by
  obtain ⟨ht, hm⟩ := isMove G.len h
  have hw := way_at ht
  cases hm with
  | @on t p e q =>
    have := sum_set (f := f) ways st t _ (goalOf lane ways st (.on, t)) _ hw e
    have hp : p < lane.length := by simpa [Spot.fits] using G.fits _ (List.mem_of_getElem? e)
    simp only [goalOf, getD_some e, Spot.place] at this
    refine ⟨ways.getD t true, p, hp, .inr ⟨by simp, _, .inr rfl, ?_⟩⟩
    simp only [afterOf, goalOf, getD_some e, Spot.place]; exact this
  | @go t p e q =>
    have := sum_set (f := f) ways st t _ (goalOf lane ways st (.go, t)) _ hw e
    have hp : p < lane.length := by simpa [Spot.fits] using G.fits _ (List.mem_of_getElem? e)
    simp only [goalOf, getD_some e, Spot.place] at this
    refine ⟨ways.getD t true, p, hp, .inr ⟨by simp, _, .inl rfl, ?_⟩⟩
    simp only [afterOf, goalOf, getD_some e, Spot.place]; exact this
  | @aside t p e q =>
    have := sum_set (f := f) ways st t _ (goalOf lane ways st (.aside, t)) _ hw e
    have hp : p < lane.length := by simpa [Spot.fits] using G.fits _ (List.mem_of_getElem? e)
    simp only [goalOf, getD_some e, Spot.place] at this
    refine ⟨ways.getD t true, p, hp, .inl ⟨rfl, ?_⟩⟩
    simp only [afterOf, goalOf, getD_some e, Spot.place]; exact this
theorem left_after {lane : List Nat} {ways : List Bool} {st : List Spot} {m : Move} (G : Good lane ways st) (h : m ∈ allMoves lane ways st) :
    leftOf lane.length ways (afterOf lane ways st m) + (if m.1 = .aside then 0 else 1) = leftOf lane.length ways st := by
  obtain ⟨w, p, hp, ⟨e, q⟩ | ⟨e, s, hs, q⟩⟩ := sum_after (f := left1 lane.length) G h
  · rw [if_pos e]; exact Nat.add_right_cancel q
  · rw [if_neg e]
    have h1 := left_ahead (w := w) hp
    have h2 : left1 lane.length w s = left1 lane.length w (.lane p) := by rcases hs with rfl | rfl <;> rfl
    unfold leftOf; rw [h2] at q; omega
theorem pot_after {lane : List Nat} {ways : List Bool} {st : List Spot} {m : Move} (G : Good lane ways st) (h : m ∈ allMoves lane ways st) :
    pot lane.length ways (afterOf lane ways st m) < pot lane.length ways st := by
  obtain ⟨w, p, hp, ⟨e, q⟩ | ⟨e, s, hs, q⟩⟩ := sum_after (f := pot1 lane.length) G h
  · have h1 := left_ahead (w := w) hp
    simp only [pot1] at q; unfold pot; omega
  · have h1 := left_ahead (w := w) hp
    have h2 := pot_ahead (L := lane.length) (w := w) (p := p)
    have h3 : 2 * left1 lane.length w (.lane p) - 1 ≤ pot1 lane.length w s := by rcases hs with rfl | rfl <;> simp only [pot1] <;> omega
    unfold pot; omega
theorem pot_le {lane : List Nat} {ways : List Bool} {st : List Spot} (G : Good lane ways st) : pot lane.length ways st ≤ 96 := by
  have := sum_le (f := pot1 lane.length) (B := 2 * 8) (ways := ways) (st := st) fun w s hs => by
    have hf := G.fits s hs
    have h8 := G.l8
    cases s <;> cases w <;> simp only [pot1, left1, Spot.fits, if_true, Bool.false_eq_true, if_false] at hf ⊢ <;> omega
  have h6 := G.w6
  unfold pot; omega

/-- none of the trains can move -/
theorem stuck_at {lane : List Nat} {ways : List Bool} {st : List Spot} (G : Good lane ways st) (h : allMoves lane ways st = []) {t p : Nat} (e : st[t]? = some (.lane p) ∨ st[t]? = some (.side p)) :
    (ahead lane.length (ways.getD t true) p ≠ .out ∧ ahead lane.length (ways.getD t true) p ∈ st) ∧ (st[t]? = some (.lane p) → lane.getD p 0 ≤ st.count (.side p)) := by
  have ht : t < ways.length := by
    rw [← G.len]
    rcases e with e | e <;> exact (List.getElem?_eq_some_iff.mp e).1
  have no : ∀ m, m.2 < ways.length → IsMove lane ways st m → False := fun m h1 h2 => by
    have := isMove_mem h1 h2
    rw [h] at this; cases this
  have hc : ¬ clear st (ahead lane.length (ways.getD t true) p) = true := by
    intro q
    rcases e with e | e
    · exact no (.go, t) ht (.go e q)
    · exact no (.on, t) ht (.on e q)
  rw [clear_iff] at hc
  refine ⟨⟨fun q => hc (.inl q), Decidable.of_not_not fun q => hc (.inr q)⟩, fun q => ?_⟩
  exact Nat.not_lt.mp fun r => no (.aside, t) ht (.aside q r)
/-- the sizes that are drawn -/
def Small (L T : Nat) : Prop := (L ≤ 4 ∧ T ≤ 3) ∨ (L ≤ 8 ∧ T ≤ 2) ∨ (L ≤ 3 ∧ T ≤ 6)
end
end Mine

/-! LV1 -/
open PySem
set_option Elab.async false
set_option autoImplicit false
set_option linter.unusedVariables false
set_option linter.unusedSimpArgs false
namespace Mine
noncomputable section
variable {k : Kx} {X : PostX} {ρ : Loc} {σ : Sto}
/-! the rules, one a kind, for simp; loops stay closed -/
def loopW (k : Kx) (X : PostX) (t : Tgt) (body : List Sx) (d : D) (ρ : Loc) (σ₁ : Sto) (Q : PostS) : Prop := ∃ xs, itemsD σ₁ d = some xs ∧ xs.length ≤ line ∧
      ∃ I : Nat → Loc → Sto → Prop, I 0 ρ σ₁ ∧
        (∀ i ρ' σ', I i ρ' σ' → i ≤ xs.length → stillD σ₁ σ' d ∧ ∀ x, xs[i]? = some x → assignW t x ρ' fun ρ₂ => exsW k X body ρ₂ σ' fun fl ρ₃ σ₃ =>
          match fl with
          | .next | .cont => I (i + 1) ρ₃ σ₃
          | .brk => Q .next ρ₃ σ₃
          | .ret d => Q (.ret d) ρ₃ σ₃) ∧
        ∀ ρ' σ', I xs.length ρ' σ' → Q .next ρ' σ'
def whileW (k : Kx) (X : PostX) (t : Ex) (body : List Sx) (ρ : Loc) (σ : Sto) (Q : PostS) : Prop := ∃ (I : Nat → Loc → Sto → Prop) (n : Nat), I n ρ σ ∧
      ∀ n ρ' σ', I n ρ' σ' → tW k t ρ' σ' fun c σ₂ => (c = false → Q .next ρ' σ₂) ∧ (c = true → exsW k X body ρ' σ₂ fun fl ρ₃ σ₃ =>
        match fl with
        | .next | .cont => ∃ m, m < n ∧ I m ρ₃ σ₃
        | .brk => Q .next ρ₃ σ₃
        | .ret d => Q (.ret d) ρ₃ σ₃)
def compW (k : Kx) (elt : Ex) (t : Tgt) (ifs : List Ex) (ρ : Loc) (d : D) (σ₁ : Sto) (Q : PostE) : Prop := ∃ xs, itemsD σ₁ d = some xs ∧ xs.length ≤ line ∧
      ∃ I : Nat → List D → Sto → Prop, I 0 [] σ₁ ∧
        (∀ i acc σ', I i acc σ' → i ≤ xs.length → stillD σ₁ σ' d ∧ ∀ x, xs[i]? = some x → assignW t x ρ fun ρ' =>
          condsW k ifs ρ' σ' fun c σ₂ => (c = true → evW k elt ρ' σ₂ fun v σ₃ => I (i + 1) (acc ++ [v]) σ₃) ∧ (c = false → I (i + 1) acc σ₂)) ∧
        ∀ acc σ', I xs.length acc σ' → newW (.list acc) σ' Q
/-- where a body goes on -/
def seqW (k : Kx) (X : PostX) (r : List Sx) (Q : PostS) : PostS := fun fl ρ₁ σ₁ => match fl with
    | .next => exsW k X r ρ₁ σ₁ Q
    | fl => Q fl ρ₁ σ₁
theorem ex_eq {α : Type} {o : Option α} {m : α} {P : α → Prop} (h : o = some m) : (∃ n, o = some n ∧ P n) = P m := propext ⟨fun ⟨n, e, q⟩ => by rw [h] at e; cases e; exact q, fun q => ⟨m, h, q⟩⟩
theorem and_eq {A B : Prop} (h : A) : (A ∧ B) = B := propext ⟨And.right, fun q => ⟨h, q⟩⟩
/-- a branch -/
def br (b : Bool) (A B : Prop) : Prop := (b = true → A) ∧ (b = false → B)
theorem br_true {A B : Prop} : br true A B = A := by simp [br]
theorem br_false {A B : Prop} : br false A B = B := by simp [br]
theorem br_not {b : Bool} {A B : Prop} : br (!b) A B = br b B A := by cases b <;> simp [br]
theorem br_pos {P : Prop} [Decidable P] {A B : Prop} (h : P) : br (decide P) A B = A := by simp [br, h]
theorem br_neg {P : Prop} [Decidable P] {A B : Prop} (h : ¬ P) : br (decide P) A B = B := by simp [br, h]
theorem br_of {b : Bool} {A B : Prop} (h : b = true → A) (h' : b = false → B) : br b A B := ⟨h, h'⟩
theorem br_dec {P : Prop} [Decidable P] {A B : Prop} (h : P → A) (h' : ¬ P → B) : br (decide P) A B := ⟨fun e => h (by simpa using e), fun e => h' (by simpa using e)⟩
/-- a reading -/
def rd (o : Option D) (F : D → Prop) : Prop := ∃ d, o = some d ∧ F d
theorem rd_of {o : Option D} {F : D → Prop} {d : D} (h : o = some d) : rd o F = F d := by subst h; simp [rd]
theorem rd_set {x y : String} {d : D} {F : D → Prop} : rd ((ρ.set x d) y) F = if y = x then F d else rd (ρ y) F := by
  unfold Loc.set; split
  · simp [rd]
  · rfl
/-- an item of a row -/
def rdi (ds : List D) (i : Int) (F : D → Prop) : Prop := ∃ d, 0 ≤ i ∧ i < 2 ^ 63 ∧ ds[i.toNat]? = some d ∧ F d
theorem rdi_0 {d : D} {ds : List D} {F : D → Prop} : rdi (d :: ds) 0 F = F d := by simp [rdi]
theorem rdi_1 {d e : D} {ds : List D} {F : D → Prop} : rdi (d :: e :: ds) 1 F = F e := by simp [rdi]
theorem rdi_of {ds : List D} {i : Nat} {d : D} {F : D → Prop} (h : ds[i]? = some d) (hi : i < 2 ^ 63) : rdi ds (i : Int) F = F d := by
  have : (i : Int) < 2 ^ 63 := by omega
  simp [rdi, h, this]; intro _; omega
theorem rdi_ofI {ds : List D} {i : Int} {d : D} {F : D → Prop} (h0 : 0 ≤ i) (hi : i < 2 ^ 63) (h : ds[i.toNat]? = some d) : rdi ds i F = F d := by
  simp only [rdi]; rw [h]; apply propext; constructor
  · rintro ⟨d', _, _, e, q⟩; cases e; exact q
  · exact fun q => ⟨d, h0, hi, rfl, q⟩
theorem rdi_in {ds : List D} {i : Int} {F : D → Prop} (h0 : 0 ≤ i) (hi : i < 2 ^ 63) (hl : i.toNat < ds.length) (h : ∀ d, ds[i.toNat]? = some d → F d) : rdi ds i F :=
  ⟨_, h0, hi, List.getElem?_eq_getElem hl, h _ (List.getElem?_eq_getElem hl)⟩
/-- a pass -/
def gate (b : Bool) (P : Prop) : Prop := b = true ∧ P
theorem gate_of {b : Bool} {P : Prop} (h : b = true) : gate b P = P := by subst h; simp [gate]
theorem gate_t {P : Prop} : gate true P = P := by simp [gate]
theorem gate_some {α : Type} {a : α} {P : Prop} : gate (some a).isSome P = P := by simp [gate]
/-- a side condition, and the rest -/
def need (A P : Prop) : Prop := A ∧ P
theorem need_of {A P : Prop} (h : A) : need A P = P := by simp [need, h]
theorem need_mk {A P : Prop} (h : A) (h' : P) : need A P := ⟨h, h'⟩
theorem x_nil {Q : PostS} : exsW k X [] ρ σ Q = Q .next ρ σ := rfl
theorem x_cons {s : Sx} {r : List Sx} {Q : PostS} : exsW k X (s :: r) ρ σ Q = exW k X s ρ σ (seqW k X r Q) := rfl
theorem seq_next {r : List Sx} {Q : PostS} : seqW k X r Q .next ρ σ = exsW k X r ρ σ Q := rfl
theorem seqN {r : List Sx} {Q : PostS} (h : exsW k X r ρ σ Q) : seqW k X r Q .next ρ σ := h
theorem seq_ret {r : List Sx} {Q : PostS} {d : D} : seqW k X r Q (.ret d) ρ σ = Q (.ret d) ρ σ := rfl
theorem seq_cont {r : List Sx} {Q : PostS} : seqW k X r Q .cont ρ σ = Q .cont ρ σ := rfl
/-- where a loop's turn ends -/
def turnW (I : Loc → Sto → Prop) (Q : PostS) : PostS := fun fl ρ₃ σ₃ => match fl with
          | .next | .cont => I ρ₃ σ₃
          | .brk => Q .next ρ₃ σ₃
          | .ret d => Q (.ret d) ρ₃ σ₃
theorem turn_next {I : Loc → Sto → Prop} {Q : PostS} : turnW I Q .next ρ σ = I ρ σ := rfl
theorem turn_cont {I : Loc → Sto → Prop} {Q : PostS} : turnW I Q .cont ρ σ = I ρ σ := rfl
theorem turn_ret {I : Loc → Sto → Prop} {Q : PostS} {d : D} : turnW I Q (.ret d) ρ σ = Q (.ret d) ρ σ := rfl
theorem x_assign {t : Tgt} {e : Ex} {Q : PostS} : exW k X (.assign t e) ρ σ Q = evW k e ρ σ fun d σ₁ => assignW t d ρ fun ρ' => Q .next ρ' σ₁ := rfl
theorem x_ite {t : Ex} {a b : List Sx} {Q : PostS} : exW k X (.ite t a b) ρ σ Q = tW k t ρ σ fun c σ₁ => br c (exsW k X a ρ σ₁ Q) (exsW k X b ρ σ₁ Q) := rfl
theorem x_loop_loc {t : Tgt} {x : String} {body : List Sx} {Q : PostS} : exW k X (.loop t (.loc x) body) ρ σ Q = evW k (.loc x) ρ σ fun d σ₁ => loopW k X t body d ρ σ₁ Q := rfl
theorem x_loop_bcall {t : Tgt} {f : String} {xs : List Ex} {body : List Sx} {Q : PostS} : exW k X (.loop t (.bcall f xs) body) ρ σ Q = evW k (.bcall f xs) ρ σ fun d σ₁ => loopW k X t body d ρ σ₁ Q := rfl
theorem x_loop_call {t : Tgt} {f : String} {xs : List Ex} {body : List Sx} {Q : PostS} : exW k X (.loop t (.call f xs) body) ρ σ Q = evW k (.call f xs) ρ σ fun d σ₁ => loopW k X t body d ρ σ₁ Q := rfl
theorem x_loop_item {t : Tgt} {a i : Ex} {body : List Sx} {Q : PostS} : exW k X (.loop t (.item a i) body) ρ σ Q = evW k (.item a i) ρ σ fun d σ₁ => loopW k X t body d ρ σ₁ Q := rfl
theorem x_loop_tup {t : Tgt} {xs : List Ex} {body : List Sx} {Q : PostS} : exW k X (.loop t (.tup xs) body) ρ σ Q = evW k (.tup xs) ρ σ fun d σ₁ => loopW k X t body d ρ σ₁ Q := rfl
def zipB (k : Kx) (X : PostX) (t : Tgt) (body : List Sx) (d d' : D) (ρ : Loc) (σ₂ : Sto) (Q : PostS) : Prop := zipW t d d' ρ σ₂ (fun ρ₂ σb P => exsW k X body ρ₂ σb P) Q
theorem x_loop_zip {t : Tgt} {a b : Ex} {body : List Sx} {Q : PostS} : exW k X (.loop t (.zip a b) body) ρ σ Q = evW k a ρ σ fun d σ₁ => evW k b ρ σ₁ fun d' σ₂ => zipB k X t body d d' ρ σ₂ Q := rfl
theorem x_while {t : Ex} {body : List Sx} {Q : PostS} : exW k X (.while t body) ρ σ Q = whileW k X t body ρ σ Q := rfl
theorem x_ret {e : Ex} {Q : PostS} : exW k X (.ret e) ρ σ Q = evW k e ρ σ fun d σ₁ => Q (.ret d) ρ σ₁ := rfl
theorem x_cont {Q : PostS} : exW k X .cont ρ σ Q = Q .cont ρ σ := rfl
theorem x_expr {e : Ex} {Q : PostS} : exW k X (.expr e) ρ σ Q = evW k e ρ σ fun _ σ₁ => Q .next ρ σ₁ := rfl
theorem x_raise {c m : String} {Q : PostS} : exW k X (.raise c m) ρ σ Q = X c σ := rfl
theorem e_none {Q : PostE} : evW k .none ρ σ Q = Q .none σ := rfl
theorem e_bool {b : Bool} {Q : PostE} : evW k (.bool b) ρ σ Q = Q (.bool b) σ := rfl
theorem e_int {b : Int} {Q : PostE} : evW k (.int b) ρ σ Q = Q (.int b) σ := rfl
theorem e_str {b : String} {Q : PostE} : evW k (.str b) ρ σ Q = Q (.str b) σ := rfl
theorem e_neg {b : Int} {Q : PostE} : evW k (.neg b) ρ σ Q = Q (.int (-b)) σ := rfl
theorem e_loc {x : String} {Q : PostE} : evW k (.loc x) ρ σ Q = rd (ρ x) fun d => Q d σ := rfl
theorem e_glob {x : String} {Q : PostE} : evW k (.glob x) ρ σ Q = rd (k.glob x) fun d => Q d σ := rfl
theorem e_bin {op : Operator} {a b : Ex} {Q : PostE} : evW k (.bin op a b) ρ σ Q = evW k a ρ σ fun x σ₁ => evW k b ρ σ₁ fun y σ₂ => binW op x y σ₂ Q := rfl
theorem e_not {a : Ex} {Q : PostE} : evW k (.not a) ρ σ Q = evW k a ρ σ fun x σ₁ => truthW x fun c => Q (.bool (!c)) σ₁ := rfl
theorem e_and {xs : List Ex} {Q : PostE} : evW k (.and xs) ρ σ Q = boolW k true xs ρ σ Q := rfl
theorem e_or {xs : List Ex} {Q : PostE} : evW k (.or xs) ρ σ Q = boolW k false xs ρ σ Q := rfl
theorem e_cmp {a : Ex} {ops : List CmpOp} {bs : List Ex} {Q : PostE} : evW k (.cmp a ops bs) ρ σ Q = evW k a ρ σ fun x σ₁ => chainW k bs ops x ρ σ₁ Q := rfl
theorem e_call {f : String} {xs : List Ex} {Q : PostE} : evW k (.call f xs) ρ σ Q = gate (k.addr f).isSome (evsW k xs ρ σ fun ds σ₁ => k.call f ds σ₁ Q) := rfl
theorem e_bcall {f : String} {xs : List Ex} {Q : PostE} : evW k (.bcall f xs) ρ σ Q = gate (bltOf f).isSome (evsW k xs ρ σ fun ds σ₁ => bcallW f ds σ₁ Q) := rfl
theorem g_len {P : Prop} : gate (bltOf "len").isSome P = P := gate_of rfl
theorem g_isinstance {P : Prop} : gate (bltOf "isinstance").isSome P = P := gate_of rfl
theorem g_range {P : Prop} : gate (bltOf "range").isSome P = P := gate_of rfl
theorem g_int {P : Prop} : gate (bltOf "int").isSome P = P := gate_of rfl
theorem g_tuple {P : Prop} : gate (bltOf "tuple").isSome P = P := gate_of rfl
theorem g_list {P : Prop} : gate (bltOf "list").isSome P = P := gate_of rfl
theorem g_dict {P : Prop} : gate (bltOf "dict").isSome P = P := gate_of rfl
theorem g_min {P : Prop} : gate (bltOf "min").isSome P = P := gate_of rfl
theorem g_all {P : Prop} : gate (bltOf "all").isSome P = P := gate_of rfl
/-- a method of a thing of that kind -/
def methK (k : Kx) (o : D) (m : String) (xs : List Ex) (ρ : Loc) (σ₁ : Sto) (Q : PostE) : Prop := ∃ T, kindD σ₁ o = some T ∧ (methId T m).isSome = true ∧ evsW k xs ρ σ₁ fun ds σ₂ => kindD σ₂ o = some T ∧ methW o m ds σ₂ Q
theorem e_meth {o : Ex} {m : String} {xs : List Ex} {Q : PostE} : evW k (.meth o m xs) ρ σ Q = evW k o ρ σ fun d σ₁ => methK k d m xs ρ σ₁ Q := rfl
/-- the method, when its arguments stand -/
def methA (o : D) (T m : String) (ds : List D) (σ₂ : Sto) (Q : PostE) : Prop := kindD σ₂ o = some T ∧ methW o m ds σ₂ Q
theorem mk_tup {os : List D} {m : String} {xs : List Ex} {Q : PostE} (h : (methId "tuple" m).isSome = true) : methK k (.tup os) m xs ρ σ Q = evsW k xs ρ σ fun ds σ₂ => methA (.tup os) "tuple" m ds σ₂ Q := propext ⟨fun ⟨T, e, _, q⟩ => by cases e; exact q, fun q => ⟨"tuple", rfl, h, q⟩⟩
theorem kind_l {a : Addr} {ls : List D} (ha : σ a = some (.list ls)) : kindD σ (.ref a) = some "list" := by unfold kindD; dsimp only; rw [ha]
theorem mk_list {a : Addr} {ls : List D} {m : String} {xs : List Ex} {Q : PostE} (ha : σ a = some (.list ls)) : methK k (.ref a) m xs ρ σ Q = gate (methId "list" m).isSome (evsW k xs ρ σ fun ds σ₂ => methA (.ref a) "list" m ds σ₂ Q) := propext ⟨fun ⟨T, e, h, q⟩ => by rw [kind_l ha] at e; cases e; exact ⟨h, q⟩, fun q => ⟨"list", kind_l ha, q.1, q.2⟩⟩
theorem mt_count {os : List D} {xs : List Ex} {Q : PostE} : methK k (.tup os) "count" xs ρ σ Q = evsW k xs ρ σ fun ds σ₂ => methA (.tup os) "tuple" "count" ds σ₂ Q := mk_tup rfl
theorem ma_count {os : List D} {x : D} {Q : PostE} (hx : x.pure = true) (ho : D.pures os = true) : methA (.tup os) "tuple" "count" [x] σ Q = Q (.int (os.countP fun y => deq y x)) σ := propext ⟨fun h => h.2.2.2, fun q => ⟨rfl, hx, ho, q⟩⟩
theorem ml_count {a : Addr} {os : List D} {x : D} {Q : PostE} (ha : σ a = some (.list os)) (hx : x.pure = true) (ho : D.pures os = true) : methA (.ref a) "list" "count" [x] σ Q = Q (.int (os.countP fun y => deq y x)) σ := propext ⟨fun ⟨_, xs, e, _, _, q⟩ => by rw [ha] at e; cases e; exact q, fun q => ⟨kind_l ha, os, ha, hx, ho, q⟩⟩
theorem ml_append {a : Addr} {os : List D} {x : D} {Q : PostE} (ha : σ a = some (.list os)) (hl : os.length ≤ line) : methA (.ref a) "list" "append" [x] σ Q = Q .none (σ.put a (.list (os ++ [x]))) := propext ⟨fun ⟨_, xs, e, _, q⟩ => by rw [ha] at e; cases e; exact q, fun q => ⟨kind_l ha, os, ha, hl, q⟩⟩
theorem ml_extend {a b : Addr} {os ps : List D} {Q : PostE} (hab : a ≠ b) (ha : σ a = some (.list os)) (hb : σ b = some (.list ps)) (hl : os.length + ps.length ≤ line) : methA (.ref a) "list" "extend" [.ref b] σ Q = Q .none (σ.put a (.list (os ++ ps))) := propext ⟨fun ⟨_, xs, ys, _, e, e', _, q⟩ => by rw [ha] at e; rw [hb] at e'; cases e; cases e'; exact q, fun q => ⟨kind_l ha, os, ps, hab, ha, hb, hl, q⟩⟩
theorem e_item {a i : Ex} {Q : PostE} : evW k (.item a i) ρ σ Q = evW k a ρ σ fun x σ₁ => evW k i ρ σ₁ fun y σ₂ => itemW x y σ₂ Q := rfl
theorem it_tup {ds : List D} {i : Int} {Q : PostE} : itemW (.tup ds) (.int i) σ Q = rdi ds i fun d => Q d σ := rfl
theorem it_l {a : Addr} {ds : List D} {i : Int} {Q : PostE} (ha : σ a = some (.list ds)) : itemW (.ref a) (.int i) σ Q = rdi ds i fun d => Q d σ := propext ⟨fun ⟨xs, d, e, q⟩ => by unfold listOf at e; rw [ha] at e; cases e; exact ⟨d, q⟩, fun ⟨d, q⟩ => ⟨ds, d, by unfold listOf; rw [ha], q⟩⟩
theorem it_rl {a : Addr} {o : Obj} {ds : List D} {i : Int} {Q : PostE} (ha : σ a = some (.rl o ds)) : itemW (.ref a) (.int i) σ Q = rdi ds i fun d => Q d σ := propext ⟨fun ⟨xs, d, e, q⟩ => by unfold listOf at e; rw [ha] at e; cases e; exact ⟨d, q⟩, fun ⟨d, q⟩ => ⟨ds, d, by unfold listOf; rw [ha], q⟩⟩
theorem it_put {a : Addr} {ds : List D} {i : Int} {Q : PostE} : itemW (.ref a) (.int i) (σ.put a (.list ds)) Q = rdi ds i fun d => Q d (σ.put a (.list ds)) := it_l (if_pos rfl)
theorem e_slice {a lo hi : Ex} {Q : PostE} : evW k (.slice a lo hi) ρ σ Q = evW k a ρ σ fun x σ₁ => evW k lo ρ σ₁ fun y σ₂ => evW k hi ρ σ₂ fun z σ₃ => sliceW x y z σ₃ Q := rfl
theorem e_tup {xs : List Ex} {Q : PostE} : evW k (.tup xs) ρ σ Q = evsW k xs ρ σ fun ds σ₁ => Q (.tup ds) σ₁ := rfl
theorem e_list {xs : List Ex} {Q : PostE} : evW k (.list xs) ρ σ Q = evsW k xs ρ σ fun ds σ₁ => newW (.list ds) σ₁ Q := rfl
theorem e_comp {elt : Ex} {t : Tgt} {it : Ex} {ifs : List Ex} {Q : PostE} : evW k (.comp elt t it ifs) ρ σ Q = evW k it ρ σ fun d σ₁ => compW k elt t ifs ρ d σ₁ Q := rfl
theorem es_nil {Q : List D → Sto → Prop} : evsW k [] ρ σ Q = Q [] σ := rfl
theorem es_cons {e : Ex} {es : List Ex} {Q : List D → Sto → Prop} : evsW k (e :: es) ρ σ Q = evW k e ρ σ fun d σ₁ => evsW k es ρ σ₁ fun ds σ₂ => Q (d :: ds) σ₂ := rfl
theorem b_one {c : Bool} {e : Ex} {Q : PostE} : boolW k c [e] ρ σ Q = evW k e ρ σ Q := rfl
theorem b_and {e e' : Ex} {es : List Ex} {Q : PostE} : boolW k true (e :: e' :: es) ρ σ Q = evW k e ρ σ fun d σ₁ => truthW d fun b => br b (boolW k true (e' :: es) ρ σ₁ Q) (Q d σ₁) := rfl
theorem b_or {e e' : Ex} {es : List Ex} {Q : PostE} : boolW k false (e :: e' :: es) ρ σ Q = evW k e ρ σ fun d σ₁ => truthW d fun b => br b (Q d σ₁) (boolW k false (e' :: es) ρ σ₁ Q) := by
  have : ∀ (b : Bool) (A B : Prop), ((b = false → A) ∧ (b = (!false) → B)) = br b B A := fun b A B => by cases b <;> simp [br]
  show (evW k e ρ σ fun d σ₁ => truthW d fun b => (b = false → boolW k false (e' :: es) ρ σ₁ Q) ∧ (b = (!false) → Q d σ₁)) = _
  simp only [this]
theorem a_nil {c : Bool} {Q : Bool → Sto → Prop} : allW k c [] ρ σ Q = Q c σ := rfl
theorem a_and {e : Ex} {es : List Ex} {Q : Bool → Sto → Prop} : allW k true (e :: es) ρ σ Q = tW k e ρ σ fun b σ₁ => br b (allW k true es ρ σ₁ Q) (Q false σ₁) := by
  have : ∀ (b : Bool) (A : Prop) (B : Bool → Prop), ((b = true → A) ∧ (b = (!true) → B b)) = br b A (B false) := fun b A B => by cases b <;> simp [br]
  show (tW k e ρ σ fun b σ₁ => (b = true → allW k true es ρ σ₁ Q) ∧ (b = (!true) → Q b σ₁)) = _
  congr; funext b σ₁; exact this b _ fun c => Q c σ₁
theorem a_or {e : Ex} {es : List Ex} {Q : Bool → Sto → Prop} : allW k false (e :: es) ρ σ Q = tW k e ρ σ fun b σ₁ => br b (Q true σ₁) (allW k false es ρ σ₁ Q) := by
  have : ∀ (b : Bool) (A : Prop) (B : Bool → Prop), ((b = false → A) ∧ (b = (!false) → B b)) = br b (B true) A := fun b A B => by cases b <;> simp [br]
  show (tW k e ρ σ fun b σ₁ => (b = false → allW k false es ρ σ₁ Q) ∧ (b = (!false) → Q b σ₁)) = _
  congr; funext b σ₁; exact this b _ fun c => Q c σ₁
theorem cs_nil {Q : Bool → Sto → Prop} : condsW k [] ρ σ Q = Q true σ := rfl
theorem cs_cons {e : Ex} {es : List Ex} {Q : Bool → Sto → Prop} : condsW k (e :: es) ρ σ Q = tW k e ρ σ fun c σ₁ => br c (condsW k es ρ σ₁ Q) (Q false σ₁) := rfl
theorem c_one {d : D} {op : CmpOp} {e : Ex} {Q : PostE} : chainW k [e] [op] d ρ σ Q = evW k e ρ σ fun r σ₁ => cmpW op d r σ₁ Q := rfl
theorem c_two {d : D} {op op' : CmpOp} {e e' : Ex} {Q : PostE} : chainW k [e, e'] [op, op'] d ρ σ Q = evW k e ρ σ fun r σ₁ => cmpW op d r σ₁ fun c σ₂ => truthW c fun b => br b (evW k e' ρ σ₂ fun r' σ₃ => cmpW op' r r' σ₃ Q) (Q c σ₂) := rfl
theorem t_not {a : Ex} {Q : Bool → Sto → Prop} : tW k (.not a) ρ σ Q = tW k a ρ σ fun c σ₁ => Q (!c) σ₁ := rfl
theorem t_and {xs : List Ex} {Q : Bool → Sto → Prop} : tW k (.and xs) ρ σ Q = allW k true xs ρ σ Q := rfl
theorem t_or {xs : List Ex} {Q : Bool → Sto → Prop} : tW k (.or xs) ρ σ Q = allW k false xs ρ σ Q := rfl
theorem t_cmp {a : Ex} {ops : List CmpOp} {bs : List Ex} {Q : Bool → Sto → Prop} : tW k (.cmp a ops bs) ρ σ Q = evW k (.cmp a ops bs) ρ σ fun d σ₁ => truthW d fun c => Q c σ₁ := rfl
theorem t_call {f : String} {xs : List Ex} {Q : Bool → Sto → Prop} : tW k (.call f xs) ρ σ Q = evW k (.call f xs) ρ σ fun d σ₁ => truthW d fun c => Q c σ₁ := rfl
theorem t_bcall {f : String} {xs : List Ex} {Q : Bool → Sto → Prop} : tW k (.bcall f xs) ρ σ Q = evW k (.bcall f xs) ρ σ fun d σ₁ => truthW d fun c => Q c σ₁ := rfl
theorem t_loc {x : String} {Q : Bool → Sto → Prop} : tW k (.loc x) ρ σ Q = evW k (.loc x) ρ σ fun d σ₁ => truthW d fun c => Q c σ₁ := rfl
theorem tr_bool {b : Bool} {Q : Bool → Prop} : truthW (.bool b) Q = Q b := rfl
theorem as_name {x : String} {d : D} {Q : Loc → Prop} : assignW (.name x) d ρ Q = Q (ρ.set x d) := rfl
theorem as_2 {x y : String} {d e : D} {Q : Loc → Prop} : assignW (.tup [x, y]) (.tup [d, e]) ρ Q = Q ((ρ.set x d).set y e) := and_eq rfl
theorem as_3 {x y z : String} {d e f : D} {Q : Loc → Prop} : assignW (.tup [x, y, z]) (.tup [d, e, f]) ρ Q = Q (((ρ.set x d).set y e).set z f) := and_eq rfl
theorem sets_nil {ds : List D} : Loc.sets ρ [] ds = ρ := rfl
theorem sets_cons {x : String} {d : D} {xs : List String} {ds : List D} : Loc.sets ρ (x :: xs) (d :: ds) = (ρ.set x d).sets xs ds := rfl
theorem ret_ret {Q : PostE} {d : D} : retW Q (.ret d) ρ σ = Q d σ := rfl
theorem ret_next {Q : PostE} : retW Q .next ρ σ = Q .none σ := rfl
theorem bin_add {i j : Int} {Q : PostE} : binW .Add (.int i) (.int j) σ Q = Q (.int (i + j)) σ := rfl
theorem bin_sub {i j : Int} {Q : PostE} : binW .Sub (.int i) (.int j) σ Q = Q (.int (i - j)) σ := rfl
theorem bin_mul {i j : Int} {Q : PostE} : binW .Mult (.int i) (.int j) σ Q = need (i.natAbs < 2 ^ 64 ∨ j.natAbs < 2 ^ 64) (Q (.int (i * j)) σ) := rfl
theorem bin_mod {i j : Int} {Q : PostE} : binW .Mod (.int i) (.int j) σ Q = need (0 < j) (Q (.int (i % j)) σ) := rfl
theorem bin_div {i j : Int} {Q : PostE} : binW .FloorDiv (.int i) (.int j) σ Q = need (0 < j ∧ j < 1073741824) (Q (.int (i / j)) σ) := rfl
theorem bin_tup {xs ys : List D} {Q : PostE} : binW .Add (.tup xs) (.tup ys) σ Q = need (xs.length + ys.length ≤ line) (Q (.tup (xs ++ ys)) σ) := rfl
theorem bin_list {p q : Addr} {xs ys : List D} {Q : PostE} (hp : σ p = some (.list xs)) (hq : σ q = some (.list ys)) (hl : xs.length + ys.length ≤ line) : binW .Add (.ref p) (.ref q) σ Q = newW (.list (xs ++ ys)) σ Q := propext ⟨fun ⟨_, _, e, e', _, q⟩ => by rw [hp] at e; rw [hq] at e'; cases e; cases e'; exact q, fun q => ⟨xs, ys, hp, hq, hl, q⟩⟩
theorem cm_eq {a b : D} {Q : PostE} : cmpW .Eq a b σ Q = eqW σ a b fun r => Q (.bool r) σ := rfl
theorem cm_ne {a b : D} {Q : PostE} : cmpW .NotEq a b σ Q = eqW σ a b fun r => Q (.bool (!r)) σ := rfl
theorem cm_lt {i j : Int} {Q : PostE} : cmpW .Lt (.int i) (.int j) σ Q = Q (.bool (decide (i < j))) σ := rfl
theorem cm_le {i j : Int} {Q : PostE} : cmpW .LtE (.int i) (.int j) σ Q = Q (.bool (decide (i ≤ j))) σ := rfl
theorem cm_gt {i j : Int} {Q : PostE} : cmpW .Gt (.int i) (.int j) σ Q = Q (.bool (decide (j < i))) σ := rfl
theorem cm_ge {i j : Int} {Q : PostE} : cmpW .GtE (.int i) (.int j) σ Q = Q (.bool (decide (j ≤ i))) σ := rfl
theorem cm_in {a b : D} {Q : PostE} : cmpW .In a b σ Q = inW a b σ fun r => Q (.bool r) σ := rfl
theorem cm_nin {a b : D} {Q : PostE} : cmpW .NotIn a b σ Q = inW a b σ fun r => Q (.bool (!r)) σ := rfl
theorem eq_str {a b : String} {Q : Bool → Prop} : eqW σ (.str a) (.str b) Q = if a = b then Q true else Q false := by
  have h : eqW σ (.str a) (.str b) Q = Q (a == b) := rfl
  rw [h]
  by_cases e : a = b
  · subst e; simp
  · rw [if_neg e, beq_eq_false_iff_ne.mpr e]
theorem eq_int {a b : Int} {Q : Bool → Prop} : eqW σ (.int a) (.int b) Q = Q (decide (a = b)) := rfl
theorem in_tup {x : D} {ds : List D} {Q : Bool → Prop} (hx : x.pure = true) (hd : D.pures ds = true) : inW x (.tup ds) σ Q = Q (ds.any fun y => deq y x) := (and_eq hx).trans (and_eq hd)
theorem in_list {x : D} {a : Addr} {ds : List D} {Q : Bool → Prop} (ha : σ a = some (.list ds)) (hx : x.pure = true) (hd : D.pures ds = true) : inW x (.ref a) σ Q = Q (ds.any fun y => deq y x) := by unfold inW; dsimp only; rw [ha]; exact (and_eq hx).trans (and_eq hd)
theorem in_strs {x y z : String} {Q : Bool → Prop} : inW (.str x) (.tup [.str y, .str z]) σ Q = if x = y then Q true else if x = z then Q true else Q false := by
  refine (in_tup rfl rfl).trans ?_
  show Q ((y == x) || ((z == x) || false)) = _
  by_cases e1 : x = y
  · subst e1; simp
  · rw [if_neg e1, beq_eq_false_iff_ne.mpr (Ne.symm e1)]
    by_cases e2 : x = z
    · subst e2; simp
    · rw [if_neg e2, beq_eq_false_iff_ne.mpr (Ne.symm e2)]; rfl
theorem size_l {a : Addr} {ds : List D} (ha : σ a = some (.list ds)) : sizeD σ (.ref a) = some ds.length := by unfold sizeD; dsimp only; rw [ha]
theorem len_gen {d : D} {m : Nat} {Q : PostE} (hs : sizeD σ d = some m) (h : m < 2 ^ 62) : bcallW "len" [d] σ Q = Q (.int m) σ := (ex_eq (P := fun n : Nat => n < 2 ^ 62 ∧ Q (.int (n : Int)) σ) hs).trans (and_eq h)
theorem isi_gen {d : D} {t : String} {r : Bool} {Q : PostE} (hs : isOfC σ d t = some r) : bcallW "isinstance" [d, .val (.type t)] σ Q = Q (.bool r) σ := ex_eq (P := fun r => Q (.bool r) σ) hs
theorem bc_len {a : Addr} {ds : List D} {Q : PostE} (ha : σ a = some (.list ds)) (h : ds.length < 2 ^ 62) : bcallW "len" [.ref a] σ Q = Q (.int ds.length) σ := len_gen (size_l ha) h
theorem bc_len_rl {a : Addr} {o : Obj} {ds : List D} {Q : PostE} (ha : σ a = some (.rl o ds)) (h : ds.length < 2 ^ 62) : bcallW "len" [.ref a] σ Q = Q (.int ds.length) σ := len_gen (by unfold sizeD; dsimp only; rw [ha]) h
theorem bc_len_tup {ds : List D} {Q : PostE} : bcallW "len" [.tup ds] σ Q = need (ds.length < 2 ^ 62) (Q (.int ds.length) σ) := ex_eq (P := fun n : Nat => n < 2 ^ 62 ∧ Q (.int (n : Int)) σ) rfl
theorem bc_range {i : Int} {Q : PostE} : bcallW "range" [.int i] σ Q = need (0 ≤ i ∧ i < 2 ^ 62) (Q (.rng i.toNat) σ) := rfl
theorem bc_int {b : Bool} {Q : PostE} : bcallW "int" [.bool b] σ Q = Q (.int (b2i b)) σ := rfl
theorem bc_tuple {a : Addr} {ds : List D} {Q : PostE} (ha : σ a = some (.list ds)) (h : ds.length ≤ line) : bcallW "tuple" [.ref a] σ Q = Q (.tup ds) σ := propext ⟨fun ⟨_, e, _, q⟩ => by rw [ha] at e; cases e; exact q, fun q => ⟨ds, ha, h, q⟩⟩
theorem is_ref {a : Addr} {ds : List D} {Q : PostE} (ha : σ a = some (.list ds)) : bcallW "isinstance" [.ref a, .val (.type "list")] σ Q = Q (.bool true) σ := isi_gen (by unfold isOfC; dsimp only; rw [ha]; rfl)
theorem is_int_int {i : Int} {Q : PostE} : bcallW "isinstance" [.int i, .val (.type "int")] σ Q = Q (.bool true) σ := isi_gen rfl
theorem is_int_bool {i : Int} {Q : PostE} : bcallW "isinstance" [.int i, .val (.type "bool")] σ Q = Q (.bool false) σ := isi_gen rfl
theorem is_str_str {i : String} {Q : PostE} : bcallW "isinstance" [.str i, .val (.type "str")] σ Q = Q (.bool true) σ := isi_gen rfl
theorem is_tup_tup {i : List D} {Q : PostE} : bcallW "isinstance" [.tup i, .val (.type "tuple")] σ Q = Q (.bool true) σ := isi_gen rfl
theorem is_bool_bool {i : Bool} {Q : PostE} : bcallW "isinstance" [.bool i, .val (.type "bool")] σ Q = Q (.bool true) σ := isi_gen rfl
theorem is_bool_int {i : Bool} {Q : PostE} : bcallW "isinstance" [.bool i, .val (.type "int")] σ Q = Q (.bool true) σ := isi_gen rfl
theorem bc_len_1 {a : D} {Q : PostE} : bcallW "len" [.tup [a]] σ Q = Q (.int 1) σ := len_gen (m := 1) rfl (by decide)
theorem bc_len_2 {a b : D} {Q : PostE} : bcallW "len" [.tup [a, b]] σ Q = Q (.int 2) σ := len_gen (m := 2) rfl (by decide)
theorem bc_len_t {ds : List D} {Q : PostE} (h : ds.length < 2 ^ 62) : bcallW "len" [.tup ds] σ Q = Q (.int ds.length) σ := by rw [bc_len_tup, need_of h]
theorem lit_10 {A B : Prop} : br (decide ((1 : Int) = 0)) A B = B := br_neg (by decide)
theorem lit_20 {A B : Prop} : br (decide ((2 : Int) = 0)) A B = B := br_neg (by decide)
theorem lit_11 {A B : Prop} : br (decide ((1 : Int) = 1)) A B = A := br_pos (by decide)
theorem lit_22 {A B : Prop} : br (decide ((2 : Int) = 2)) A B = A := br_pos (by decide)
theorem mk_put {a : Addr} {ls : List D} {m : String} {xs : List Ex} {Q : PostE} : methK k (.ref a) m xs ρ (σ.put a (.list ls)) Q = gate (methId "list" m).isSome (evsW k xs ρ (σ.put a (.list ls)) fun ds σ₂ => methA (.ref a) "list" m ds σ₂ Q) := mk_list (σ := σ.put a (.list ls)) (if_pos rfl)
theorem g_append {P : Prop} : gate (methId "list" "append").isSome P = P := gate_of rfl
theorem g_extend {P : Prop} : gate (methId "list" "extend").isSome P = P := gate_of rfl
theorem g_count {P : Prop} : gate (methId "list" "count").isSome P = P := gate_of rfl
theorem put_put' {a : Addr} {c c' : Cell} : (σ.put a c).put a c' = σ.put a c' := by
  funext b; unfold Sto.put; by_cases e : b = a <;> simp [e]
theorem ma_append {a : Addr} {os : List D} {x : D} {Q : PostE} : methA (.ref a) "list" "append" [x] (σ.put a (.list os)) Q = need (os.length ≤ line) (Q .none (σ.put a (.list (os ++ [x])))) := propext ⟨fun ⟨_, xs, e, h, q⟩ => by rw [show (σ.put a (.list os)) a = some (.list os) from if_pos rfl] at e; cases e; exact ⟨h, put_put' (σ := σ) ▸ q⟩, fun q => ⟨kind_l (if_pos rfl), os, if_pos rfl, q.1, (put_put' (σ := σ)).symm ▸ q.2⟩⟩
theorem len_put {a : Addr} {ds : List D} {Q : PostE} : bcallW "len" [.ref a] (σ.put a (.list ds)) Q = need (ds.length < 2 ^ 62) (Q (.int ds.length) (σ.put a (.list ds))) := ex_eq (P := fun n : Nat => n < 2 ^ 62 ∧ Q (.int (n : Int)) (σ.put a (.list ds))) (size_l (if_pos rfl))
theorem sl_take {ds : List D} {t : Nat} {Q : PostE} : sliceW (.tup ds) .none (.int t) σ Q = need (ds.length ≤ line) (Q (.tup (ds.take t)) σ) := by
  have : (ds.take (min t ds.length)).drop 0 = ds.take t := by rw [List.drop_zero, List.take_eq_take_iff]; omega
  simp [sliceW, cutAt, sliceOf, need]
  intro _
  rw [List.drop_zero] at this; rw [this]
theorem sl_drop {ds : List D} {t : Nat} {Q : PostE} : sliceW (.tup ds) (.int (t + 1)) .none σ Q = need (ds.length ≤ line) (Q (.tup (ds.drop (t + 1))) σ) := by
  have h0 : (0 : Int) ≤ (t : Int) + 1 := by omega
  have h1 : ((t : Int) + 1).toNat = t + 1 := by omega
  have : ds.drop (min (t + 1) ds.length) = ds.drop (t + 1) := by
    by_cases h : t + 1 ≤ ds.length
    · rw [Nat.min_eq_left h]
    · rw [Nat.min_eq_right (by omega), List.drop_length, List.drop_eq_nil_of_le (by omega)]
  simp [sliceW, cutAt, sliceOf, need, h0, h1, this]
theorem x_app {xs ys : List Sx} {Q : PostS} : exsW k X (xs ++ ys) ρ σ Q = exsW k X xs ρ σ (seqW k X ys Q) := by
  induction xs generalizing ρ σ with
  | nil => rw [x_nil]; rfl
  | cons s xs ih =>
    rw [List.cons_append, x_cons, x_cons]
    have : seqW k X (xs ++ ys) Q = seqW k X xs (seqW k X ys Q) := by
      funext fl ρ' σ'
      cases fl <;> simp only [seqW, ih]
    rw [this]


/-! stores -/
def Ext (σ σ' : Sto) : Prop := ∀ a c, σ a = some c → σ' a = some c
theorem Ext.refl (σ : Sto) : Ext σ σ := fun _ _ h => h
theorem Ext.trans {σ σ' σ'' : Sto} (h : Ext σ σ') (h' : Ext σ' σ'') : Ext σ σ'' := fun a c e => h' a c (h a c e)
theorem Ext.put {σ σ' : Sto} {a : Addr} {c : Cell} (h : Ext σ σ') (e : σ a = none) : Ext σ (σ'.put a c) := fun b c' q => by
  unfold Sto.put
  by_cases eb : b = a
  · subst eb; rw [e] at q; cases q
  · rw [if_neg eb]; exact h b c' q
theorem put_at {a : Addr} {c : Cell} : (σ.put a c) a = some c := by simp [Sto.put]
theorem put_ne {a b : Addr} {c : Cell} (h : b ≠ a) : (σ.put a c) b = σ b := by simp [Sto.put, h]
theorem ne_of {a b : Addr} {c : Cell} (h : σ a = some c) (h' : σ b = none) : a ≠ b := fun e => by subst e; rw [h] at h'; cases h'
theorem Ext.none {σ σ' : Sto} {a : Addr} (h : Ext σ σ') (e : σ' a = none) : σ a = none := by
  cases q : σ a with
  | none => rfl
  | some c => rw [h a c q] at e; cases e
theorem put_put {a : Addr} {c c' : Cell} : (σ.put a c).put a c' = σ.put a c' := by
  funext b; unfold Sto.put; by_cases e : b = a <;> simp [e]

/-- a loop: what holds ahead of each turn -/
theorem loop_of {t : Tgt} {body : List Sx} {d : D} {Q : PostS} (xs : List D) (I : Nat → Loc → Sto → Prop) (hd : itemsD σ d = some xs) (hl : xs.length ≤ line) (h0 : I 0 ρ σ)
    (still : ∀ i ρ' σ', I i ρ' σ' → stillD σ σ' d)
    (turn : ∀ i ρ' σ' x, I i ρ' σ' → xs[i]? = some x → assignW t x ρ' fun ρ₂ => exsW k X body ρ₂ σ' (turnW (I (i + 1)) Q))
    (fin : ∀ ρ' σ', I xs.length ρ' σ' → Q .next ρ' σ') : loopW k X t body d ρ σ Q :=
  ⟨xs, hd, hl, I, h0, fun i ρ' σ' q _ => ⟨still i ρ' σ' q, fun x hx => turn i ρ' σ' x q hx⟩, fin⟩
theorem range_of {t : Tgt} {body : List Sx} {m : Nat} {Q : PostS} (I : Nat → Loc → Sto → Prop) (hl : m ≤ line) (h0 : I 0 ρ σ)
    (turn : ∀ (i : Nat) ρ' σ', i < m → I i ρ' σ' → assignW t (.int i) ρ' fun ρ₂ => exsW k X body ρ₂ σ' (turnW (I (i + 1)) Q))
    (fin : ∀ ρ' σ', I m ρ' σ' → Q .next ρ' σ') : loopW k X t body (.rng m) ρ σ Q :=
  loop_of _ I rfl (by simpa using hl) h0 (fun _ _ _ _ => trivial) (fun i ρ' σ' x q hx => by
    rw [List.getElem?_map] at hx
    by_cases hi : i < m
    · rw [List.getElem?_range hi] at hx; cases hx; exact turn i ρ' σ' hi q
    · rw [List.getElem?_eq_none (by simpa using hi)] at hx; cases hx) (fun ρ' σ' q => fin ρ' σ' (by simpa using q))
theorem comp_of {elt : Ex} {t : Tgt} {ifs : List Ex} {d : D} {Q : PostE} (xs : List D) (I : Nat → List D → Sto → Prop) (hd : itemsD σ d = some xs) (hl : xs.length ≤ line) (h0 : I 0 [] σ)
    (still : ∀ i acc σ', I i acc σ' → stillD σ σ' d)
    (turn : ∀ i acc σ' x, I i acc σ' → xs[i]? = some x → assignW t x ρ fun ρ' => condsW k ifs ρ' σ' fun c σ₂ => br c (evW k elt ρ' σ₂ fun v σ₃ => I (i + 1) (acc ++ [v]) σ₃) (I (i + 1) acc σ₂))
    (fin : ∀ acc σ', I xs.length acc σ' → newW (.list acc) σ' Q) : compW k elt t ifs ρ d σ Q :=
  ⟨xs, hd, hl, I, h0, fun i acc σ' q _ => ⟨still i acc σ' q, fun x hx => turn i acc σ' x q hx⟩, fin⟩
theorem crange_of {elt : Ex} {t : Tgt} {ifs : List Ex} {m : Nat} {Q : PostE} (I : Nat → List D → Sto → Prop) (hl : m ≤ line) (h0 : I 0 [] σ)
    (turn : ∀ (i : Nat) acc σ', i < m → I i acc σ' → assignW t (.int i) ρ fun ρ' => condsW k ifs ρ' σ' fun c σ₂ => br c (evW k elt ρ' σ₂ fun v σ₃ => I (i + 1) (acc ++ [v]) σ₃) (I (i + 1) acc σ₂))
    (fin : ∀ acc σ', I m acc σ' → newW (.list acc) σ' Q) : compW k elt t ifs ρ (.rng m) σ Q :=
  comp_of _ I rfl (by simpa using hl) h0 (fun _ _ _ _ => trivial) (fun i ρ' σ' x q hx => by
    rw [List.getElem?_map] at hx
    by_cases hi : i < m
    · rw [List.getElem?_range hi] at hx; cases hx; exact turn i ρ' σ' hi q
    · rw [List.getElem?_eq_none (by simpa using hi)] at hx; cases hx) (fun ρ' σ' q => fin ρ' σ' (by simpa using q))
theorem while_of {t : Ex} {body : List Sx} {Q : PostS} (I : Nat → Loc → Sto → Prop) (n : Nat) (h0 : I n ρ σ)
    (turn : ∀ n ρ' σ', I n ρ' σ' → tW k t ρ' σ' fun c σ₂ => br c (exsW k X body ρ' σ₂ (turnW (fun ρ₃ σ₃ => ∃ m, m < n ∧ I m ρ₃ σ₃) Q)) (Q .next ρ' σ₂)) : whileW k X t body ρ σ Q := by
  refine ⟨I, n, h0, fun n ρ' σ' q => ?_⟩
  have : ∀ (c : Bool) (A B : Prop), ((c = false → A) ∧ (c = true → B)) = br c B A := fun c A B => by cases c <;> simp [br]
  simp only [this]
  exact turn n ρ' σ' q

/-- what a def asks: it can be called, and its body tells what it does -/
structure Fn (K : Nat → Kx) (f : String) (ps : List String) (xs : List Sx) : Prop where
  is : ∀ n, ((K n).addr f).isSome = true
  run : ∀ n ds σ Q, ds.length = ps.length → exsW (K n) (fun _ _ => False) xs (Loc.nil.sets ps ds) σ (retW Q) → (K (n + 1)).call f ds σ Q
theorem Fn.gate {K : Nat → Kx} {f : String} {ps : List String} {xs : List Sx} {n : Nat} {P : Prop} (F : Fn K f ps xs) : Mine.gate ((K n).addr f).isSome P = P := gate_of (F.is n)
end
end Mine

/-! LB0 -/
open PySem
set_option autoImplicit false
set_option linter.unusedVariables false
namespace Mine
noncomputable section
def b_is_count : List Sx :=
  [.ret (.and [(.bcall "isinstance" [(.loc "thing"), (.glob "int")]), (.not (.bcall "isinstance" [(.loc "thing"), (.glob "bool")])), (.cmp (.int 0) [.LtE, .LtE] [(.loc "thing"), (.loc "most")])])]
def p_is_count : List String := ["thing", "most"]
def b_need_lane : List Sx :=
  [.ite (.or [(.not (.bcall "isinstance" [(.loc "lane"), (.glob "list")])), (.not (.cmp (.int 1) [.LtE, .LtE] [(.bcall "len" [(.loc "lane")]), (.glob "MOST_PLACES")]))])
     [.raise "BadLane" "one to eight places are wanted"]
     [],
   .loop (.name "held") (.loc "lane")
     [.ite (.not (.call "is_count" [(.loc "held"), (.glob "MOST_HELD")]))
        [.raise "BadLane" "a siding holds none to four"]
        []],
   .ret (.bool true)]
def p_need_lane : List String := ["lane"]
def b_need_ways : List Sx :=
  [.ite (.or [(.not (.bcall "isinstance" [(.loc "ways"), (.glob "list")])), (.not (.cmp (.int 1) [.LtE, .LtE] [(.bcall "len" [(.loc "ways")]), (.glob "MOST_TRAINS")]))])
     [.raise "BadWays" "one to six trains are wanted"]
     [],
   .loop (.name "way") (.loc "ways")
     [.ite (.or [(.not (.bcall "isinstance" [(.loc "way"), (.glob "str")])), (.cmp (.loc "way") [.NotIn] [(.tup [(.str "right"), (.str "left")])])])
        [.raise "BadWays" "a train goes right or left"]
        []],
   .ret (.bool true)]
def p_need_ways : List String := ["ways"]
def b_is_spot : List Sx :=
  [.ite (.or [(.not (.bcall "isinstance" [(.loc "thing"), (.glob "tuple")])), (.cmp (.bcall "len" [(.loc "thing")]) [.Eq] [(.int 0)]), (.not (.bcall "isinstance" [(.item (.loc "thing") (.int 0)), (.glob "str")]))])
     [.ret (.bool false)]
     [],
   .ite (.cmp (.item (.loc "thing") (.int 0)) [.Eq] [(.str "out")])
     [.ret (.cmp (.bcall "len" [(.loc "thing")]) [.Eq] [(.int 1)])]
     [],
   .ret (.and [(.cmp (.item (.loc "thing") (.int 0)) [.In] [(.tup [(.str "lane"), (.str "side")])]), (.cmp (.bcall "len" [(.loc "thing")]) [.Eq] [(.int 2)]), (.call "is_count" [(.item (.loc "thing") (.int 1)), (.bin .Sub (.bcall "len" [(.loc "lane")]) (.int 1))])])]
def p_is_spot : List String := ["lane", "thing"]
def b_need_stand : List Sx :=
  [.expr (.call "need_lane" [(.loc "lane")]),
   .expr (.call "need_ways" [(.loc "ways")]),
   .ite (.or [(.not (.bcall "isinstance" [(.loc "stand"), (.glob "tuple")])), (.cmp (.bcall "len" [(.loc "stand")]) [.NotEq] [(.bcall "len" [(.loc "ways")])])])
     [.raise "BadStand" "a spot for each train is wanted"]
     [],
   .loop (.name "spot") (.loc "stand")
     [.ite (.not (.call "is_spot" [(.loc "lane"), (.loc "spot")]))
        [.raise "BadStand" "no spot"]
        []],
   .loop (.name "place") (.bcall "range" [(.bcall "len" [(.loc "lane")])])
     [.ite (.or [(.cmp (.meth (.loc "stand") "count" [(.tup [(.str "lane"), (.loc "place")])]) [.Gt] [(.int 1)]), (.cmp (.meth (.loc "stand") "count" [(.tup [(.str "side"), (.loc "place")])]) [.Gt] [(.item (.loc "lane") (.loc "place"))])])
        [.raise "BadStand" "more trains than a place holds"]
        []],
   .ret (.bool true)]
def p_need_stand : List String := ["lane", "ways", "stand"]
def b_ahead_of : List Sx :=
  [.assign (.name "goal") (.bin .Add (.loc "place") (.int 1)),
   .ite (.cmp (.loc "way") [.Eq] [(.str "left")])
     [.assign (.name "goal") (.bin .Sub (.loc "place") (.int 1))]
     [],
   .ite (.cmp (.int 0) [.LtE, .Lt] [(.loc "goal"), (.bcall "len" [(.loc "lane")])])
     [.ret (.tup [(.str "lane"), (.loc "goal")])]
     [],
   .ret (.tup [(.str "out")])]
def p_ahead_of : List String := ["lane", "way", "place"]
def b_is_clear : List Sx :=
  [.ret (.or [(.cmp (.loc "spot") [.Eq] [(.tup [(.str "out")])]), (.cmp (.loc "spot") [.NotIn] [(.loc "stand")])])]
def p_is_clear : List String := ["stand", "spot"]
def b_moves_of : List Sx :=
  [.assign (.name "spot") (.item (.loc "stand") (.loc "train")),
   .ite (.cmp (.item (.loc "spot") (.int 0)) [.Eq] [(.str "out")])
     [.ret (.list [])]
     [],
   .assign (.name "goal") (.call "ahead_of" [(.loc "lane"), (.item (.loc "ways") (.loc "train")), (.item (.loc "spot") (.int 1))]),
   .assign (.name "found") (.list []),
   .ite (.cmp (.item (.loc "spot") (.int 0)) [.Eq] [(.str "side")])
     [.ite (.call "is_clear" [(.loc "stand"), (.loc "goal")])
        [.expr (.meth (.loc "found") "append" [(.tup [(.str "on"), (.loc "train")])])]
        [],
      .ret (.loc "found")]
     [],
   .ite (.call "is_clear" [(.loc "stand"), (.loc "goal")])
     [.expr (.meth (.loc "found") "append" [(.tup [(.str "go"), (.loc "train")])])]
     [],
   .ite (.cmp (.meth (.loc "stand") "count" [(.tup [(.str "side"), (.item (.loc "spot") (.int 1))])]) [.Lt] [(.item (.loc "lane") (.item (.loc "spot") (.int 1)))])
     [.expr (.meth (.loc "found") "append" [(.tup [(.str "aside"), (.loc "train")])])]
     [],
   .ret (.loc "found")]
def p_moves_of : List String := ["lane", "ways", "stand", "train"]
def b_all_moves : List Sx :=
  [.assign (.name "found") (.list []),
   .loop (.name "train") (.bcall "range" [(.bcall "len" [(.loc "ways")])])
     [.expr (.meth (.loc "found") "extend" [(.call "moves_of" [(.loc "lane"), (.loc "ways"), (.loc "stand"), (.loc "train")])])],
   .ret (.loc "found")]
def p_all_moves : List String := ["lane", "ways", "stand"]
def b_after : List Sx :=
  [.assign (.tup ["word", "train"]) (.loc "move"),
   .assign (.name "spot") (.tup [(.str "side"), (.item (.item (.loc "stand") (.loc "train")) (.int 1))]),
   .ite (.cmp (.loc "word") [.NotEq] [(.str "aside")])
     [.assign (.name "spot") (.call "ahead_of" [(.loc "lane"), (.item (.loc "ways") (.loc "train")), (.item (.item (.loc "stand") (.loc "train")) (.int 1))])]
     [],
   .ret (.bin .Add (.bin .Add (.slice (.loc "stand") .none (.loc "train")) (.tup [(.loc "spot")])) (.slice (.loc "stand") (.bin .Add (.loc "train") (.int 1)) .none))]
def p_after : List String := ["lane", "ways", "stand", "move"]
def b_left_to_go : List Sx :=
  [.expr (.call "need_stand" [(.loc "lane"), (.loc "ways"), (.loc "stand")]),
   .assign (.name "found") (.int 0),
   .loop (.tup ["way", "spot"]) (.zip (.loc "ways") (.loc "stand"))
     [.ite (.and [(.cmp (.item (.loc "spot") (.int 0)) [.NotEq] [(.str "out")]), (.cmp (.loc "way") [.Eq] [(.str "right")])])
        [.assign (.name "found") (.bin .Sub (.bin .Add (.loc "found") (.bcall "len" [(.loc "lane")])) (.item (.loc "spot") (.int 1)))]
        [.ite (.cmp (.item (.loc "spot") (.int 0)) [.NotEq] [(.str "out")])
           [.assign (.name "found") (.bin .Add (.bin .Add (.loc "found") (.item (.loc "spot") (.int 1))) (.int 1))]
           []]],
   .ret (.loc "found")]
def p_left_to_go : List String := ["lane", "ways", "stand"]
def b_allowed : List Sx :=
  [.expr (.call "need_stand" [(.loc "lane"), (.loc "ways"), (.loc "stand")]),
   .ret (.call "all_moves" [(.loc "lane"), (.loc "ways"), (.loc "stand")])]
def p_allowed : List String := ["lane", "ways", "stand"]
def b_is_form : List Sx :=
  [.ite (.or [(.not (.bcall "isinstance" [(.loc "move"), (.glob "tuple")])), (.cmp (.bcall "len" [(.loc "move")]) [.NotEq] [(.int 2)]), (.not (.bcall "isinstance" [(.item (.loc "move") (.int 0)), (.glob "str")]))])
     [.ret (.bool false)]
     [],
   .ret (.and [(.bcall "isinstance" [(.item (.loc "move") (.int 1)), (.glob "int")]), (.not (.bcall "isinstance" [(.item (.loc "move") (.int 1)), (.glob "bool")]))])]
def p_is_form : List String := ["move"]
def b_behind : List Sx :=
  [.expr (.call "need_stand" [(.loc "lane"), (.loc "ways"), (.loc "stand")]),
   .ite (.or [(.not (.call "is_form" [(.loc "move")])), (.cmp (.loc "move") [.NotIn] [(.call "all_moves" [(.loc "lane"), (.loc "ways"), (.loc "stand")])])])
     [.raise "NoMove" "no move that is allowed"]
     [],
   .ret (.call "after" [(.loc "lane"), (.loc "ways"), (.loc "stand"), (.loc "move")])]
def p_behind : List String := ["lane", "ways", "stand", "move"]
def b_law_cell_at : List Sx :=
  [.ite (.cmp (.loc "_law_k") [.Lt] [(.bcall "len" [(.loc "_law_script")])])
     [.ret (.item (.loc "_law_script") (.loc "_law_k"))]
     [],
   .ret (.int 0)]
def p_law_cell_at : List String := ["_law_script", "_law_k"]
def b_law_whole : List Sx :=
  [.ret (.and [(.bcall "isinstance" [(.loc "_law_found"), (.glob "int")]), (.not (.bcall "isinstance" [(.loc "_law_found"), (.glob "bool")]))])]
def p_law_whole : List String := ["_law_found"]
def b_law_mixed : List Sx :=
  [.assign (.name "_law_first") (.bin .Add (.call "_law_cell_at" [(.loc "_law_script"), (.int 0)]) (.bin .Mult (.int 3) (.call "_law_cell_at" [(.loc "_law_script"), (.int 1)]))),
   .ret (.bin .FloorDiv (.bin .Mod (.bin .Mult (.bin .Mod (.bin .Add (.bin .Add (.call "_law_cell_at" [(.loc "_law_script"), (.loc "_law_k")]) (.bin .Mult (.loc "_law_first") (.bin .Add (.loc "_law_k") (.int 1)))) (.bin .Mult (.int 104729) (.loc "_law_k"))) (.int 1000000007)) (.int 48271)) (.int 2147483647)) (.int 3))]
def p_law_mixed : List String := ["_law_script", "_law_k"]
def b_law_spot : List Sx :=
  [.assign (.name "_law_spots") (.bin .Add (.comp (.tup [(.str "lane"), (.loc "_law_place")]) (.name "_law_place") (.bcall "range" [(.bcall "len" [(.loc "_law_lane")])]) []) (.comp (.tup [(.str "side"), (.loc "_law_place")]) (.name "_law_place") (.bcall "range" [(.bcall "len" [(.loc "_law_lane")])]) [])),
   .ite (.cmp (.bin .Mod (.bin .FloorDiv (.loc "_law_cell") (.int 16)) (.int 9)) [.Eq] [(.int 1)])
     [.ret (.tup [(.str "out")])]
     [],
   .loop (.name "_law_k") (.bcall "range" [(.bcall "len" [(.loc "_law_spots")])])
     [.assign (.name "_law_spot_here") (.item (.loc "_law_spots") (.bin .Mod (.bin .Add (.loc "_law_cell") (.loc "_law_k")) (.bcall "len" [(.loc "_law_spots")]))),
      .ite (.or [(.and [(.cmp (.item (.loc "_law_spot_here") (.int 0)) [.Eq] [(.str "lane")]), (.cmp (.loc "_law_spot_here") [.NotIn] [(.loc "_law_stand")])]), (.and [(.cmp (.item (.loc "_law_spot_here") (.int 0)) [.Eq] [(.str "side")]), (.cmp (.meth (.loc "_law_stand") "count" [(.loc "_law_spot_here")]) [.Lt] [(.item (.loc "_law_lane") (.item (.loc "_law_spot_here") (.int 1)))])])])
        [.ret (.loc "_law_spot_here")]
        []],
   .ret (.tup [(.str "out")])]
def p_law_spot : List String := ["_law_lane", "_law_stand", "_law_cell"]
def b_law_built : List Sx :=
  [.assign (.name "_law_first") (.call "_law_cell_at" [(.loc "_law_script"), (.int 0)]),
   .assign (.name "_law_second") (.call "_law_cell_at" [(.loc "_law_script"), (.int 1)]),
   .assign (.name "_law_many") (.bin .Add (.int 1) (.bin .Mod (.loc "_law_first") (.int 4))),
   .assign (.name "_law_trains") (.bin .Add (.int 1) (.bin .Mod (.loc "_law_second") (.int 3))),
   .ite (.cmp (.bin .Mod (.bin .FloorDiv (.loc "_law_first") (.int 4)) (.int 8)) [.Eq] [(.int 1)])
     [.assign (.name "_law_many") (.bin .Add (.int 5) (.bin .Mod (.bin .FloorDiv (.loc "_law_first") (.int 32)) (.int 4))),
      .assign (.name "_law_trains") (.bin .Add (.int 1) (.bin .Mod (.loc "_law_second") (.int 2)))]
     [],
   .ite (.cmp (.bin .Mod (.bin .FloorDiv (.loc "_law_first") (.int 4)) (.int 8)) [.Eq] [(.int 2)])
     [.assign (.name "_law_many") (.bin .Add (.int 1) (.bin .Mod (.bin .FloorDiv (.loc "_law_first") (.int 32)) (.int 3))),
      .assign (.name "_law_trains") (.bin .Add (.int 4) (.bin .Mod (.loc "_law_second") (.int 3)))]
     [],
   .assign (.name "_law_rooms") (.item (.list [(.list [(.int 0), (.int 1), (.int 0), (.int 2), (.int 1), (.int 0), (.int 3), (.int 4)]), (.list [(.int 0), (.int 0), (.int 0), (.int 0), (.int 1), (.int 0), (.int 0), (.int 0)])]) (.bcall "int" [(.cmp (.bin .Mod (.bin .FloorDiv (.loc "_law_second") (.int 3)) (.int 3)) [.Gt] [(.int 0)])])),
   .assign (.name "_law_lane") (.comp (.item (.loc "_law_rooms") (.bin .Mod (.call "_law_mixed" [(.loc "_law_script"), (.bin .Add (.int 2) (.loc "_law_k"))]) (.int 8))) (.name "_law_k") (.bcall "range" [(.loc "_law_many")]) []),
   .assign (.name "_law_ways") (.list []),
   .assign (.name "_law_stand") (.list []),
   .loop (.name "_law_k") (.bcall "range" [(.loc "_law_trains")])
     [.assign (.name "_law_cell") (.call "_law_mixed" [(.loc "_law_script"), (.bin .Add (.int 10) (.loc "_law_k"))]),
      .expr (.meth (.loc "_law_ways") "append" [(.item (.list [(.str "right"), (.str "left")]) (.bin .Mod (.loc "_law_cell") (.int 2)))]),
      .expr (.meth (.loc "_law_stand") "append" [(.call "_law_spot" [(.loc "_law_lane"), (.loc "_law_stand"), (.bin .FloorDiv (.loc "_law_cell") (.int 2))])])],
   .ret (.tup [(.loc "_law_lane"), (.loc "_law_ways"), (.bcall "tuple" [(.loc "_law_stand")])])]
def p_law_built : List String := ["_law_script"]
def b_law_left : List Sx :=
  [.assign (.name "_law_total") (.int 0),
   .loop (.name "_law_k") (.bcall "range" [(.bcall "len" [(.loc "_law_stand")])])
     [.ite (.cmp (.item (.item (.loc "_law_stand") (.loc "_law_k")) (.int 0)) [.NotEq] [(.str "out")])
        [.assign (.name "_law_total") (.bin .Add (.loc "_law_total") (.item (.list [(.bin .Add (.item (.item (.loc "_law_stand") (.loc "_law_k")) (.int 1)) (.int 1)), (.bin .Sub (.bcall "len" [(.loc "_law_lane")]) (.item (.item (.loc "_law_stand") (.loc "_law_k")) (.int 1)))]) (.bcall "int" [(.cmp (.item (.loc "_law_ways") (.loc "_law_k")) [.Eq] [(.str "right")])])))]
        []],
   .ret (.loc "_law_total")]
def p_law_left : List String := ["_law_lane", "_law_ways", "_law_stand"]
end
end Mine

/-! LB03 -/
open PySem
set_option autoImplicit false
set_option linter.unusedVariables false
namespace Mine
noncomputable section
def b_law_stuck : List Sx :=
  [.loop (.name "_law_k") (.bcall "range" [(.bcall "len" [(.loc "_law_stand")])])
     [.ite (.cmp (.item (.item (.loc "_law_stand") (.loc "_law_k")) (.int 0)) [.Eq] [(.str "out")])
        [.cont]
        [],
      .assign (.name "_law_goal") (.bin .Add (.item (.item (.loc "_law_stand") (.loc "_law_k")) (.int 1)) (.item (.list [(.neg 1), (.int 1)]) (.bcall "int" [(.cmp (.item (.loc "_law_ways") (.loc "_law_k")) [.Eq] [(.str "right")])]))),
      .ite (.cmp (.tup [(.str "lane"), (.loc "_law_goal")]) [.NotIn] [(.loc "_law_stand")])
        [.ret (.bool false)]
        [],
      .ite (.and [(.cmp (.item (.item (.loc "_law_stand") (.loc "_law_k")) (.int 0)) [.Eq] [(.str "lane")]), (.cmp (.meth (.loc "_law_stand") "count" [(.tup [(.str "side"), (.item (.item (.loc "_law_stand") (.loc "_law_k")) (.int 1))])]) [.Lt] [(.item (.loc "_law_lane") (.item (.item (.loc "_law_stand") (.loc "_law_k")) (.int 1)))])])
        [.ret (.bool false)]
        []],
   .ret (.bool true)]
def p_law_stuck : List String := ["_law_lane", "_law_ways", "_law_stand"]
def b_law : List Sx :=
  [.assign (.tup ["_law_lane", "_law_ways", "_law_stand"]) (.call "_law_built" [(.loc "_law_script")]),
   .assign (.name "_law_left_here") (.call "_law_left" [(.loc "_law_lane"), (.loc "_law_ways"), (.loc "_law_stand")]),
   .assign (.name "_law_begun") (.loc "_law_left_here"),
   .assign (.name "_law_asides") (.int 0),
   .assign (.name "_law_turn") (.int 0),
   .ite (.or [(.not (.call "_law_whole" [(.call "left_to_go" [(.loc "_law_lane"), (.loc "_law_ways"), (.loc "_law_stand")])])), (.cmp (.call "left_to_go" [(.loc "_law_lane"), (.loc "_law_ways"), (.loc "_law_stand")]) [.NotEq] [(.loc "_law_left_here")])])
     [.ret (.bool false)]
     [],
   .assign (.name "_law_some") (.call "allowed" [(.loc "_law_lane"), (.loc "_law_ways"), (.loc "_law_stand")]),
   .while (.and [(.cmp (.loc "_law_some") [.NotEq] [(.list [])]), (.cmp (.loc "_law_turn") [.Lt] [(.int 200)])])
     [.assign (.name "_law_move") (.item (.loc "_law_some") (.bin .Mod (.bin .Add (.call "_law_cell_at" [(.loc "_law_script"), (.bin .Add (.int 16) (.bin .Mod (.loc "_law_turn") (.int 9)))]) (.bin .Mult (.int 3) (.loc "_law_turn"))) (.bcall "len" [(.loc "_law_some")]))),
      .assign (.name "_law_stand") (.call "behind" [(.loc "_law_lane"), (.loc "_law_ways"), (.loc "_law_stand"), (.loc "_law_move")]),
      .assign (.name "_law_turn") (.bin .Add (.loc "_law_turn") (.int 1)),
      .assign (.name "_law_left_here") (.bin .Sub (.loc "_law_left_here") (.bcall "int" [(.cmp (.item (.loc "_law_move") (.int 0)) [.NotEq] [(.str "aside")])])),
      .assign (.name "_law_asides") (.bin .Add (.loc "_law_asides") (.bcall "int" [(.cmp (.item (.loc "_law_move") (.int 0)) [.Eq] [(.str "aside")])])),
      .ite (.or [(.cmp (.call "left_to_go" [(.loc "_law_lane"), (.loc "_law_ways"), (.loc "_law_stand")]) [.NotEq] [(.loc "_law_left_here")]), (.cmp (.call "_law_left" [(.loc "_law_lane"), (.loc "_law_ways"), (.loc "_law_stand")]) [.NotEq] [(.loc "_law_left_here")])])
        [.ret (.bool false)]
        [],
      .assign (.name "_law_some") (.call "allowed" [(.loc "_law_lane"), (.loc "_law_ways"), (.loc "_law_stand")])],
   .ret (.and [(.cmp (.loc "_law_turn") [.Eq] [(.bin .Add (.bin .Sub (.loc "_law_begun") (.loc "_law_left_here")) (.loc "_law_asides"))]), (.cmp (.loc "_law_some") [.Eq] [(.list [])]), (.call "_law_stuck" [(.loc "_law_lane"), (.loc "_law_ways"), (.loc "_law_stand")])])]
def p_law : List String := ["_law_script"]
end
end Mine

/-! LQ1 -/
open PySem
set_option Elab.async false
set_option autoImplicit false
set_option linter.unusedVariables false
set_option linter.unusedSimpArgs false
namespace Mine
noncomputable section
def Spot.d : Spot → D
  | .out => .tup [.str "out"]
  | .lane p => .tup [.str "lane", .int p]
  | .side p => .tup [.str "side", .int p]
def wayD (b : Bool) : D := .str (if b then "right" else "left")
def natD (n : Nat) : D := .int n
def Word.d : Word → D
  | .go => .str "go"
  | .on => .str "on"
  | .aside => .str "aside"
def moveD (m : Move) : D := .tup [m.1.d, .int m.2]
def laneD (lane : List Nat) : List D := lane.map natD
def waysD (ways : List Bool) : List D := ways.map wayD
def standD (st : List Spot) : D := .tup (st.map Spot.d)
theorem pures_map {α : Type} (f : α → D) (n : Nat) (h : ∀ a, (f a).pureAt n = true) : ∀ xs : List α, D.puresAt n (xs.map f) = true
  | [] => rfl
  | x :: xs => Bool.and_eq_true_iff.mpr ⟨h x, pures_map f n h xs⟩
theorem spot_pureAt (s : Spot) (n : Nat) : s.d.pureAt (n + 1) = true := by cases s <;> rfl
theorem spot_pure (s : Spot) : s.d.pure = true := spot_pureAt s 7
theorem spots_pure (st : List Spot) : D.pures (st.map Spot.d) = true := pures_map _ _ spot_pure st
theorem move_pure (m : Move) : (moveD m).pure = true := by obtain ⟨w, t⟩ := m; cases w <;> rfl
theorem moves_pure (ms : List Move) : D.pures (ms.map moveD) = true := pures_map _ _ move_pure ms
theorem stand_pure (st : List Spot) : (standD st).pure = true := by
  exact pures_map _ _ (fun s => spot_pureAt s 6) st
theorem deq_num (p q : Nat) : ((p : Int) == (q : Int)) = decide (p = q) := by rw [Bool.eq_iff_iff, beq_iff_eq, decide_eq_true_eq]; exact Int.ofNat_inj
theorem deq_two {x y : String} {p q : Nat} : deq (.tup [.str x, .int p]) (.tup [.str y, .int q]) = (x == y && decide (p = q)) := by
  show ((x == y) && (((p : Int) == (q : Int)) && true)) = _
  rw [Bool.and_true, deq_num]
theorem deq_spot (s t : Spot) : deq s.d t.d = decide (s = t) := by
  cases s <;> cases t <;> first | rfl | (refine deq_two.trans ?_; rw [Bool.eq_iff_iff]; simp)
theorem deq_move (s t : Move) : deq (moveD s) (moveD t) = decide (s = t) := by
  obtain ⟨w, a⟩ := s; obtain ⟨v, b⟩ := t
  cases w <;> cases v <;> (refine deq_two.trans ?_; rw [Bool.eq_iff_iff]; simp)
theorem any_map {α : Type} [DecidableEq α] (f : α → D) (h : ∀ a b, deq (f a) (f b) = decide (a = b)) (x : α) : ∀ xs : List α, (xs.map f).any (fun y => deq y (f x)) = xs.contains x
  | [] => rfl
  | y :: ys => by
    rw [List.map_cons, List.any_cons, List.contains_cons, any_map f h x ys, h]
    congr 1
    rw [Bool.eq_iff_iff]; simp; exact eq_comm
theorem count_map {α : Type} [DecidableEq α] (f : α → D) (h : ∀ a b, deq (f a) (f b) = decide (a = b)) (x : α) : ∀ xs : List α, (xs.map f).countP (fun y => deq y (f x)) = xs.count x
  | [] => rfl
  | y :: ys => by
    rw [List.map_cons, List.countP_cons, List.count_cons, count_map f h x ys, h]
    simp
theorem any_spot (s : Spot) (st : List Spot) : (st.map Spot.d).any (fun y => deq y s.d) = st.contains s := any_map _ deq_spot s st
theorem count_spot (s : Spot) (st : List Spot) : (st.map Spot.d).countP (fun y => deq y s.d) = st.count s := count_map _ deq_spot s st
theorem any_move (s : Move) (st : List Move) : (st.map moveD).any (fun y => deq y (moveD s)) = decide (s ∈ st) := by
  rw [any_map _ deq_move s st, Bool.eq_iff_iff, @List.contains_iff_mem]; simp
theorem at_map {α : Type} {f : α → D} {xs : List α} {i : Nat} {x : α} (h : xs[i]? = some x) : (xs.map f)[i]? = some (f x) := by rw [List.getElem?_map, h]; rfl
theorem of_at_map {α : Type} {f : α → D} {xs : List α} {i : Nat} {d : D} (h : (xs.map f)[i]? = some d) : ∃ x, xs[i]? = some x ∧ d = f x := by
  rw [List.getElem?_map] at h
  cases e : xs[i]? with
  | none => rw [e] at h; cases h
  | some x => rw [e] at h; cases h; exact ⟨x, rfl, rfl⟩
theorem eq_way_l {σ : Sto} {w : Bool} {Q : Bool → Prop} : eqW σ (wayD w) (.str "left") Q = Q (!w) := by rw [wayD, eq_str]; cases w <;> simp
theorem eq_way_r {σ : Sto} {w : Bool} {Q : Bool → Prop} : eqW σ (wayD w) (.str "right") Q = Q w := by rw [wayD, eq_str]; cases w <;> simp
theorem eq_spot {σ : Sto} {s t : Spot} {Q : Bool → Prop} : eqW σ s.d t.d Q = Q (decide (s = t)) := by simp [eqW, spot_pure, deq_spot]
theorem eq_out {σ : Sto} {s : Spot} {Q : Bool → Prop} : eqW σ s.d (.tup [.str "out"]) Q = Q (decide (s = .out)) := eq_spot (t := .out)
theorem ma_lane {σ : Sto} {st : List Spot} {p : Nat} {Q : PostE} : methA (.tup (st.map Spot.d)) "tuple" "count" [.tup [.str "lane", .int p]] σ Q = Q (.int (st.count (.lane p) : Nat)) σ :=
  (ma_count (spot_pure (.lane p)) (spots_pure st)).trans (by rw [count_spot])
theorem ma_side {σ : Sto} {st : List Spot} {p : Nat} {Q : PostE} : methA (.tup (st.map Spot.d)) "tuple" "count" [.tup [.str "side", .int p]] σ Q = Q (.int (st.count (.side p) : Nat)) σ :=
  (ma_count (spot_pure (.side p)) (spots_pure st)).trans (by rw [count_spot])
theorem in_spot {σ : Sto} {st : List Spot} {s : Spot} {Q : Bool → Prop} : inW s.d (.tup (st.map Spot.d)) σ Q = Q (decide (s ∈ st)) := by
  rw [in_tup (spot_pure s) (spots_pure st), any_spot]; congr 1; rw [Bool.eq_iff_iff]; simp
theorem in_lane {σ : Sto} {st : List Spot} {p : Nat} {Q : Bool → Prop} : inW (.tup [.str "lane", .int p]) (.tup (st.map Spot.d)) σ Q = Q (decide (Spot.lane p ∈ st)) := in_spot (s := .lane p)
theorem eq_aside {σ : Sto} {w : Word} {Q : Bool → Prop} : eqW σ w.d (.str "aside") Q = Q (decide (w = .aside)) := by cases w <;> rw [Word.d, eq_str] <;> simp
theorem lane_len (lane : List Nat) : (laneD lane).length = lane.length := by simp [laneD]
theorem ways_len (ways : List Bool) : (waysD ways).length = ways.length := by simp [waysD]

theorem lt63 {i n k : Nat} (h : i < n) (hn : n ≤ k) (hk : k ≤ 4096 := by decide) : i < 2 ^ 63 := Nat.lt_of_lt_of_le h (Nat.le_trans hn (Nat.le_trans hk (by decide)))
theorem le_line {n k : Nat} (hn : n ≤ k) (hk : k ≤ 4096 := by decide) : n ≤ line := Nat.le_trans hn (Nat.le_trans hk (by decide))
theorem bc_lane {σ : Sto} {a : Addr} {lane : List Nat} {Q : PostE} (ha : σ a = some (.list (laneD lane))) (h8 : lane.length ≤ 8) : bcallW "len" [.ref a] σ Q = Q (.int (lane.length : Nat)) σ := by rw [bc_len ha (by rw [lane_len]; omega), lane_len]
theorem bc_ways {σ : Sto} {a : Addr} {ways : List Bool} {Q : PostE} (ha : σ a = some (.list (waysD ways))) (h8 : ways.length ≤ 6) : bcallW "len" [.ref a] σ Q = Q (.int (ways.length : Nat)) σ := by rw [bc_len ha (by rw [ways_len]; omega), ways_len]

/-- what the shared defs ask -/
structure Core (K : Nat → Kx) : Prop where
  gint : ∀ n, (K n).glob "int" = some (.val (.type "int"))
  gbool : ∀ n, (K n).glob "bool" = some (.val (.type "bool"))
  gstr : ∀ n, (K n).glob "str" = some (.val (.type "str"))
  gtuple : ∀ n, (K n).glob "tuple" = some (.val (.type "tuple"))
  glist : ∀ n, (K n).glob "list" = some (.val (.type "list"))
  g8 : ∀ n, (K n).glob "MOST_PLACES" = some (.int 8)
  g4 : ∀ n, (K n).glob "MOST_HELD" = some (.int 4)
  g6 : ∀ n, (K n).glob "MOST_TRAINS" = some (.int 6)
  is_count : Fn K "is_count" p_is_count b_is_count
  need_lane : Fn K "need_lane" p_need_lane b_need_lane
  need_ways : Fn K "need_ways" p_need_ways b_need_ways
  is_spot : Fn K "is_spot" p_is_spot b_is_spot
  need_stand : Fn K "need_stand" p_need_stand b_need_stand
  ahead_of : Fn K "ahead_of" p_ahead_of b_ahead_of
  is_clear : Fn K "is_clear" p_is_clear b_is_clear
  moves_of : Fn K "moves_of" p_moves_of b_moves_of
  all_moves : Fn K "all_moves" p_all_moves b_all_moves
  after : Fn K "after" p_after b_after
  cell_at : Fn K "_law_cell_at" p_law_cell_at b_law_cell_at
  mixed : Fn K "_law_mixed" p_law_mixed b_law_mixed
  spot : Fn K "_law_spot" p_law_spot b_law_spot
  built : Fn K "_law_built" p_law_built b_law_built

section
variable {K : Nat → Kx} {n : Nat} {F : D → Prop}
theorem Core.int (H : Core K) : rd ((K n).glob "int") F = F (.val (.type "int")) := rd_of (H.gint n)
theorem Core.bool (H : Core K) : rd ((K n).glob "bool") F = F (.val (.type "bool")) := rd_of (H.gbool n)
theorem Core.str (H : Core K) : rd ((K n).glob "str") F = F (.val (.type "str")) := rd_of (H.gstr n)
theorem Core.tuple (H : Core K) : rd ((K n).glob "tuple") F = F (.val (.type "tuple")) := rd_of (H.gtuple n)
theorem Core.list (H : Core K) : rd ((K n).glob "list") F = F (.val (.type "list")) := rd_of (H.glist n)
theorem Core.n8 (H : Core K) : rd ((K n).glob "MOST_PLACES") F = F (.int 8) := rd_of (H.g8 n)
theorem Core.n4 (H : Core K) : rd ((K n).glob "MOST_HELD") F = F (.int 4) := rd_of (H.g4 n)
theorem Core.n6 (H : Core K) : rd ((K n).glob "MOST_TRAINS") F = F (.int 6) := rd_of (H.g6 n)
end

section
variable {K : Nat → Kx} {n : Nat} {σ : Sto} {Q : PostE}
theorem c_is_count (H : Core K) {i m : Int} (h : Q (.bool (decide (0 ≤ i ∧ i ≤ m))) σ) : (K (n + 1)).call "is_count" [.int i, .int m] σ Q := by
  refine H.is_count.run _ _ _ _ rfl ?_
  (repeat (first | refine seqN ?_ | simp only [↓x_nil, ↓x_cons, ↓seq_ret, ↓seq_cont, ↓turn_next, ↓turn_cont, ↓turn_ret, ↓x_assign, ↓x_ite, ↓x_loop_loc, ↓x_loop_bcall, ↓x_loop_call, ↓x_loop_item, ↓x_loop_tup, ↓x_loop_zip, ↓x_while, ↓x_ret, ↓x_cont, ↓x_expr, ↓x_raise, ↓e_none, ↓e_bool, ↓e_int, ↓e_str, ↓e_neg, ↓e_loc, ↓e_glob, ↓e_bin, ↓e_not, ↓e_and, ↓e_or, ↓e_cmp, ↓e_call, ↓e_bcall, ↓e_meth, ↓e_item, ↓e_slice, ↓e_tup, ↓e_list, ↓e_comp, ↓es_nil, ↓es_cons, ↓b_one, ↓b_and, ↓b_or, ↓a_nil, ↓a_and, ↓a_or, ↓cs_nil, ↓cs_cons, ↓c_one, ↓c_two, ↓t_not, ↓t_and, ↓t_or, ↓t_cmp, ↓t_call, ↓t_bcall, ↓t_loc, ↓tr_bool, ↓as_name, ↓as_2, ↓as_3, ↓sets_nil, ↓sets_cons, ↓ret_ret, ↓ret_next, ↓br_true, ↓br_false, ↓br_not, ↓rd_set, ↓rdi_0, ↓rdi_1, ↓g_len, ↓g_isinstance, ↓g_range, ↓g_int, ↓g_tuple, ↓g_list, ↓g_dict, ↓g_min, ↓g_all, ↓mt_count, ↓it_tup, ↓it_put, ↓bin_add, ↓bin_sub, ↓bin_mul, ↓bin_mod, ↓bin_div, ↓bin_tup, ↓cm_eq, ↓cm_ne, ↓cm_lt, ↓cm_le, ↓cm_gt, ↓cm_ge, ↓cm_in, ↓cm_nin, ↓eq_str, ↓eq_int, ↓in_strs, ↓bc_len_1, ↓bc_len_2, ↓lit_10, ↓lit_20, ↓lit_11, ↓lit_22, ↓mk_put, ↓g_append, ↓g_extend, ↓g_count, ↓ma_append, ↓len_put, ↓sl_take, ↓sl_drop, ↓x_app, ↓bc_range, ↓bc_int, ↓is_int_int, ↓is_int_bool, ↓is_str_str, ↓is_tup_tup, ↓is_bool_bool, ↓is_bool_int, ↓reduceIte, String.reduceEq, ↓b_is_count, ↓p_is_count, ↓H.int, ↓H.bool]))
  refine br_dec (fun q => ?_) (fun q => ?_)
  · simpa [q] using h
  · simpa [q] using h
theorem c_ahead_of (H : Core K) {a : Addr} {lane : List Nat} {w : Bool} {p : Nat} (ha : σ a = some (.list (laneD lane))) (h8 : lane.length ≤ 8) (hp : p < lane.length) (h : Q (ahead lane.length w p).d σ) : (K (n + 1)).call "ahead_of" [.ref a, wayD w, .int p] σ Q := by
  refine H.ahead_of.run _ _ _ _ rfl ?_
  (repeat (first | refine seqN ?_ | simp only [↓x_nil, ↓x_cons, ↓seq_ret, ↓seq_cont, ↓turn_next, ↓turn_cont, ↓turn_ret, ↓x_assign, ↓x_ite, ↓x_loop_loc, ↓x_loop_bcall, ↓x_loop_call, ↓x_loop_item, ↓x_loop_tup, ↓x_loop_zip, ↓x_while, ↓x_ret, ↓x_cont, ↓x_expr, ↓x_raise, ↓e_none, ↓e_bool, ↓e_int, ↓e_str, ↓e_neg, ↓e_loc, ↓e_glob, ↓e_bin, ↓e_not, ↓e_and, ↓e_or, ↓e_cmp, ↓e_call, ↓e_bcall, ↓e_meth, ↓e_item, ↓e_slice, ↓e_tup, ↓e_list, ↓e_comp, ↓es_nil, ↓es_cons, ↓b_one, ↓b_and, ↓b_or, ↓a_nil, ↓a_and, ↓a_or, ↓cs_nil, ↓cs_cons, ↓c_one, ↓c_two, ↓t_not, ↓t_and, ↓t_or, ↓t_cmp, ↓t_call, ↓t_bcall, ↓t_loc, ↓tr_bool, ↓as_name, ↓as_2, ↓as_3, ↓sets_nil, ↓sets_cons, ↓ret_ret, ↓ret_next, ↓br_true, ↓br_false, ↓br_not, ↓rd_set, ↓rdi_0, ↓rdi_1, ↓g_len, ↓g_isinstance, ↓g_range, ↓g_int, ↓g_tuple, ↓g_list, ↓g_dict, ↓g_min, ↓g_all, ↓mt_count, ↓it_tup, ↓it_put, ↓bin_add, ↓bin_sub, ↓bin_mul, ↓bin_mod, ↓bin_div, ↓bin_tup, ↓cm_eq, ↓cm_ne, ↓cm_lt, ↓cm_le, ↓cm_gt, ↓cm_ge, ↓cm_in, ↓cm_nin, ↓eq_str, ↓eq_int, ↓in_strs, ↓bc_len_1, ↓bc_len_2, ↓lit_10, ↓lit_20, ↓lit_11, ↓lit_22, ↓mk_put, ↓g_append, ↓g_extend, ↓g_count, ↓ma_append, ↓len_put, ↓sl_take, ↓sl_drop, ↓x_app, ↓bc_range, ↓bc_int, ↓is_int_int, ↓is_int_bool, ↓is_str_str, ↓is_tup_tup, ↓is_bool_bool, ↓is_bool_int, ↓reduceIte, String.reduceEq, ↓b_ahead_of, ↓p_ahead_of, ↓eq_way_l]))
  cases w
  · simp only [ahead, Bool.false_eq_true, if_false] at h
    (repeat (first | refine seqN ?_ | simp only [↓x_nil, ↓x_cons, ↓seq_ret, ↓seq_cont, ↓turn_next, ↓turn_cont, ↓turn_ret, ↓x_assign, ↓x_ite, ↓x_loop_loc, ↓x_loop_bcall, ↓x_loop_call, ↓x_loop_item, ↓x_loop_tup, ↓x_loop_zip, ↓x_while, ↓x_ret, ↓x_cont, ↓x_expr, ↓x_raise, ↓e_none, ↓e_bool, ↓e_int, ↓e_str, ↓e_neg, ↓e_loc, ↓e_glob, ↓e_bin, ↓e_not, ↓e_and, ↓e_or, ↓e_cmp, ↓e_call, ↓e_bcall, ↓e_meth, ↓e_item, ↓e_slice, ↓e_tup, ↓e_list, ↓e_comp, ↓es_nil, ↓es_cons, ↓b_one, ↓b_and, ↓b_or, ↓a_nil, ↓a_and, ↓a_or, ↓cs_nil, ↓cs_cons, ↓c_one, ↓c_two, ↓t_not, ↓t_and, ↓t_or, ↓t_cmp, ↓t_call, ↓t_bcall, ↓t_loc, ↓tr_bool, ↓as_name, ↓as_2, ↓as_3, ↓sets_nil, ↓sets_cons, ↓ret_ret, ↓ret_next, ↓br_true, ↓br_false, ↓br_not, ↓rd_set, ↓rdi_0, ↓rdi_1, ↓g_len, ↓g_isinstance, ↓g_range, ↓g_int, ↓g_tuple, ↓g_list, ↓g_dict, ↓g_min, ↓g_all, ↓mt_count, ↓it_tup, ↓it_put, ↓bin_add, ↓bin_sub, ↓bin_mul, ↓bin_mod, ↓bin_div, ↓bin_tup, ↓cm_eq, ↓cm_ne, ↓cm_lt, ↓cm_le, ↓cm_gt, ↓cm_ge, ↓cm_in, ↓cm_nin, ↓eq_str, ↓eq_int, ↓in_strs, ↓bc_len_1, ↓bc_len_2, ↓lit_10, ↓lit_20, ↓lit_11, ↓lit_22, ↓mk_put, ↓g_append, ↓g_extend, ↓g_count, ↓ma_append, ↓len_put, ↓sl_take, ↓sl_drop, ↓x_app, ↓bc_range, ↓bc_int, ↓is_int_int, ↓is_int_bool, ↓is_str_str, ↓is_tup_tup, ↓is_bool_bool, ↓is_bool_int, ↓reduceIte, String.reduceEq, ↓Bool.not_false]))
    by_cases e : p = 0
    · subst e
      (repeat (first | refine seqN ?_ | simp only [↓x_nil, ↓x_cons, ↓seq_ret, ↓seq_cont, ↓turn_next, ↓turn_cont, ↓turn_ret, ↓x_assign, ↓x_ite, ↓x_loop_loc, ↓x_loop_bcall, ↓x_loop_call, ↓x_loop_item, ↓x_loop_tup, ↓x_loop_zip, ↓x_while, ↓x_ret, ↓x_cont, ↓x_expr, ↓x_raise, ↓e_none, ↓e_bool, ↓e_int, ↓e_str, ↓e_neg, ↓e_loc, ↓e_glob, ↓e_bin, ↓e_not, ↓e_and, ↓e_or, ↓e_cmp, ↓e_call, ↓e_bcall, ↓e_meth, ↓e_item, ↓e_slice, ↓e_tup, ↓e_list, ↓e_comp, ↓es_nil, ↓es_cons, ↓b_one, ↓b_and, ↓b_or, ↓a_nil, ↓a_and, ↓a_or, ↓cs_nil, ↓cs_cons, ↓c_one, ↓c_two, ↓t_not, ↓t_and, ↓t_or, ↓t_cmp, ↓t_call, ↓t_bcall, ↓t_loc, ↓tr_bool, ↓as_name, ↓as_2, ↓as_3, ↓sets_nil, ↓sets_cons, ↓ret_ret, ↓ret_next, ↓br_true, ↓br_false, ↓br_not, ↓rd_set, ↓rdi_0, ↓rdi_1, ↓g_len, ↓g_isinstance, ↓g_range, ↓g_int, ↓g_tuple, ↓g_list, ↓g_dict, ↓g_min, ↓g_all, ↓mt_count, ↓it_tup, ↓it_put, ↓bin_add, ↓bin_sub, ↓bin_mul, ↓bin_mod, ↓bin_div, ↓bin_tup, ↓cm_eq, ↓cm_ne, ↓cm_lt, ↓cm_le, ↓cm_gt, ↓cm_ge, ↓cm_in, ↓cm_nin, ↓eq_str, ↓eq_int, ↓in_strs, ↓bc_len_1, ↓bc_len_2, ↓lit_10, ↓lit_20, ↓lit_11, ↓lit_22, ↓mk_put, ↓g_append, ↓g_extend, ↓g_count, ↓ma_append, ↓len_put, ↓sl_take, ↓sl_drop, ↓x_app, ↓bc_range, ↓bc_int, ↓is_int_int, ↓is_int_bool, ↓is_str_str, ↓is_tup_tup, ↓is_bool_bool, ↓is_bool_int, ↓reduceIte, String.reduceEq, ↓br_neg (show ¬ (0 : Int) ≤ (0 : Nat) - 1 by decide)]))
      simpa [Spot.d] using h
    · have h2 : ((p - 1 : Nat) : Int) = (p : Int) - 1 := by omega
      simp only [if_neg e, Spot.d, h2] at h
      (repeat (first | refine seqN ?_ | simp only [↓x_nil, ↓x_cons, ↓seq_ret, ↓seq_cont, ↓turn_next, ↓turn_cont, ↓turn_ret, ↓x_assign, ↓x_ite, ↓x_loop_loc, ↓x_loop_bcall, ↓x_loop_call, ↓x_loop_item, ↓x_loop_tup, ↓x_loop_zip, ↓x_while, ↓x_ret, ↓x_cont, ↓x_expr, ↓x_raise, ↓e_none, ↓e_bool, ↓e_int, ↓e_str, ↓e_neg, ↓e_loc, ↓e_glob, ↓e_bin, ↓e_not, ↓e_and, ↓e_or, ↓e_cmp, ↓e_call, ↓e_bcall, ↓e_meth, ↓e_item, ↓e_slice, ↓e_tup, ↓e_list, ↓e_comp, ↓es_nil, ↓es_cons, ↓b_one, ↓b_and, ↓b_or, ↓a_nil, ↓a_and, ↓a_or, ↓cs_nil, ↓cs_cons, ↓c_one, ↓c_two, ↓t_not, ↓t_and, ↓t_or, ↓t_cmp, ↓t_call, ↓t_bcall, ↓t_loc, ↓tr_bool, ↓as_name, ↓as_2, ↓as_3, ↓sets_nil, ↓sets_cons, ↓ret_ret, ↓ret_next, ↓br_true, ↓br_false, ↓br_not, ↓rd_set, ↓rdi_0, ↓rdi_1, ↓g_len, ↓g_isinstance, ↓g_range, ↓g_int, ↓g_tuple, ↓g_list, ↓g_dict, ↓g_min, ↓g_all, ↓mt_count, ↓it_tup, ↓it_put, ↓bin_add, ↓bin_sub, ↓bin_mul, ↓bin_mod, ↓bin_div, ↓bin_tup, ↓cm_eq, ↓cm_ne, ↓cm_lt, ↓cm_le, ↓cm_gt, ↓cm_ge, ↓cm_in, ↓cm_nin, ↓eq_str, ↓eq_int, ↓in_strs, ↓bc_len_1, ↓bc_len_2, ↓lit_10, ↓lit_20, ↓lit_11, ↓lit_22, ↓mk_put, ↓g_append, ↓g_extend, ↓g_count, ↓ma_append, ↓len_put, ↓sl_take, ↓sl_drop, ↓x_app, ↓bc_range, ↓bc_int, ↓is_int_int, ↓is_int_bool, ↓is_str_str, ↓is_tup_tup, ↓is_bool_bool, ↓is_bool_int, ↓reduceIte, String.reduceEq, ↓bc_lane ha h8, ↓br_pos (show (0 : Int) ≤ p - 1 by omega), ↓br_pos (show (p : Int) - 1 < lane.length by omega)]))
      exact h
  · simp only [ahead, if_true] at h
    (repeat (first | refine seqN ?_ | simp only [↓x_nil, ↓x_cons, ↓seq_ret, ↓seq_cont, ↓turn_next, ↓turn_cont, ↓turn_ret, ↓x_assign, ↓x_ite, ↓x_loop_loc, ↓x_loop_bcall, ↓x_loop_call, ↓x_loop_item, ↓x_loop_tup, ↓x_loop_zip, ↓x_while, ↓x_ret, ↓x_cont, ↓x_expr, ↓x_raise, ↓e_none, ↓e_bool, ↓e_int, ↓e_str, ↓e_neg, ↓e_loc, ↓e_glob, ↓e_bin, ↓e_not, ↓e_and, ↓e_or, ↓e_cmp, ↓e_call, ↓e_bcall, ↓e_meth, ↓e_item, ↓e_slice, ↓e_tup, ↓e_list, ↓e_comp, ↓es_nil, ↓es_cons, ↓b_one, ↓b_and, ↓b_or, ↓a_nil, ↓a_and, ↓a_or, ↓cs_nil, ↓cs_cons, ↓c_one, ↓c_two, ↓t_not, ↓t_and, ↓t_or, ↓t_cmp, ↓t_call, ↓t_bcall, ↓t_loc, ↓tr_bool, ↓as_name, ↓as_2, ↓as_3, ↓sets_nil, ↓sets_cons, ↓ret_ret, ↓ret_next, ↓br_true, ↓br_false, ↓br_not, ↓rd_set, ↓rdi_0, ↓rdi_1, ↓g_len, ↓g_isinstance, ↓g_range, ↓g_int, ↓g_tuple, ↓g_list, ↓g_dict, ↓g_min, ↓g_all, ↓mt_count, ↓it_tup, ↓it_put, ↓bin_add, ↓bin_sub, ↓bin_mul, ↓bin_mod, ↓bin_div, ↓bin_tup, ↓cm_eq, ↓cm_ne, ↓cm_lt, ↓cm_le, ↓cm_gt, ↓cm_ge, ↓cm_in, ↓cm_nin, ↓eq_str, ↓eq_int, ↓in_strs, ↓bc_len_1, ↓bc_len_2, ↓lit_10, ↓lit_20, ↓lit_11, ↓lit_22, ↓mk_put, ↓g_append, ↓g_extend, ↓g_count, ↓ma_append, ↓len_put, ↓sl_take, ↓sl_drop, ↓x_app, ↓bc_range, ↓bc_int, ↓is_int_int, ↓is_int_bool, ↓is_str_str, ↓is_tup_tup, ↓is_bool_bool, ↓is_bool_int, ↓reduceIte, String.reduceEq, ↓Bool.not_true, ↓br_pos (show (0 : Int) ≤ p + 1 by omega)]))
    by_cases e : p + 1 < lane.length
    · simp only [if_pos e, Spot.d, Int.natCast_add, Int.cast_ofNat_Int] at h
      (repeat (first | refine seqN ?_ | simp only [↓x_nil, ↓x_cons, ↓seq_ret, ↓seq_cont, ↓turn_next, ↓turn_cont, ↓turn_ret, ↓x_assign, ↓x_ite, ↓x_loop_loc, ↓x_loop_bcall, ↓x_loop_call, ↓x_loop_item, ↓x_loop_tup, ↓x_loop_zip, ↓x_while, ↓x_ret, ↓x_cont, ↓x_expr, ↓x_raise, ↓e_none, ↓e_bool, ↓e_int, ↓e_str, ↓e_neg, ↓e_loc, ↓e_glob, ↓e_bin, ↓e_not, ↓e_and, ↓e_or, ↓e_cmp, ↓e_call, ↓e_bcall, ↓e_meth, ↓e_item, ↓e_slice, ↓e_tup, ↓e_list, ↓e_comp, ↓es_nil, ↓es_cons, ↓b_one, ↓b_and, ↓b_or, ↓a_nil, ↓a_and, ↓a_or, ↓cs_nil, ↓cs_cons, ↓c_one, ↓c_two, ↓t_not, ↓t_and, ↓t_or, ↓t_cmp, ↓t_call, ↓t_bcall, ↓t_loc, ↓tr_bool, ↓as_name, ↓as_2, ↓as_3, ↓sets_nil, ↓sets_cons, ↓ret_ret, ↓ret_next, ↓br_true, ↓br_false, ↓br_not, ↓rd_set, ↓rdi_0, ↓rdi_1, ↓g_len, ↓g_isinstance, ↓g_range, ↓g_int, ↓g_tuple, ↓g_list, ↓g_dict, ↓g_min, ↓g_all, ↓mt_count, ↓it_tup, ↓it_put, ↓bin_add, ↓bin_sub, ↓bin_mul, ↓bin_mod, ↓bin_div, ↓bin_tup, ↓cm_eq, ↓cm_ne, ↓cm_lt, ↓cm_le, ↓cm_gt, ↓cm_ge, ↓cm_in, ↓cm_nin, ↓eq_str, ↓eq_int, ↓in_strs, ↓bc_len_1, ↓bc_len_2, ↓lit_10, ↓lit_20, ↓lit_11, ↓lit_22, ↓mk_put, ↓g_append, ↓g_extend, ↓g_count, ↓ma_append, ↓len_put, ↓sl_take, ↓sl_drop, ↓x_app, ↓bc_range, ↓bc_int, ↓is_int_int, ↓is_int_bool, ↓is_str_str, ↓is_tup_tup, ↓is_bool_bool, ↓is_bool_int, ↓reduceIte, String.reduceEq, ↓bc_lane ha h8, ↓br_pos (show (p : Int) + 1 < lane.length by omega)]))
      exact h
    · simp only [if_neg e, Spot.d] at h
      (repeat (first | refine seqN ?_ | simp only [↓x_nil, ↓x_cons, ↓seq_ret, ↓seq_cont, ↓turn_next, ↓turn_cont, ↓turn_ret, ↓x_assign, ↓x_ite, ↓x_loop_loc, ↓x_loop_bcall, ↓x_loop_call, ↓x_loop_item, ↓x_loop_tup, ↓x_loop_zip, ↓x_while, ↓x_ret, ↓x_cont, ↓x_expr, ↓x_raise, ↓e_none, ↓e_bool, ↓e_int, ↓e_str, ↓e_neg, ↓e_loc, ↓e_glob, ↓e_bin, ↓e_not, ↓e_and, ↓e_or, ↓e_cmp, ↓e_call, ↓e_bcall, ↓e_meth, ↓e_item, ↓e_slice, ↓e_tup, ↓e_list, ↓e_comp, ↓es_nil, ↓es_cons, ↓b_one, ↓b_and, ↓b_or, ↓a_nil, ↓a_and, ↓a_or, ↓cs_nil, ↓cs_cons, ↓c_one, ↓c_two, ↓t_not, ↓t_and, ↓t_or, ↓t_cmp, ↓t_call, ↓t_bcall, ↓t_loc, ↓tr_bool, ↓as_name, ↓as_2, ↓as_3, ↓sets_nil, ↓sets_cons, ↓ret_ret, ↓ret_next, ↓br_true, ↓br_false, ↓br_not, ↓rd_set, ↓rdi_0, ↓rdi_1, ↓g_len, ↓g_isinstance, ↓g_range, ↓g_int, ↓g_tuple, ↓g_list, ↓g_dict, ↓g_min, ↓g_all, ↓mt_count, ↓it_tup, ↓it_put, ↓bin_add, ↓bin_sub, ↓bin_mul, ↓bin_mod, ↓bin_div, ↓bin_tup, ↓cm_eq, ↓cm_ne, ↓cm_lt, ↓cm_le, ↓cm_gt, ↓cm_ge, ↓cm_in, ↓cm_nin, ↓eq_str, ↓eq_int, ↓in_strs, ↓bc_len_1, ↓bc_len_2, ↓lit_10, ↓lit_20, ↓lit_11, ↓lit_22, ↓mk_put, ↓g_append, ↓g_extend, ↓g_count, ↓ma_append, ↓len_put, ↓sl_take, ↓sl_drop, ↓x_app, ↓bc_range, ↓bc_int, ↓is_int_int, ↓is_int_bool, ↓is_str_str, ↓is_tup_tup, ↓is_bool_bool, ↓is_bool_int, ↓reduceIte, String.reduceEq, ↓bc_lane ha h8, ↓br_neg (show ¬ (p : Int) + 1 < lane.length by omega)]))
      exact h
theorem c_is_clear (H : Core K) {st : List Spot} {s : Spot} (h : Q (.bool (clear st s)) σ) : (K (n + 1)).call "is_clear" [standD st, s.d] σ Q := by
  refine H.is_clear.run _ _ _ _ rfl ?_
  (repeat (first | refine seqN ?_ | simp only [↓x_nil, ↓x_cons, ↓seq_ret, ↓seq_cont, ↓turn_next, ↓turn_cont, ↓turn_ret, ↓x_assign, ↓x_ite, ↓x_loop_loc, ↓x_loop_bcall, ↓x_loop_call, ↓x_loop_item, ↓x_loop_tup, ↓x_loop_zip, ↓x_while, ↓x_ret, ↓x_cont, ↓x_expr, ↓x_raise, ↓e_none, ↓e_bool, ↓e_int, ↓e_str, ↓e_neg, ↓e_loc, ↓e_glob, ↓e_bin, ↓e_not, ↓e_and, ↓e_or, ↓e_cmp, ↓e_call, ↓e_bcall, ↓e_meth, ↓e_item, ↓e_slice, ↓e_tup, ↓e_list, ↓e_comp, ↓es_nil, ↓es_cons, ↓b_one, ↓b_and, ↓b_or, ↓a_nil, ↓a_and, ↓a_or, ↓cs_nil, ↓cs_cons, ↓c_one, ↓c_two, ↓t_not, ↓t_and, ↓t_or, ↓t_cmp, ↓t_call, ↓t_bcall, ↓t_loc, ↓tr_bool, ↓as_name, ↓as_2, ↓as_3, ↓sets_nil, ↓sets_cons, ↓ret_ret, ↓ret_next, ↓br_true, ↓br_false, ↓br_not, ↓rd_set, ↓rdi_0, ↓rdi_1, ↓g_len, ↓g_isinstance, ↓g_range, ↓g_int, ↓g_tuple, ↓g_list, ↓g_dict, ↓g_min, ↓g_all, ↓mt_count, ↓it_tup, ↓it_put, ↓bin_add, ↓bin_sub, ↓bin_mul, ↓bin_mod, ↓bin_div, ↓bin_tup, ↓cm_eq, ↓cm_ne, ↓cm_lt, ↓cm_le, ↓cm_gt, ↓cm_ge, ↓cm_in, ↓cm_nin, ↓eq_str, ↓eq_int, ↓in_strs, ↓bc_len_1, ↓bc_len_2, ↓lit_10, ↓lit_20, ↓lit_11, ↓lit_22, ↓mk_put, ↓g_append, ↓g_extend, ↓g_count, ↓ma_append, ↓len_put, ↓sl_take, ↓sl_drop, ↓x_app, ↓bc_range, ↓bc_int, ↓is_int_int, ↓is_int_bool, ↓is_str_str, ↓is_tup_tup, ↓is_bool_bool, ↓is_bool_int, ↓reduceIte, String.reduceEq, ↓b_is_clear, ↓p_is_clear, ↓eq_out, ↓standD, ↓in_spot]))
  have : clear st s = (decide (s = .out) || !decide (s ∈ st)) := by
    rw [Bool.eq_iff_iff]; simp [clear_iff]
  rw [this] at h
  refine br_dec (fun q => ?_) (fun q => ?_)
  · simpa [q] using h
  · simpa [q] using h
theorem h4_at {lane : List Nat} (G : GoodL lane) {i h : Nat} (e : lane[i]? = some h) : h ≤ 4 := by
  obtain ⟨h1, rfl⟩ := List.getElem?_eq_some_iff.mp e
  exact G.h4 i h1
theorem c_need_lane (H : Core K) {a : Addr} {lane : List Nat} (ha : σ a = some (.list (laneD lane))) (G : GoodL lane) (h : Q (.bool true) σ) : (K (n + 2)).call "need_lane" [.ref a] σ Q := by
  refine H.need_lane.run _ _ _ _ rfl ?_
  have h8 := G.l8
  have h1 := G.l1
  (repeat (first | refine seqN ?_ | simp only [↓x_nil, ↓x_cons, ↓seq_ret, ↓seq_cont, ↓turn_next, ↓turn_cont, ↓turn_ret, ↓x_assign, ↓x_ite, ↓x_loop_loc, ↓x_loop_bcall, ↓x_loop_call, ↓x_loop_item, ↓x_loop_tup, ↓x_loop_zip, ↓x_while, ↓x_ret, ↓x_cont, ↓x_expr, ↓x_raise, ↓e_none, ↓e_bool, ↓e_int, ↓e_str, ↓e_neg, ↓e_loc, ↓e_glob, ↓e_bin, ↓e_not, ↓e_and, ↓e_or, ↓e_cmp, ↓e_call, ↓e_bcall, ↓e_meth, ↓e_item, ↓e_slice, ↓e_tup, ↓e_list, ↓e_comp, ↓es_nil, ↓es_cons, ↓b_one, ↓b_and, ↓b_or, ↓a_nil, ↓a_and, ↓a_or, ↓cs_nil, ↓cs_cons, ↓c_one, ↓c_two, ↓t_not, ↓t_and, ↓t_or, ↓t_cmp, ↓t_call, ↓t_bcall, ↓t_loc, ↓tr_bool, ↓as_name, ↓as_2, ↓as_3, ↓sets_nil, ↓sets_cons, ↓ret_ret, ↓ret_next, ↓br_true, ↓br_false, ↓br_not, ↓rd_set, ↓rdi_0, ↓rdi_1, ↓g_len, ↓g_isinstance, ↓g_range, ↓g_int, ↓g_tuple, ↓g_list, ↓g_dict, ↓g_min, ↓g_all, ↓mt_count, ↓it_tup, ↓it_put, ↓bin_add, ↓bin_sub, ↓bin_mul, ↓bin_mod, ↓bin_div, ↓bin_tup, ↓cm_eq, ↓cm_ne, ↓cm_lt, ↓cm_le, ↓cm_gt, ↓cm_ge, ↓cm_in, ↓cm_nin, ↓eq_str, ↓eq_int, ↓in_strs, ↓bc_len_1, ↓bc_len_2, ↓lit_10, ↓lit_20, ↓lit_11, ↓lit_22, ↓mk_put, ↓g_append, ↓g_extend, ↓g_count, ↓ma_append, ↓len_put, ↓sl_take, ↓sl_drop, ↓x_app, ↓bc_range, ↓bc_int, ↓is_int_int, ↓is_int_bool, ↓is_str_str, ↓is_tup_tup, ↓is_bool_bool, ↓is_bool_int, ↓reduceIte, String.reduceEq, ↓b_need_lane, ↓p_need_lane, ↓H.list, ↓H.n8, ↓is_ref ha, ↓bc_len ha (by rw [lane_len]; omega), lane_len, ↓br_pos (show (1 : Int) ≤ (laneD lane).length by rw [lane_len]; omega), ↓br_pos (show ((laneD lane).length : Int) ≤ 8 by rw [lane_len]; omega)]))
  refine loop_of (laneD lane) (fun _ _ σ' => σ' = σ) (by simp [itemsD, ha]) (le_line (lane_len lane ▸ h8)) rfl (fun _ _ _ e => by subst e; rfl) (fun i ρ' σ' x e hx => ?_) (fun ρ' σ' e => ?_)
  · subst e
    obtain ⟨m, hm, rfl⟩ := of_at_map hx
    have := h4_at G hm
    (repeat (first | refine seqN ?_ | simp only [↓x_nil, ↓x_cons, ↓seq_ret, ↓seq_cont, ↓turn_next, ↓turn_cont, ↓turn_ret, ↓x_assign, ↓x_ite, ↓x_loop_loc, ↓x_loop_bcall, ↓x_loop_call, ↓x_loop_item, ↓x_loop_tup, ↓x_loop_zip, ↓x_while, ↓x_ret, ↓x_cont, ↓x_expr, ↓x_raise, ↓e_none, ↓e_bool, ↓e_int, ↓e_str, ↓e_neg, ↓e_loc, ↓e_glob, ↓e_bin, ↓e_not, ↓e_and, ↓e_or, ↓e_cmp, ↓e_call, ↓e_bcall, ↓e_meth, ↓e_item, ↓e_slice, ↓e_tup, ↓e_list, ↓e_comp, ↓es_nil, ↓es_cons, ↓b_one, ↓b_and, ↓b_or, ↓a_nil, ↓a_and, ↓a_or, ↓cs_nil, ↓cs_cons, ↓c_one, ↓c_two, ↓t_not, ↓t_and, ↓t_or, ↓t_cmp, ↓t_call, ↓t_bcall, ↓t_loc, ↓tr_bool, ↓as_name, ↓as_2, ↓as_3, ↓sets_nil, ↓sets_cons, ↓ret_ret, ↓ret_next, ↓br_true, ↓br_false, ↓br_not, ↓rd_set, ↓rdi_0, ↓rdi_1, ↓g_len, ↓g_isinstance, ↓g_range, ↓g_int, ↓g_tuple, ↓g_list, ↓g_dict, ↓g_min, ↓g_all, ↓mt_count, ↓it_tup, ↓it_put, ↓bin_add, ↓bin_sub, ↓bin_mul, ↓bin_mod, ↓bin_div, ↓bin_tup, ↓cm_eq, ↓cm_ne, ↓cm_lt, ↓cm_le, ↓cm_gt, ↓cm_ge, ↓cm_in, ↓cm_nin, ↓eq_str, ↓eq_int, ↓in_strs, ↓bc_len_1, ↓bc_len_2, ↓lit_10, ↓lit_20, ↓lit_11, ↓lit_22, ↓mk_put, ↓g_append, ↓g_extend, ↓g_count, ↓ma_append, ↓len_put, ↓sl_take, ↓sl_drop, ↓x_app, ↓bc_range, ↓bc_int, ↓is_int_int, ↓is_int_bool, ↓is_str_str, ↓is_tup_tup, ↓is_bool_bool, ↓is_bool_int, ↓reduceIte, String.reduceEq, ↓H.is_count.gate, ↓H.n4, ↓natD]))
    refine c_is_count H ?_
    (repeat (first | refine seqN ?_ | simp only [↓x_nil, ↓x_cons, ↓seq_ret, ↓seq_cont, ↓turn_next, ↓turn_cont, ↓turn_ret, ↓x_assign, ↓x_ite, ↓x_loop_loc, ↓x_loop_bcall, ↓x_loop_call, ↓x_loop_item, ↓x_loop_tup, ↓x_loop_zip, ↓x_while, ↓x_ret, ↓x_cont, ↓x_expr, ↓x_raise, ↓e_none, ↓e_bool, ↓e_int, ↓e_str, ↓e_neg, ↓e_loc, ↓e_glob, ↓e_bin, ↓e_not, ↓e_and, ↓e_or, ↓e_cmp, ↓e_call, ↓e_bcall, ↓e_meth, ↓e_item, ↓e_slice, ↓e_tup, ↓e_list, ↓e_comp, ↓es_nil, ↓es_cons, ↓b_one, ↓b_and, ↓b_or, ↓a_nil, ↓a_and, ↓a_or, ↓cs_nil, ↓cs_cons, ↓c_one, ↓c_two, ↓t_not, ↓t_and, ↓t_or, ↓t_cmp, ↓t_call, ↓t_bcall, ↓t_loc, ↓tr_bool, ↓as_name, ↓as_2, ↓as_3, ↓sets_nil, ↓sets_cons, ↓ret_ret, ↓ret_next, ↓br_true, ↓br_false, ↓br_not, ↓rd_set, ↓rdi_0, ↓rdi_1, ↓g_len, ↓g_isinstance, ↓g_range, ↓g_int, ↓g_tuple, ↓g_list, ↓g_dict, ↓g_min, ↓g_all, ↓mt_count, ↓it_tup, ↓it_put, ↓bin_add, ↓bin_sub, ↓bin_mul, ↓bin_mod, ↓bin_div, ↓bin_tup, ↓cm_eq, ↓cm_ne, ↓cm_lt, ↓cm_le, ↓cm_gt, ↓cm_ge, ↓cm_in, ↓cm_nin, ↓eq_str, ↓eq_int, ↓in_strs, ↓bc_len_1, ↓bc_len_2, ↓lit_10, ↓lit_20, ↓lit_11, ↓lit_22, ↓mk_put, ↓g_append, ↓g_extend, ↓g_count, ↓ma_append, ↓len_put, ↓sl_take, ↓sl_drop, ↓x_app, ↓bc_range, ↓bc_int, ↓is_int_int, ↓is_int_bool, ↓is_str_str, ↓is_tup_tup, ↓is_bool_bool, ↓is_bool_int, ↓reduceIte, String.reduceEq, ↓br_pos (show (0 : Int) ≤ m ∧ (m : Int) ≤ 4 by omega)]))
  · subst e
    (repeat (first | refine seqN ?_ | simp only [↓x_nil, ↓x_cons, ↓seq_ret, ↓seq_cont, ↓turn_next, ↓turn_cont, ↓turn_ret, ↓x_assign, ↓x_ite, ↓x_loop_loc, ↓x_loop_bcall, ↓x_loop_call, ↓x_loop_item, ↓x_loop_tup, ↓x_loop_zip, ↓x_while, ↓x_ret, ↓x_cont, ↓x_expr, ↓x_raise, ↓e_none, ↓e_bool, ↓e_int, ↓e_str, ↓e_neg, ↓e_loc, ↓e_glob, ↓e_bin, ↓e_not, ↓e_and, ↓e_or, ↓e_cmp, ↓e_call, ↓e_bcall, ↓e_meth, ↓e_item, ↓e_slice, ↓e_tup, ↓e_list, ↓e_comp, ↓es_nil, ↓es_cons, ↓b_one, ↓b_and, ↓b_or, ↓a_nil, ↓a_and, ↓a_or, ↓cs_nil, ↓cs_cons, ↓c_one, ↓c_two, ↓t_not, ↓t_and, ↓t_or, ↓t_cmp, ↓t_call, ↓t_bcall, ↓t_loc, ↓tr_bool, ↓as_name, ↓as_2, ↓as_3, ↓sets_nil, ↓sets_cons, ↓ret_ret, ↓ret_next, ↓br_true, ↓br_false, ↓br_not, ↓rd_set, ↓rdi_0, ↓rdi_1, ↓g_len, ↓g_isinstance, ↓g_range, ↓g_int, ↓g_tuple, ↓g_list, ↓g_dict, ↓g_min, ↓g_all, ↓mt_count, ↓it_tup, ↓it_put, ↓bin_add, ↓bin_sub, ↓bin_mul, ↓bin_mod, ↓bin_div, ↓bin_tup, ↓cm_eq, ↓cm_ne, ↓cm_lt, ↓cm_le, ↓cm_gt, ↓cm_ge, ↓cm_in, ↓cm_nin, ↓eq_str, ↓eq_int, ↓in_strs, ↓bc_len_1, ↓bc_len_2, ↓lit_10, ↓lit_20, ↓lit_11, ↓lit_22, ↓mk_put, ↓g_append, ↓g_extend, ↓g_count, ↓ma_append, ↓len_put, ↓sl_take, ↓sl_drop, ↓x_app, ↓bc_range, ↓bc_int, ↓is_int_int, ↓is_int_bool, ↓is_str_str, ↓is_tup_tup, ↓is_bool_bool, ↓is_bool_int, ↓reduceIte, String.reduceEq]))
    exact h
theorem c_need_ways (H : Core K) {a : Addr} {ways : List Bool} (ha : σ a = some (.list (waysD ways))) (h1 : 1 ≤ ways.length) (h6 : ways.length ≤ 6) (h : Q (.bool true) σ) : (K (n + 2)).call "need_ways" [.ref a] σ Q := by
  refine H.need_ways.run _ _ _ _ rfl ?_
  (repeat (first | refine seqN ?_ | simp only [↓x_nil, ↓x_cons, ↓seq_ret, ↓seq_cont, ↓turn_next, ↓turn_cont, ↓turn_ret, ↓x_assign, ↓x_ite, ↓x_loop_loc, ↓x_loop_bcall, ↓x_loop_call, ↓x_loop_item, ↓x_loop_tup, ↓x_loop_zip, ↓x_while, ↓x_ret, ↓x_cont, ↓x_expr, ↓x_raise, ↓e_none, ↓e_bool, ↓e_int, ↓e_str, ↓e_neg, ↓e_loc, ↓e_glob, ↓e_bin, ↓e_not, ↓e_and, ↓e_or, ↓e_cmp, ↓e_call, ↓e_bcall, ↓e_meth, ↓e_item, ↓e_slice, ↓e_tup, ↓e_list, ↓e_comp, ↓es_nil, ↓es_cons, ↓b_one, ↓b_and, ↓b_or, ↓a_nil, ↓a_and, ↓a_or, ↓cs_nil, ↓cs_cons, ↓c_one, ↓c_two, ↓t_not, ↓t_and, ↓t_or, ↓t_cmp, ↓t_call, ↓t_bcall, ↓t_loc, ↓tr_bool, ↓as_name, ↓as_2, ↓as_3, ↓sets_nil, ↓sets_cons, ↓ret_ret, ↓ret_next, ↓br_true, ↓br_false, ↓br_not, ↓rd_set, ↓rdi_0, ↓rdi_1, ↓g_len, ↓g_isinstance, ↓g_range, ↓g_int, ↓g_tuple, ↓g_list, ↓g_dict, ↓g_min, ↓g_all, ↓mt_count, ↓it_tup, ↓it_put, ↓bin_add, ↓bin_sub, ↓bin_mul, ↓bin_mod, ↓bin_div, ↓bin_tup, ↓cm_eq, ↓cm_ne, ↓cm_lt, ↓cm_le, ↓cm_gt, ↓cm_ge, ↓cm_in, ↓cm_nin, ↓eq_str, ↓eq_int, ↓in_strs, ↓bc_len_1, ↓bc_len_2, ↓lit_10, ↓lit_20, ↓lit_11, ↓lit_22, ↓mk_put, ↓g_append, ↓g_extend, ↓g_count, ↓ma_append, ↓len_put, ↓sl_take, ↓sl_drop, ↓x_app, ↓bc_range, ↓bc_int, ↓is_int_int, ↓is_int_bool, ↓is_str_str, ↓is_tup_tup, ↓is_bool_bool, ↓is_bool_int, ↓reduceIte, String.reduceEq, ↓b_need_ways, ↓p_need_ways, ↓H.list, ↓H.n6, ↓is_ref ha, ↓bc_len ha (by rw [ways_len]; omega), ways_len, ↓br_pos (show (1 : Int) ≤ (waysD ways).length by rw [ways_len]; omega), ↓br_pos (show ((waysD ways).length : Int) ≤ 6 by rw [ways_len]; omega)]))
  refine loop_of (waysD ways) (fun _ _ σ' => σ' = σ) (by simp [itemsD, ha]) (le_line (ways_len ways ▸ h6)) rfl (fun _ _ _ e => by subst e; rfl) (fun i ρ' σ' x e hx => ?_) (fun ρ' σ' e => ?_)
  · subst e
    obtain ⟨m, hm, rfl⟩ := of_at_map hx
    cases m
    · (repeat (first | refine seqN ?_ | simp only [↓x_nil, ↓x_cons, ↓seq_ret, ↓seq_cont, ↓turn_next, ↓turn_cont, ↓turn_ret, ↓x_assign, ↓x_ite, ↓x_loop_loc, ↓x_loop_bcall, ↓x_loop_call, ↓x_loop_item, ↓x_loop_tup, ↓x_loop_zip, ↓x_while, ↓x_ret, ↓x_cont, ↓x_expr, ↓x_raise, ↓e_none, ↓e_bool, ↓e_int, ↓e_str, ↓e_neg, ↓e_loc, ↓e_glob, ↓e_bin, ↓e_not, ↓e_and, ↓e_or, ↓e_cmp, ↓e_call, ↓e_bcall, ↓e_meth, ↓e_item, ↓e_slice, ↓e_tup, ↓e_list, ↓e_comp, ↓es_nil, ↓es_cons, ↓b_one, ↓b_and, ↓b_or, ↓a_nil, ↓a_and, ↓a_or, ↓cs_nil, ↓cs_cons, ↓c_one, ↓c_two, ↓t_not, ↓t_and, ↓t_or, ↓t_cmp, ↓t_call, ↓t_bcall, ↓t_loc, ↓tr_bool, ↓as_name, ↓as_2, ↓as_3, ↓sets_nil, ↓sets_cons, ↓ret_ret, ↓ret_next, ↓br_true, ↓br_false, ↓br_not, ↓rd_set, ↓rdi_0, ↓rdi_1, ↓g_len, ↓g_isinstance, ↓g_range, ↓g_int, ↓g_tuple, ↓g_list, ↓g_dict, ↓g_min, ↓g_all, ↓mt_count, ↓it_tup, ↓it_put, ↓bin_add, ↓bin_sub, ↓bin_mul, ↓bin_mod, ↓bin_div, ↓bin_tup, ↓cm_eq, ↓cm_ne, ↓cm_lt, ↓cm_le, ↓cm_gt, ↓cm_ge, ↓cm_in, ↓cm_nin, ↓eq_str, ↓eq_int, ↓in_strs, ↓bc_len_1, ↓bc_len_2, ↓lit_10, ↓lit_20, ↓lit_11, ↓lit_22, ↓mk_put, ↓g_append, ↓g_extend, ↓g_count, ↓ma_append, ↓len_put, ↓sl_take, ↓sl_drop, ↓x_app, ↓bc_range, ↓bc_int, ↓is_int_int, ↓is_int_bool, ↓is_str_str, ↓is_tup_tup, ↓is_bool_bool, ↓is_bool_int, ↓reduceIte, String.reduceEq, ↓H.str, ↓wayD, ↓Bool.false_eq_true]))
    · (repeat (first | refine seqN ?_ | simp only [↓x_nil, ↓x_cons, ↓seq_ret, ↓seq_cont, ↓turn_next, ↓turn_cont, ↓turn_ret, ↓x_assign, ↓x_ite, ↓x_loop_loc, ↓x_loop_bcall, ↓x_loop_call, ↓x_loop_item, ↓x_loop_tup, ↓x_loop_zip, ↓x_while, ↓x_ret, ↓x_cont, ↓x_expr, ↓x_raise, ↓e_none, ↓e_bool, ↓e_int, ↓e_str, ↓e_neg, ↓e_loc, ↓e_glob, ↓e_bin, ↓e_not, ↓e_and, ↓e_or, ↓e_cmp, ↓e_call, ↓e_bcall, ↓e_meth, ↓e_item, ↓e_slice, ↓e_tup, ↓e_list, ↓e_comp, ↓es_nil, ↓es_cons, ↓b_one, ↓b_and, ↓b_or, ↓a_nil, ↓a_and, ↓a_or, ↓cs_nil, ↓cs_cons, ↓c_one, ↓c_two, ↓t_not, ↓t_and, ↓t_or, ↓t_cmp, ↓t_call, ↓t_bcall, ↓t_loc, ↓tr_bool, ↓as_name, ↓as_2, ↓as_3, ↓sets_nil, ↓sets_cons, ↓ret_ret, ↓ret_next, ↓br_true, ↓br_false, ↓br_not, ↓rd_set, ↓rdi_0, ↓rdi_1, ↓g_len, ↓g_isinstance, ↓g_range, ↓g_int, ↓g_tuple, ↓g_list, ↓g_dict, ↓g_min, ↓g_all, ↓mt_count, ↓it_tup, ↓it_put, ↓bin_add, ↓bin_sub, ↓bin_mul, ↓bin_mod, ↓bin_div, ↓bin_tup, ↓cm_eq, ↓cm_ne, ↓cm_lt, ↓cm_le, ↓cm_gt, ↓cm_ge, ↓cm_in, ↓cm_nin, ↓eq_str, ↓eq_int, ↓in_strs, ↓bc_len_1, ↓bc_len_2, ↓lit_10, ↓lit_20, ↓lit_11, ↓lit_22, ↓mk_put, ↓g_append, ↓g_extend, ↓g_count, ↓ma_append, ↓len_put, ↓sl_take, ↓sl_drop, ↓x_app, ↓bc_range, ↓bc_int, ↓is_int_int, ↓is_int_bool, ↓is_str_str, ↓is_tup_tup, ↓is_bool_bool, ↓is_bool_int, ↓reduceIte, String.reduceEq, ↓H.str, ↓wayD]))
  · subst e
    (repeat (first | refine seqN ?_ | simp only [↓x_nil, ↓x_cons, ↓seq_ret, ↓seq_cont, ↓turn_next, ↓turn_cont, ↓turn_ret, ↓x_assign, ↓x_ite, ↓x_loop_loc, ↓x_loop_bcall, ↓x_loop_call, ↓x_loop_item, ↓x_loop_tup, ↓x_loop_zip, ↓x_while, ↓x_ret, ↓x_cont, ↓x_expr, ↓x_raise, ↓e_none, ↓e_bool, ↓e_int, ↓e_str, ↓e_neg, ↓e_loc, ↓e_glob, ↓e_bin, ↓e_not, ↓e_and, ↓e_or, ↓e_cmp, ↓e_call, ↓e_bcall, ↓e_meth, ↓e_item, ↓e_slice, ↓e_tup, ↓e_list, ↓e_comp, ↓es_nil, ↓es_cons, ↓b_one, ↓b_and, ↓b_or, ↓a_nil, ↓a_and, ↓a_or, ↓cs_nil, ↓cs_cons, ↓c_one, ↓c_two, ↓t_not, ↓t_and, ↓t_or, ↓t_cmp, ↓t_call, ↓t_bcall, ↓t_loc, ↓tr_bool, ↓as_name, ↓as_2, ↓as_3, ↓sets_nil, ↓sets_cons, ↓ret_ret, ↓ret_next, ↓br_true, ↓br_false, ↓br_not, ↓rd_set, ↓rdi_0, ↓rdi_1, ↓g_len, ↓g_isinstance, ↓g_range, ↓g_int, ↓g_tuple, ↓g_list, ↓g_dict, ↓g_min, ↓g_all, ↓mt_count, ↓it_tup, ↓it_put, ↓bin_add, ↓bin_sub, ↓bin_mul, ↓bin_mod, ↓bin_div, ↓bin_tup, ↓cm_eq, ↓cm_ne, ↓cm_lt, ↓cm_le, ↓cm_gt, ↓cm_ge, ↓cm_in, ↓cm_nin, ↓eq_str, ↓eq_int, ↓in_strs, ↓bc_len_1, ↓bc_len_2, ↓lit_10, ↓lit_20, ↓lit_11, ↓lit_22, ↓mk_put, ↓g_append, ↓g_extend, ↓g_count, ↓ma_append, ↓len_put, ↓sl_take, ↓sl_drop, ↓x_app, ↓bc_range, ↓bc_int, ↓is_int_int, ↓is_int_bool, ↓is_str_str, ↓is_tup_tup, ↓is_bool_bool, ↓is_bool_int, ↓reduceIte, String.reduceEq]))
    exact h
theorem c_is_spot (H : Core K) {a : Addr} {lane : List Nat} (ha : σ a = some (.list (laneD lane))) (h8 : lane.length ≤ 8) {s : Spot} (hs : s.fits lane.length) (h : Q (.bool true) σ) : (K (n + 2)).call "is_spot" [.ref a, s.d] σ Q := by
  refine H.is_spot.run _ _ _ _ rfl ?_
  cases s <;> (repeat (first | refine seqN ?_ | simp only [↓x_nil, ↓x_cons, ↓seq_ret, ↓seq_cont, ↓turn_next, ↓turn_cont, ↓turn_ret, ↓x_assign, ↓x_ite, ↓x_loop_loc, ↓x_loop_bcall, ↓x_loop_call, ↓x_loop_item, ↓x_loop_tup, ↓x_loop_zip, ↓x_while, ↓x_ret, ↓x_cont, ↓x_expr, ↓x_raise, ↓e_none, ↓e_bool, ↓e_int, ↓e_str, ↓e_neg, ↓e_loc, ↓e_glob, ↓e_bin, ↓e_not, ↓e_and, ↓e_or, ↓e_cmp, ↓e_call, ↓e_bcall, ↓e_meth, ↓e_item, ↓e_slice, ↓e_tup, ↓e_list, ↓e_comp, ↓es_nil, ↓es_cons, ↓b_one, ↓b_and, ↓b_or, ↓a_nil, ↓a_and, ↓a_or, ↓cs_nil, ↓cs_cons, ↓c_one, ↓c_two, ↓t_not, ↓t_and, ↓t_or, ↓t_cmp, ↓t_call, ↓t_bcall, ↓t_loc, ↓tr_bool, ↓as_name, ↓as_2, ↓as_3, ↓sets_nil, ↓sets_cons, ↓ret_ret, ↓ret_next, ↓br_true, ↓br_false, ↓br_not, ↓rd_set, ↓rdi_0, ↓rdi_1, ↓g_len, ↓g_isinstance, ↓g_range, ↓g_int, ↓g_tuple, ↓g_list, ↓g_dict, ↓g_min, ↓g_all, ↓mt_count, ↓it_tup, ↓it_put, ↓bin_add, ↓bin_sub, ↓bin_mul, ↓bin_mod, ↓bin_div, ↓bin_tup, ↓cm_eq, ↓cm_ne, ↓cm_lt, ↓cm_le, ↓cm_gt, ↓cm_ge, ↓cm_in, ↓cm_nin, ↓eq_str, ↓eq_int, ↓in_strs, ↓bc_len_1, ↓bc_len_2, ↓lit_10, ↓lit_20, ↓lit_11, ↓lit_22, ↓mk_put, ↓g_append, ↓g_extend, ↓g_count, ↓ma_append, ↓len_put, ↓sl_take, ↓sl_drop, ↓x_app, ↓bc_range, ↓bc_int, ↓is_int_int, ↓is_int_bool, ↓is_str_str, ↓is_tup_tup, ↓is_bool_bool, ↓is_bool_int, ↓reduceIte, String.reduceEq, ↓b_is_spot, ↓p_is_spot, ↓Spot.d, ↓H.tuple, ↓H.str, ↓bc_len ha (by rw [lane_len]; omega), lane_len, ↓H.is_count.gate]))
  · simpa using h
  · simp only [Spot.fits] at hs
    refine c_is_count H ?_
    rw [decide_eq_true (by omega)]; exact h
  · simp only [Spot.fits] at hs
    refine c_is_count H ?_
    rw [decide_eq_true (by omega)]; exact h
theorem c_need_stand (H : Core K) {a b : Addr} {lane : List Nat} {ways : List Bool} {st : List Spot} (ha : σ a = some (.list (laneD lane))) (hb : σ b = some (.list (waysD ways))) (G : Good lane ways st) (h : Q (.bool true) σ) : (K (n + 3)).call "need_stand" [.ref a, .ref b, standD st] σ Q := by
  refine H.need_stand.run _ _ _ _ rfl ?_
  have h8 := G.l8
  have h6 := G.w6
  have hl := G.len
  have hsl : (st.map Spot.d).length = ways.length := by rw [List.length_map, hl]
  (repeat (first | refine seqN ?_ | simp only [↓x_nil, ↓x_cons, ↓seq_ret, ↓seq_cont, ↓turn_next, ↓turn_cont, ↓turn_ret, ↓x_assign, ↓x_ite, ↓x_loop_loc, ↓x_loop_bcall, ↓x_loop_call, ↓x_loop_item, ↓x_loop_tup, ↓x_loop_zip, ↓x_while, ↓x_ret, ↓x_cont, ↓x_expr, ↓x_raise, ↓e_none, ↓e_bool, ↓e_int, ↓e_str, ↓e_neg, ↓e_loc, ↓e_glob, ↓e_bin, ↓e_not, ↓e_and, ↓e_or, ↓e_cmp, ↓e_call, ↓e_bcall, ↓e_meth, ↓e_item, ↓e_slice, ↓e_tup, ↓e_list, ↓e_comp, ↓es_nil, ↓es_cons, ↓b_one, ↓b_and, ↓b_or, ↓a_nil, ↓a_and, ↓a_or, ↓cs_nil, ↓cs_cons, ↓c_one, ↓c_two, ↓t_not, ↓t_and, ↓t_or, ↓t_cmp, ↓t_call, ↓t_bcall, ↓t_loc, ↓tr_bool, ↓as_name, ↓as_2, ↓as_3, ↓sets_nil, ↓sets_cons, ↓ret_ret, ↓ret_next, ↓br_true, ↓br_false, ↓br_not, ↓rd_set, ↓rdi_0, ↓rdi_1, ↓g_len, ↓g_isinstance, ↓g_range, ↓g_int, ↓g_tuple, ↓g_list, ↓g_dict, ↓g_min, ↓g_all, ↓mt_count, ↓it_tup, ↓it_put, ↓bin_add, ↓bin_sub, ↓bin_mul, ↓bin_mod, ↓bin_div, ↓bin_tup, ↓cm_eq, ↓cm_ne, ↓cm_lt, ↓cm_le, ↓cm_gt, ↓cm_ge, ↓cm_in, ↓cm_nin, ↓eq_str, ↓eq_int, ↓in_strs, ↓bc_len_1, ↓bc_len_2, ↓lit_10, ↓lit_20, ↓lit_11, ↓lit_22, ↓mk_put, ↓g_append, ↓g_extend, ↓g_count, ↓ma_append, ↓len_put, ↓sl_take, ↓sl_drop, ↓x_app, ↓bc_range, ↓bc_int, ↓is_int_int, ↓is_int_bool, ↓is_str_str, ↓is_tup_tup, ↓is_bool_bool, ↓is_bool_int, ↓reduceIte, String.reduceEq, ↓b_need_stand, ↓p_need_stand, ↓standD, ↓H.need_lane.gate, ↓H.need_ways.gate, ↓H.tuple, ↓bc_len ha (by rw [lane_len]; omega), ↓bc_len hb (by rw [ways_len]; omega), ↓bc_len_t (show (st.map Spot.d).length < 2 ^ 62 by omega)]))
  refine c_need_lane H ha G.toGoodL ?_
  (repeat (first | refine seqN ?_ | simp only [↓x_nil, ↓x_cons, ↓seq_ret, ↓seq_cont, ↓turn_next, ↓turn_cont, ↓turn_ret, ↓x_assign, ↓x_ite, ↓x_loop_loc, ↓x_loop_bcall, ↓x_loop_call, ↓x_loop_item, ↓x_loop_tup, ↓x_loop_zip, ↓x_while, ↓x_ret, ↓x_cont, ↓x_expr, ↓x_raise, ↓e_none, ↓e_bool, ↓e_int, ↓e_str, ↓e_neg, ↓e_loc, ↓e_glob, ↓e_bin, ↓e_not, ↓e_and, ↓e_or, ↓e_cmp, ↓e_call, ↓e_bcall, ↓e_meth, ↓e_item, ↓e_slice, ↓e_tup, ↓e_list, ↓e_comp, ↓es_nil, ↓es_cons, ↓b_one, ↓b_and, ↓b_or, ↓a_nil, ↓a_and, ↓a_or, ↓cs_nil, ↓cs_cons, ↓c_one, ↓c_two, ↓t_not, ↓t_and, ↓t_or, ↓t_cmp, ↓t_call, ↓t_bcall, ↓t_loc, ↓tr_bool, ↓as_name, ↓as_2, ↓as_3, ↓sets_nil, ↓sets_cons, ↓ret_ret, ↓ret_next, ↓br_true, ↓br_false, ↓br_not, ↓rd_set, ↓rdi_0, ↓rdi_1, ↓g_len, ↓g_isinstance, ↓g_range, ↓g_int, ↓g_tuple, ↓g_list, ↓g_dict, ↓g_min, ↓g_all, ↓mt_count, ↓it_tup, ↓it_put, ↓bin_add, ↓bin_sub, ↓bin_mul, ↓bin_mod, ↓bin_div, ↓bin_tup, ↓cm_eq, ↓cm_ne, ↓cm_lt, ↓cm_le, ↓cm_gt, ↓cm_ge, ↓cm_in, ↓cm_nin, ↓eq_str, ↓eq_int, ↓in_strs, ↓bc_len_1, ↓bc_len_2, ↓lit_10, ↓lit_20, ↓lit_11, ↓lit_22, ↓mk_put, ↓g_append, ↓g_extend, ↓g_count, ↓ma_append, ↓len_put, ↓sl_take, ↓sl_drop, ↓x_app, ↓bc_range, ↓bc_int, ↓is_int_int, ↓is_int_bool, ↓is_str_str, ↓is_tup_tup, ↓is_bool_bool, ↓is_bool_int, ↓reduceIte, String.reduceEq, ↓H.need_ways.gate]))
  refine c_need_ways H hb G.w1 G.w6 ?_
  (repeat (first | refine seqN ?_ | simp only [↓x_nil, ↓x_cons, ↓seq_ret, ↓seq_cont, ↓turn_next, ↓turn_cont, ↓turn_ret, ↓x_assign, ↓x_ite, ↓x_loop_loc, ↓x_loop_bcall, ↓x_loop_call, ↓x_loop_item, ↓x_loop_tup, ↓x_loop_zip, ↓x_while, ↓x_ret, ↓x_cont, ↓x_expr, ↓x_raise, ↓e_none, ↓e_bool, ↓e_int, ↓e_str, ↓e_neg, ↓e_loc, ↓e_glob, ↓e_bin, ↓e_not, ↓e_and, ↓e_or, ↓e_cmp, ↓e_call, ↓e_bcall, ↓e_meth, ↓e_item, ↓e_slice, ↓e_tup, ↓e_list, ↓e_comp, ↓es_nil, ↓es_cons, ↓b_one, ↓b_and, ↓b_or, ↓a_nil, ↓a_and, ↓a_or, ↓cs_nil, ↓cs_cons, ↓c_one, ↓c_two, ↓t_not, ↓t_and, ↓t_or, ↓t_cmp, ↓t_call, ↓t_bcall, ↓t_loc, ↓tr_bool, ↓as_name, ↓as_2, ↓as_3, ↓sets_nil, ↓sets_cons, ↓ret_ret, ↓ret_next, ↓br_true, ↓br_false, ↓br_not, ↓rd_set, ↓rdi_0, ↓rdi_1, ↓g_len, ↓g_isinstance, ↓g_range, ↓g_int, ↓g_tuple, ↓g_list, ↓g_dict, ↓g_min, ↓g_all, ↓mt_count, ↓it_tup, ↓it_put, ↓bin_add, ↓bin_sub, ↓bin_mul, ↓bin_mod, ↓bin_div, ↓bin_tup, ↓cm_eq, ↓cm_ne, ↓cm_lt, ↓cm_le, ↓cm_gt, ↓cm_ge, ↓cm_in, ↓cm_nin, ↓eq_str, ↓eq_int, ↓in_strs, ↓bc_len_1, ↓bc_len_2, ↓lit_10, ↓lit_20, ↓lit_11, ↓lit_22, ↓mk_put, ↓g_append, ↓g_extend, ↓g_count, ↓ma_append, ↓len_put, ↓sl_take, ↓sl_drop, ↓x_app, ↓bc_range, ↓bc_int, ↓is_int_int, ↓is_int_bool, ↓is_str_str, ↓is_tup_tup, ↓is_bool_bool, ↓is_bool_int, ↓reduceIte, String.reduceEq, ↓H.tuple, ↓bc_len_t (show (st.map Spot.d).length < 2 ^ 62 by omega), ↓bc_len hb (by rw [ways_len]; omega), ↓br_pos (show (((st.map Spot.d).length : Nat) : Int) = ((waysD ways).length : Nat) by rw [hsl, ways_len])]))
  refine loop_of (st.map Spot.d) (fun _ ρ' σ' => σ' = σ ∧ ρ' "lane" = some (.ref a) ∧ ρ' "stand" = some (.tup (st.map Spot.d))) rfl (le_line (hsl ▸ h6)) ⟨rfl, rfl, rfl⟩ (fun _ _ _ _ => trivial) (fun i ρ' σ' x e hx => ?_) (fun ρ' σ' e => ?_)
  · obtain ⟨rfl, h1, h2⟩ := e
    obtain ⟨s, hm, rfl⟩ := of_at_map hx
    (repeat (first | refine seqN ?_ | simp only [↓x_nil, ↓x_cons, ↓seq_ret, ↓seq_cont, ↓turn_next, ↓turn_cont, ↓turn_ret, ↓x_assign, ↓x_ite, ↓x_loop_loc, ↓x_loop_bcall, ↓x_loop_call, ↓x_loop_item, ↓x_loop_tup, ↓x_loop_zip, ↓x_while, ↓x_ret, ↓x_cont, ↓x_expr, ↓x_raise, ↓e_none, ↓e_bool, ↓e_int, ↓e_str, ↓e_neg, ↓e_loc, ↓e_glob, ↓e_bin, ↓e_not, ↓e_and, ↓e_or, ↓e_cmp, ↓e_call, ↓e_bcall, ↓e_meth, ↓e_item, ↓e_slice, ↓e_tup, ↓e_list, ↓e_comp, ↓es_nil, ↓es_cons, ↓b_one, ↓b_and, ↓b_or, ↓a_nil, ↓a_and, ↓a_or, ↓cs_nil, ↓cs_cons, ↓c_one, ↓c_two, ↓t_not, ↓t_and, ↓t_or, ↓t_cmp, ↓t_call, ↓t_bcall, ↓t_loc, ↓tr_bool, ↓as_name, ↓as_2, ↓as_3, ↓sets_nil, ↓sets_cons, ↓ret_ret, ↓ret_next, ↓br_true, ↓br_false, ↓br_not, ↓rd_set, ↓rdi_0, ↓rdi_1, ↓g_len, ↓g_isinstance, ↓g_range, ↓g_int, ↓g_tuple, ↓g_list, ↓g_dict, ↓g_min, ↓g_all, ↓mt_count, ↓it_tup, ↓it_put, ↓bin_add, ↓bin_sub, ↓bin_mul, ↓bin_mod, ↓bin_div, ↓bin_tup, ↓cm_eq, ↓cm_ne, ↓cm_lt, ↓cm_le, ↓cm_gt, ↓cm_ge, ↓cm_in, ↓cm_nin, ↓eq_str, ↓eq_int, ↓in_strs, ↓bc_len_1, ↓bc_len_2, ↓lit_10, ↓lit_20, ↓lit_11, ↓lit_22, ↓mk_put, ↓g_append, ↓g_extend, ↓g_count, ↓ma_append, ↓len_put, ↓sl_take, ↓sl_drop, ↓x_app, ↓bc_range, ↓bc_int, ↓is_int_int, ↓is_int_bool, ↓is_str_str, ↓is_tup_tup, ↓is_bool_bool, ↓is_bool_int, ↓reduceIte, String.reduceEq, ↓H.is_spot.gate, ↓rd_of h1]))
    refine c_is_spot H ha h8 (G.fits _ (List.mem_of_getElem? hm)) ?_
    (repeat (first | refine seqN ?_ | simp only [↓x_nil, ↓x_cons, ↓seq_ret, ↓seq_cont, ↓turn_next, ↓turn_cont, ↓turn_ret, ↓x_assign, ↓x_ite, ↓x_loop_loc, ↓x_loop_bcall, ↓x_loop_call, ↓x_loop_item, ↓x_loop_tup, ↓x_loop_zip, ↓x_while, ↓x_ret, ↓x_cont, ↓x_expr, ↓x_raise, ↓e_none, ↓e_bool, ↓e_int, ↓e_str, ↓e_neg, ↓e_loc, ↓e_glob, ↓e_bin, ↓e_not, ↓e_and, ↓e_or, ↓e_cmp, ↓e_call, ↓e_bcall, ↓e_meth, ↓e_item, ↓e_slice, ↓e_tup, ↓e_list, ↓e_comp, ↓es_nil, ↓es_cons, ↓b_one, ↓b_and, ↓b_or, ↓a_nil, ↓a_and, ↓a_or, ↓cs_nil, ↓cs_cons, ↓c_one, ↓c_two, ↓t_not, ↓t_and, ↓t_or, ↓t_cmp, ↓t_call, ↓t_bcall, ↓t_loc, ↓tr_bool, ↓as_name, ↓as_2, ↓as_3, ↓sets_nil, ↓sets_cons, ↓ret_ret, ↓ret_next, ↓br_true, ↓br_false, ↓br_not, ↓rd_set, ↓rdi_0, ↓rdi_1, ↓g_len, ↓g_isinstance, ↓g_range, ↓g_int, ↓g_tuple, ↓g_list, ↓g_dict, ↓g_min, ↓g_all, ↓mt_count, ↓it_tup, ↓it_put, ↓bin_add, ↓bin_sub, ↓bin_mul, ↓bin_mod, ↓bin_div, ↓bin_tup, ↓cm_eq, ↓cm_ne, ↓cm_lt, ↓cm_le, ↓cm_gt, ↓cm_ge, ↓cm_in, ↓cm_nin, ↓eq_str, ↓eq_int, ↓in_strs, ↓bc_len_1, ↓bc_len_2, ↓lit_10, ↓lit_20, ↓lit_11, ↓lit_22, ↓mk_put, ↓g_append, ↓g_extend, ↓g_count, ↓ma_append, ↓len_put, ↓sl_take, ↓sl_drop, ↓x_app, ↓bc_range, ↓bc_int, ↓is_int_int, ↓is_int_bool, ↓is_str_str, ↓is_tup_tup, ↓is_bool_bool, ↓is_bool_int, ↓reduceIte, String.reduceEq]))
    exact ⟨trivial, h1, h2⟩
  · obtain ⟨rfl, h1, h2⟩ := e
    (repeat (first | refine seqN ?_ | simp only [↓x_nil, ↓x_cons, ↓seq_ret, ↓seq_cont, ↓turn_next, ↓turn_cont, ↓turn_ret, ↓x_assign, ↓x_ite, ↓x_loop_loc, ↓x_loop_bcall, ↓x_loop_call, ↓x_loop_item, ↓x_loop_tup, ↓x_loop_zip, ↓x_while, ↓x_ret, ↓x_cont, ↓x_expr, ↓x_raise, ↓e_none, ↓e_bool, ↓e_int, ↓e_str, ↓e_neg, ↓e_loc, ↓e_glob, ↓e_bin, ↓e_not, ↓e_and, ↓e_or, ↓e_cmp, ↓e_call, ↓e_bcall, ↓e_meth, ↓e_item, ↓e_slice, ↓e_tup, ↓e_list, ↓e_comp, ↓es_nil, ↓es_cons, ↓b_one, ↓b_and, ↓b_or, ↓a_nil, ↓a_and, ↓a_or, ↓cs_nil, ↓cs_cons, ↓c_one, ↓c_two, ↓t_not, ↓t_and, ↓t_or, ↓t_cmp, ↓t_call, ↓t_bcall, ↓t_loc, ↓tr_bool, ↓as_name, ↓as_2, ↓as_3, ↓sets_nil, ↓sets_cons, ↓ret_ret, ↓ret_next, ↓br_true, ↓br_false, ↓br_not, ↓rd_set, ↓rdi_0, ↓rdi_1, ↓g_len, ↓g_isinstance, ↓g_range, ↓g_int, ↓g_tuple, ↓g_list, ↓g_dict, ↓g_min, ↓g_all, ↓mt_count, ↓it_tup, ↓it_put, ↓bin_add, ↓bin_sub, ↓bin_mul, ↓bin_mod, ↓bin_div, ↓bin_tup, ↓cm_eq, ↓cm_ne, ↓cm_lt, ↓cm_le, ↓cm_gt, ↓cm_ge, ↓cm_in, ↓cm_nin, ↓eq_str, ↓eq_int, ↓in_strs, ↓bc_len_1, ↓bc_len_2, ↓lit_10, ↓lit_20, ↓lit_11, ↓lit_22, ↓mk_put, ↓g_append, ↓g_extend, ↓g_count, ↓ma_append, ↓len_put, ↓sl_take, ↓sl_drop, ↓x_app, ↓bc_range, ↓bc_int, ↓is_int_int, ↓is_int_bool, ↓is_str_str, ↓is_tup_tup, ↓is_bool_bool, ↓is_bool_int, ↓reduceIte, String.reduceEq, ↓rd_of h1, ↓bc_len ha (by rw [lane_len]; omega), ↓need_of (show (0 : Int) ≤ (laneD lane).length ∧ ((laneD lane).length : Int) < 2 ^ 62 by rw [lane_len]; omega)]))
    rw [lane_len]
    refine range_of (fun _ ρ' σ'' => σ'' = σ' ∧ ρ' "lane" = some (.ref a) ∧ ρ' "stand" = some (.tup (st.map Spot.d))) (le_line h8) ⟨rfl, h1, h2⟩ (fun i ρ' σ' hi e => ?_) (fun ρ' σ' e => ?_)
    · obtain ⟨rfl, h1, h2⟩ := e
      simp only [Int.toNat_natCast] at hi
      have h3 := G.one i hi
      have h4 := G.most i hi
      (repeat (first | refine seqN ?_ | simp only [↓x_nil, ↓x_cons, ↓seq_ret, ↓seq_cont, ↓turn_next, ↓turn_cont, ↓turn_ret, ↓x_assign, ↓x_ite, ↓x_loop_loc, ↓x_loop_bcall, ↓x_loop_call, ↓x_loop_item, ↓x_loop_tup, ↓x_loop_zip, ↓x_while, ↓x_ret, ↓x_cont, ↓x_expr, ↓x_raise, ↓e_none, ↓e_bool, ↓e_int, ↓e_str, ↓e_neg, ↓e_loc, ↓e_glob, ↓e_bin, ↓e_not, ↓e_and, ↓e_or, ↓e_cmp, ↓e_call, ↓e_bcall, ↓e_meth, ↓e_item, ↓e_slice, ↓e_tup, ↓e_list, ↓e_comp, ↓es_nil, ↓es_cons, ↓b_one, ↓b_and, ↓b_or, ↓a_nil, ↓a_and, ↓a_or, ↓cs_nil, ↓cs_cons, ↓c_one, ↓c_two, ↓t_not, ↓t_and, ↓t_or, ↓t_cmp, ↓t_call, ↓t_bcall, ↓t_loc, ↓tr_bool, ↓as_name, ↓as_2, ↓as_3, ↓sets_nil, ↓sets_cons, ↓ret_ret, ↓ret_next, ↓br_true, ↓br_false, ↓br_not, ↓rd_set, ↓rdi_0, ↓rdi_1, ↓g_len, ↓g_isinstance, ↓g_range, ↓g_int, ↓g_tuple, ↓g_list, ↓g_dict, ↓g_min, ↓g_all, ↓mt_count, ↓it_tup, ↓it_put, ↓bin_add, ↓bin_sub, ↓bin_mul, ↓bin_mod, ↓bin_div, ↓bin_tup, ↓cm_eq, ↓cm_ne, ↓cm_lt, ↓cm_le, ↓cm_gt, ↓cm_ge, ↓cm_in, ↓cm_nin, ↓eq_str, ↓eq_int, ↓in_strs, ↓bc_len_1, ↓bc_len_2, ↓lit_10, ↓lit_20, ↓lit_11, ↓lit_22, ↓mk_put, ↓g_append, ↓g_extend, ↓g_count, ↓ma_append, ↓len_put, ↓sl_take, ↓sl_drop, ↓x_app, ↓bc_range, ↓bc_int, ↓is_int_int, ↓is_int_bool, ↓is_str_str, ↓is_tup_tup, ↓is_bool_bool, ↓is_bool_int, ↓reduceIte, String.reduceEq, ↓rd_of h1, ↓rd_of h2, ↓ma_lane, ↓ma_side, ↓it_l ha, ↓rdi_of (at_map (f := natD) (getD_at (d := 0) hi)) (lt63 hi h8), ↓natD, ↓laneD, ↓br_neg (show ¬ (1 : Int) < (st.count (.lane i) : Nat) by omega), ↓br_neg (show ¬ ((lane.getD i 0 : Nat) : Int) < (st.count (.side i) : Nat) by omega)]))
      exact ⟨trivial, h1, h2⟩
    · obtain ⟨rfl, h1, h2⟩ := e
      (repeat (first | refine seqN ?_ | simp only [↓x_nil, ↓x_cons, ↓seq_ret, ↓seq_cont, ↓turn_next, ↓turn_cont, ↓turn_ret, ↓x_assign, ↓x_ite, ↓x_loop_loc, ↓x_loop_bcall, ↓x_loop_call, ↓x_loop_item, ↓x_loop_tup, ↓x_loop_zip, ↓x_while, ↓x_ret, ↓x_cont, ↓x_expr, ↓x_raise, ↓e_none, ↓e_bool, ↓e_int, ↓e_str, ↓e_neg, ↓e_loc, ↓e_glob, ↓e_bin, ↓e_not, ↓e_and, ↓e_or, ↓e_cmp, ↓e_call, ↓e_bcall, ↓e_meth, ↓e_item, ↓e_slice, ↓e_tup, ↓e_list, ↓e_comp, ↓es_nil, ↓es_cons, ↓b_one, ↓b_and, ↓b_or, ↓a_nil, ↓a_and, ↓a_or, ↓cs_nil, ↓cs_cons, ↓c_one, ↓c_two, ↓t_not, ↓t_and, ↓t_or, ↓t_cmp, ↓t_call, ↓t_bcall, ↓t_loc, ↓tr_bool, ↓as_name, ↓as_2, ↓as_3, ↓sets_nil, ↓sets_cons, ↓ret_ret, ↓ret_next, ↓br_true, ↓br_false, ↓br_not, ↓rd_set, ↓rdi_0, ↓rdi_1, ↓g_len, ↓g_isinstance, ↓g_range, ↓g_int, ↓g_tuple, ↓g_list, ↓g_dict, ↓g_min, ↓g_all, ↓mt_count, ↓it_tup, ↓it_put, ↓bin_add, ↓bin_sub, ↓bin_mul, ↓bin_mod, ↓bin_div, ↓bin_tup, ↓cm_eq, ↓cm_ne, ↓cm_lt, ↓cm_le, ↓cm_gt, ↓cm_ge, ↓cm_in, ↓cm_nin, ↓eq_str, ↓eq_int, ↓in_strs, ↓bc_len_1, ↓bc_len_2, ↓lit_10, ↓lit_20, ↓lit_11, ↓lit_22, ↓mk_put, ↓g_append, ↓g_extend, ↓g_count, ↓ma_append, ↓len_put, ↓sl_take, ↓sl_drop, ↓x_app, ↓bc_range, ↓bc_int, ↓is_int_int, ↓is_int_bool, ↓is_str_str, ↓is_tup_tup, ↓is_bool_bool, ↓is_bool_int, ↓reduceIte, String.reduceEq]))
      exact h
theorem way_of {ways : List Bool} {t : Nat} (h : t < ways.length) : (waysD ways)[t]? = some (wayD (ways.getD t true)) := at_map (way_at h)
theorem lane_of {lane : List Nat} {p : Nat} (h : p < lane.length) : (laneD lane)[p]? = some (.int (lane.getD p 0 : Nat)) := at_map (f := natD) (getD_at h)
theorem c_moves_of (H : Core K) {a b : Addr} {lane : List Nat} {ways : List Bool} {st : List Spot} {t : Nat} (ha : σ a = some (.list (laneD lane))) (hb : σ b = some (.list (waysD ways))) (G : Good lane ways st) (ht : t < ways.length)
    (h : ∀ r σ', Ext σ σ' → σ r = none → σ' r = some (.list ((movesOf lane ways st t).map moveD)) → Q (.ref r) σ') : (K (n + 2)).call "moves_of" [.ref a, .ref b, standD st, .int t] σ Q := by
  refine H.moves_of.run _ _ _ _ rfl ?_
  have h8 := G.l8
  have h6 := G.w6
  have hl := G.len
  have hts : t < st.length := by omega
  have hs := getD_at (xs := st) (d := .out) hts
  have hf := G.fits _ (List.mem_of_getElem? hs)
  have hs' := at_map (f := Spot.d) hs
  unfold movesOf at h
  generalize hw : ways.getD t true = w at h
  have hw' := way_of ht
  rw [hw] at hw'
  generalize he : st.getD t .out = s at hs hf hs' h
  cases s with
  | out =>
    (repeat (first | refine seqN ?_ | simp only [↓x_nil, ↓x_cons, ↓seq_ret, ↓seq_cont, ↓turn_next, ↓turn_cont, ↓turn_ret, ↓x_assign, ↓x_ite, ↓x_loop_loc, ↓x_loop_bcall, ↓x_loop_call, ↓x_loop_item, ↓x_loop_tup, ↓x_loop_zip, ↓x_while, ↓x_ret, ↓x_cont, ↓x_expr, ↓x_raise, ↓e_none, ↓e_bool, ↓e_int, ↓e_str, ↓e_neg, ↓e_loc, ↓e_glob, ↓e_bin, ↓e_not, ↓e_and, ↓e_or, ↓e_cmp, ↓e_call, ↓e_bcall, ↓e_meth, ↓e_item, ↓e_slice, ↓e_tup, ↓e_list, ↓e_comp, ↓es_nil, ↓es_cons, ↓b_one, ↓b_and, ↓b_or, ↓a_nil, ↓a_and, ↓a_or, ↓cs_nil, ↓cs_cons, ↓c_one, ↓c_two, ↓t_not, ↓t_and, ↓t_or, ↓t_cmp, ↓t_call, ↓t_bcall, ↓t_loc, ↓tr_bool, ↓as_name, ↓as_2, ↓as_3, ↓sets_nil, ↓sets_cons, ↓ret_ret, ↓ret_next, ↓br_true, ↓br_false, ↓br_not, ↓rd_set, ↓rdi_0, ↓rdi_1, ↓g_len, ↓g_isinstance, ↓g_range, ↓g_int, ↓g_tuple, ↓g_list, ↓g_dict, ↓g_min, ↓g_all, ↓mt_count, ↓it_tup, ↓it_put, ↓bin_add, ↓bin_sub, ↓bin_mul, ↓bin_mod, ↓bin_div, ↓bin_tup, ↓cm_eq, ↓cm_ne, ↓cm_lt, ↓cm_le, ↓cm_gt, ↓cm_ge, ↓cm_in, ↓cm_nin, ↓eq_str, ↓eq_int, ↓in_strs, ↓bc_len_1, ↓bc_len_2, ↓lit_10, ↓lit_20, ↓lit_11, ↓lit_22, ↓mk_put, ↓g_append, ↓g_extend, ↓g_count, ↓ma_append, ↓len_put, ↓sl_take, ↓sl_drop, ↓x_app, ↓bc_range, ↓bc_int, ↓is_int_int, ↓is_int_bool, ↓is_str_str, ↓is_tup_tup, ↓is_bool_bool, ↓is_bool_int, ↓reduceIte, String.reduceEq, ↓b_moves_of, ↓p_moves_of, ↓standD, ↓rdi_of hs' (lt63 ht h6), ↓Spot.d]))
    intro r hr
    exact h r _ (Ext.put (Ext.refl _) hr) hr put_at
  | side p =>
    simp only [Spot.fits] at hf
    dsimp only at h
    (repeat (first | refine seqN ?_ | simp only [↓x_nil, ↓x_cons, ↓seq_ret, ↓seq_cont, ↓turn_next, ↓turn_cont, ↓turn_ret, ↓x_assign, ↓x_ite, ↓x_loop_loc, ↓x_loop_bcall, ↓x_loop_call, ↓x_loop_item, ↓x_loop_tup, ↓x_loop_zip, ↓x_while, ↓x_ret, ↓x_cont, ↓x_expr, ↓x_raise, ↓e_none, ↓e_bool, ↓e_int, ↓e_str, ↓e_neg, ↓e_loc, ↓e_glob, ↓e_bin, ↓e_not, ↓e_and, ↓e_or, ↓e_cmp, ↓e_call, ↓e_bcall, ↓e_meth, ↓e_item, ↓e_slice, ↓e_tup, ↓e_list, ↓e_comp, ↓es_nil, ↓es_cons, ↓b_one, ↓b_and, ↓b_or, ↓a_nil, ↓a_and, ↓a_or, ↓cs_nil, ↓cs_cons, ↓c_one, ↓c_two, ↓t_not, ↓t_and, ↓t_or, ↓t_cmp, ↓t_call, ↓t_bcall, ↓t_loc, ↓tr_bool, ↓as_name, ↓as_2, ↓as_3, ↓sets_nil, ↓sets_cons, ↓ret_ret, ↓ret_next, ↓br_true, ↓br_false, ↓br_not, ↓rd_set, ↓rdi_0, ↓rdi_1, ↓g_len, ↓g_isinstance, ↓g_range, ↓g_int, ↓g_tuple, ↓g_list, ↓g_dict, ↓g_min, ↓g_all, ↓mt_count, ↓it_tup, ↓it_put, ↓bin_add, ↓bin_sub, ↓bin_mul, ↓bin_mod, ↓bin_div, ↓bin_tup, ↓cm_eq, ↓cm_ne, ↓cm_lt, ↓cm_le, ↓cm_gt, ↓cm_ge, ↓cm_in, ↓cm_nin, ↓eq_str, ↓eq_int, ↓in_strs, ↓bc_len_1, ↓bc_len_2, ↓lit_10, ↓lit_20, ↓lit_11, ↓lit_22, ↓mk_put, ↓g_append, ↓g_extend, ↓g_count, ↓ma_append, ↓len_put, ↓sl_take, ↓sl_drop, ↓x_app, ↓bc_range, ↓bc_int, ↓is_int_int, ↓is_int_bool, ↓is_str_str, ↓is_tup_tup, ↓is_bool_bool, ↓is_bool_int, ↓reduceIte, String.reduceEq, ↓b_moves_of, ↓p_moves_of, ↓standD, ↓rdi_of hs' (lt63 ht h6), ↓Spot.d, ↓H.ahead_of.gate, ↓it_l hb, ↓rdi_of hw' (lt63 ht h6), ↓H.is_clear.gate]))
    refine c_ahead_of H ha h8 hf ?_
    (repeat (first | refine seqN ?_ | simp only [↓x_nil, ↓x_cons, ↓seq_ret, ↓seq_cont, ↓turn_next, ↓turn_cont, ↓turn_ret, ↓x_assign, ↓x_ite, ↓x_loop_loc, ↓x_loop_bcall, ↓x_loop_call, ↓x_loop_item, ↓x_loop_tup, ↓x_loop_zip, ↓x_while, ↓x_ret, ↓x_cont, ↓x_expr, ↓x_raise, ↓e_none, ↓e_bool, ↓e_int, ↓e_str, ↓e_neg, ↓e_loc, ↓e_glob, ↓e_bin, ↓e_not, ↓e_and, ↓e_or, ↓e_cmp, ↓e_call, ↓e_bcall, ↓e_meth, ↓e_item, ↓e_slice, ↓e_tup, ↓e_list, ↓e_comp, ↓es_nil, ↓es_cons, ↓b_one, ↓b_and, ↓b_or, ↓a_nil, ↓a_and, ↓a_or, ↓cs_nil, ↓cs_cons, ↓c_one, ↓c_two, ↓t_not, ↓t_and, ↓t_or, ↓t_cmp, ↓t_call, ↓t_bcall, ↓t_loc, ↓tr_bool, ↓as_name, ↓as_2, ↓as_3, ↓sets_nil, ↓sets_cons, ↓ret_ret, ↓ret_next, ↓br_true, ↓br_false, ↓br_not, ↓rd_set, ↓rdi_0, ↓rdi_1, ↓g_len, ↓g_isinstance, ↓g_range, ↓g_int, ↓g_tuple, ↓g_list, ↓g_dict, ↓g_min, ↓g_all, ↓mt_count, ↓it_tup, ↓it_put, ↓bin_add, ↓bin_sub, ↓bin_mul, ↓bin_mod, ↓bin_div, ↓bin_tup, ↓cm_eq, ↓cm_ne, ↓cm_lt, ↓cm_le, ↓cm_gt, ↓cm_ge, ↓cm_in, ↓cm_nin, ↓eq_str, ↓eq_int, ↓in_strs, ↓bc_len_1, ↓bc_len_2, ↓lit_10, ↓lit_20, ↓lit_11, ↓lit_22, ↓mk_put, ↓g_append, ↓g_extend, ↓g_count, ↓ma_append, ↓len_put, ↓sl_take, ↓sl_drop, ↓x_app, ↓bc_range, ↓bc_int, ↓is_int_int, ↓is_int_bool, ↓is_str_str, ↓is_tup_tup, ↓is_bool_bool, ↓is_bool_int, ↓reduceIte, String.reduceEq]))
    intro r hr
    (repeat (first | refine seqN ?_ | simp only [↓x_nil, ↓x_cons, ↓seq_ret, ↓seq_cont, ↓turn_next, ↓turn_cont, ↓turn_ret, ↓x_assign, ↓x_ite, ↓x_loop_loc, ↓x_loop_bcall, ↓x_loop_call, ↓x_loop_item, ↓x_loop_tup, ↓x_loop_zip, ↓x_while, ↓x_ret, ↓x_cont, ↓x_expr, ↓x_raise, ↓e_none, ↓e_bool, ↓e_int, ↓e_str, ↓e_neg, ↓e_loc, ↓e_glob, ↓e_bin, ↓e_not, ↓e_and, ↓e_or, ↓e_cmp, ↓e_call, ↓e_bcall, ↓e_meth, ↓e_item, ↓e_slice, ↓e_tup, ↓e_list, ↓e_comp, ↓es_nil, ↓es_cons, ↓b_one, ↓b_and, ↓b_or, ↓a_nil, ↓a_and, ↓a_or, ↓cs_nil, ↓cs_cons, ↓c_one, ↓c_two, ↓t_not, ↓t_and, ↓t_or, ↓t_cmp, ↓t_call, ↓t_bcall, ↓t_loc, ↓tr_bool, ↓as_name, ↓as_2, ↓as_3, ↓sets_nil, ↓sets_cons, ↓ret_ret, ↓ret_next, ↓br_true, ↓br_false, ↓br_not, ↓rd_set, ↓rdi_0, ↓rdi_1, ↓g_len, ↓g_isinstance, ↓g_range, ↓g_int, ↓g_tuple, ↓g_list, ↓g_dict, ↓g_min, ↓g_all, ↓mt_count, ↓it_tup, ↓it_put, ↓bin_add, ↓bin_sub, ↓bin_mul, ↓bin_mod, ↓bin_div, ↓bin_tup, ↓cm_eq, ↓cm_ne, ↓cm_lt, ↓cm_le, ↓cm_gt, ↓cm_ge, ↓cm_in, ↓cm_nin, ↓eq_str, ↓eq_int, ↓in_strs, ↓bc_len_1, ↓bc_len_2, ↓lit_10, ↓lit_20, ↓lit_11, ↓lit_22, ↓mk_put, ↓g_append, ↓g_extend, ↓g_count, ↓ma_append, ↓len_put, ↓sl_take, ↓sl_drop, ↓x_app, ↓bc_range, ↓bc_int, ↓is_int_int, ↓is_int_bool, ↓is_str_str, ↓is_tup_tup, ↓is_bool_bool, ↓is_bool_int, ↓reduceIte, String.reduceEq, ↓H.is_clear.gate]))
    refine c_is_clear (st := st) H ?_
    (repeat (first | refine seqN ?_ | simp only [↓x_nil, ↓x_cons, ↓seq_ret, ↓seq_cont, ↓turn_next, ↓turn_cont, ↓turn_ret, ↓x_assign, ↓x_ite, ↓x_loop_loc, ↓x_loop_bcall, ↓x_loop_call, ↓x_loop_item, ↓x_loop_tup, ↓x_loop_zip, ↓x_while, ↓x_ret, ↓x_cont, ↓x_expr, ↓x_raise, ↓e_none, ↓e_bool, ↓e_int, ↓e_str, ↓e_neg, ↓e_loc, ↓e_glob, ↓e_bin, ↓e_not, ↓e_and, ↓e_or, ↓e_cmp, ↓e_call, ↓e_bcall, ↓e_meth, ↓e_item, ↓e_slice, ↓e_tup, ↓e_list, ↓e_comp, ↓es_nil, ↓es_cons, ↓b_one, ↓b_and, ↓b_or, ↓a_nil, ↓a_and, ↓a_or, ↓cs_nil, ↓cs_cons, ↓c_one, ↓c_two, ↓t_not, ↓t_and, ↓t_or, ↓t_cmp, ↓t_call, ↓t_bcall, ↓t_loc, ↓tr_bool, ↓as_name, ↓as_2, ↓as_3, ↓sets_nil, ↓sets_cons, ↓ret_ret, ↓ret_next, ↓br_true, ↓br_false, ↓br_not, ↓rd_set, ↓rdi_0, ↓rdi_1, ↓g_len, ↓g_isinstance, ↓g_range, ↓g_int, ↓g_tuple, ↓g_list, ↓g_dict, ↓g_min, ↓g_all, ↓mt_count, ↓it_tup, ↓it_put, ↓bin_add, ↓bin_sub, ↓bin_mul, ↓bin_mod, ↓bin_div, ↓bin_tup, ↓cm_eq, ↓cm_ne, ↓cm_lt, ↓cm_le, ↓cm_gt, ↓cm_ge, ↓cm_in, ↓cm_nin, ↓eq_str, ↓eq_int, ↓in_strs, ↓bc_len_1, ↓bc_len_2, ↓lit_10, ↓lit_20, ↓lit_11, ↓lit_22, ↓mk_put, ↓g_append, ↓g_extend, ↓g_count, ↓ma_append, ↓len_put, ↓sl_take, ↓sl_drop, ↓x_app, ↓bc_range, ↓bc_int, ↓is_int_int, ↓is_int_bool, ↓is_str_str, ↓is_tup_tup, ↓is_bool_bool, ↓is_bool_int, ↓reduceIte, String.reduceEq]))
    refine br_of (fun q => ?_) (fun q => ?_)
    · (repeat (first | refine seqN ?_ | simp only [↓x_nil, ↓x_cons, ↓seq_ret, ↓seq_cont, ↓turn_next, ↓turn_cont, ↓turn_ret, ↓x_assign, ↓x_ite, ↓x_loop_loc, ↓x_loop_bcall, ↓x_loop_call, ↓x_loop_item, ↓x_loop_tup, ↓x_loop_zip, ↓x_while, ↓x_ret, ↓x_cont, ↓x_expr, ↓x_raise, ↓e_none, ↓e_bool, ↓e_int, ↓e_str, ↓e_neg, ↓e_loc, ↓e_glob, ↓e_bin, ↓e_not, ↓e_and, ↓e_or, ↓e_cmp, ↓e_call, ↓e_bcall, ↓e_meth, ↓e_item, ↓e_slice, ↓e_tup, ↓e_list, ↓e_comp, ↓es_nil, ↓es_cons, ↓b_one, ↓b_and, ↓b_or, ↓a_nil, ↓a_and, ↓a_or, ↓cs_nil, ↓cs_cons, ↓c_one, ↓c_two, ↓t_not, ↓t_and, ↓t_or, ↓t_cmp, ↓t_call, ↓t_bcall, ↓t_loc, ↓tr_bool, ↓as_name, ↓as_2, ↓as_3, ↓sets_nil, ↓sets_cons, ↓ret_ret, ↓ret_next, ↓br_true, ↓br_false, ↓br_not, ↓rd_set, ↓rdi_0, ↓rdi_1, ↓g_len, ↓g_isinstance, ↓g_range, ↓g_int, ↓g_tuple, ↓g_list, ↓g_dict, ↓g_min, ↓g_all, ↓mt_count, ↓it_tup, ↓it_put, ↓bin_add, ↓bin_sub, ↓bin_mul, ↓bin_mod, ↓bin_div, ↓bin_tup, ↓cm_eq, ↓cm_ne, ↓cm_lt, ↓cm_le, ↓cm_gt, ↓cm_ge, ↓cm_in, ↓cm_nin, ↓eq_str, ↓eq_int, ↓in_strs, ↓bc_len_1, ↓bc_len_2, ↓lit_10, ↓lit_20, ↓lit_11, ↓lit_22, ↓mk_put, ↓g_append, ↓g_extend, ↓g_count, ↓ma_append, ↓len_put, ↓sl_take, ↓sl_drop, ↓x_app, ↓bc_range, ↓bc_int, ↓is_int_int, ↓is_int_bool, ↓is_str_str, ↓is_tup_tup, ↓is_bool_bool, ↓is_bool_int, ↓reduceIte, String.reduceEq, ↓need_of (show ([] : List D).length ≤ line by simp)]))
      exact h r _ (Ext.put (Ext.refl _) hr) hr (by rw [put_at, q]; rfl)
    · (repeat (first | refine seqN ?_ | simp only [↓x_nil, ↓x_cons, ↓seq_ret, ↓seq_cont, ↓turn_next, ↓turn_cont, ↓turn_ret, ↓x_assign, ↓x_ite, ↓x_loop_loc, ↓x_loop_bcall, ↓x_loop_call, ↓x_loop_item, ↓x_loop_tup, ↓x_loop_zip, ↓x_while, ↓x_ret, ↓x_cont, ↓x_expr, ↓x_raise, ↓e_none, ↓e_bool, ↓e_int, ↓e_str, ↓e_neg, ↓e_loc, ↓e_glob, ↓e_bin, ↓e_not, ↓e_and, ↓e_or, ↓e_cmp, ↓e_call, ↓e_bcall, ↓e_meth, ↓e_item, ↓e_slice, ↓e_tup, ↓e_list, ↓e_comp, ↓es_nil, ↓es_cons, ↓b_one, ↓b_and, ↓b_or, ↓a_nil, ↓a_and, ↓a_or, ↓cs_nil, ↓cs_cons, ↓c_one, ↓c_two, ↓t_not, ↓t_and, ↓t_or, ↓t_cmp, ↓t_call, ↓t_bcall, ↓t_loc, ↓tr_bool, ↓as_name, ↓as_2, ↓as_3, ↓sets_nil, ↓sets_cons, ↓ret_ret, ↓ret_next, ↓br_true, ↓br_false, ↓br_not, ↓rd_set, ↓rdi_0, ↓rdi_1, ↓g_len, ↓g_isinstance, ↓g_range, ↓g_int, ↓g_tuple, ↓g_list, ↓g_dict, ↓g_min, ↓g_all, ↓mt_count, ↓it_tup, ↓it_put, ↓bin_add, ↓bin_sub, ↓bin_mul, ↓bin_mod, ↓bin_div, ↓bin_tup, ↓cm_eq, ↓cm_ne, ↓cm_lt, ↓cm_le, ↓cm_gt, ↓cm_ge, ↓cm_in, ↓cm_nin, ↓eq_str, ↓eq_int, ↓in_strs, ↓bc_len_1, ↓bc_len_2, ↓lit_10, ↓lit_20, ↓lit_11, ↓lit_22, ↓mk_put, ↓g_append, ↓g_extend, ↓g_count, ↓ma_append, ↓len_put, ↓sl_take, ↓sl_drop, ↓x_app, ↓bc_range, ↓bc_int, ↓is_int_int, ↓is_int_bool, ↓is_str_str, ↓is_tup_tup, ↓is_bool_bool, ↓is_bool_int, ↓reduceIte, String.reduceEq]))
      exact h r _ (Ext.put (Ext.refl _) hr) hr (by rw [put_at, q]; rfl)
  | lane p =>
    simp only [Spot.fits] at hf
    dsimp only at h
    (repeat (first | refine seqN ?_ | simp only [↓x_nil, ↓x_cons, ↓seq_ret, ↓seq_cont, ↓turn_next, ↓turn_cont, ↓turn_ret, ↓x_assign, ↓x_ite, ↓x_loop_loc, ↓x_loop_bcall, ↓x_loop_call, ↓x_loop_item, ↓x_loop_tup, ↓x_loop_zip, ↓x_while, ↓x_ret, ↓x_cont, ↓x_expr, ↓x_raise, ↓e_none, ↓e_bool, ↓e_int, ↓e_str, ↓e_neg, ↓e_loc, ↓e_glob, ↓e_bin, ↓e_not, ↓e_and, ↓e_or, ↓e_cmp, ↓e_call, ↓e_bcall, ↓e_meth, ↓e_item, ↓e_slice, ↓e_tup, ↓e_list, ↓e_comp, ↓es_nil, ↓es_cons, ↓b_one, ↓b_and, ↓b_or, ↓a_nil, ↓a_and, ↓a_or, ↓cs_nil, ↓cs_cons, ↓c_one, ↓c_two, ↓t_not, ↓t_and, ↓t_or, ↓t_cmp, ↓t_call, ↓t_bcall, ↓t_loc, ↓tr_bool, ↓as_name, ↓as_2, ↓as_3, ↓sets_nil, ↓sets_cons, ↓ret_ret, ↓ret_next, ↓br_true, ↓br_false, ↓br_not, ↓rd_set, ↓rdi_0, ↓rdi_1, ↓g_len, ↓g_isinstance, ↓g_range, ↓g_int, ↓g_tuple, ↓g_list, ↓g_dict, ↓g_min, ↓g_all, ↓mt_count, ↓it_tup, ↓it_put, ↓bin_add, ↓bin_sub, ↓bin_mul, ↓bin_mod, ↓bin_div, ↓bin_tup, ↓cm_eq, ↓cm_ne, ↓cm_lt, ↓cm_le, ↓cm_gt, ↓cm_ge, ↓cm_in, ↓cm_nin, ↓eq_str, ↓eq_int, ↓in_strs, ↓bc_len_1, ↓bc_len_2, ↓lit_10, ↓lit_20, ↓lit_11, ↓lit_22, ↓mk_put, ↓g_append, ↓g_extend, ↓g_count, ↓ma_append, ↓len_put, ↓sl_take, ↓sl_drop, ↓x_app, ↓bc_range, ↓bc_int, ↓is_int_int, ↓is_int_bool, ↓is_str_str, ↓is_tup_tup, ↓is_bool_bool, ↓is_bool_int, ↓reduceIte, String.reduceEq, ↓b_moves_of, ↓p_moves_of, ↓standD, ↓rdi_of hs' (lt63 ht h6), ↓Spot.d, ↓H.ahead_of.gate, ↓it_l hb, ↓rdi_of hw' (lt63 ht h6), ↓H.is_clear.gate]))
    refine c_ahead_of H ha h8 hf ?_
    (repeat (first | refine seqN ?_ | simp only [↓x_nil, ↓x_cons, ↓seq_ret, ↓seq_cont, ↓turn_next, ↓turn_cont, ↓turn_ret, ↓x_assign, ↓x_ite, ↓x_loop_loc, ↓x_loop_bcall, ↓x_loop_call, ↓x_loop_item, ↓x_loop_tup, ↓x_loop_zip, ↓x_while, ↓x_ret, ↓x_cont, ↓x_expr, ↓x_raise, ↓e_none, ↓e_bool, ↓e_int, ↓e_str, ↓e_neg, ↓e_loc, ↓e_glob, ↓e_bin, ↓e_not, ↓e_and, ↓e_or, ↓e_cmp, ↓e_call, ↓e_bcall, ↓e_meth, ↓e_item, ↓e_slice, ↓e_tup, ↓e_list, ↓e_comp, ↓es_nil, ↓es_cons, ↓b_one, ↓b_and, ↓b_or, ↓a_nil, ↓a_and, ↓a_or, ↓cs_nil, ↓cs_cons, ↓c_one, ↓c_two, ↓t_not, ↓t_and, ↓t_or, ↓t_cmp, ↓t_call, ↓t_bcall, ↓t_loc, ↓tr_bool, ↓as_name, ↓as_2, ↓as_3, ↓sets_nil, ↓sets_cons, ↓ret_ret, ↓ret_next, ↓br_true, ↓br_false, ↓br_not, ↓rd_set, ↓rdi_0, ↓rdi_1, ↓g_len, ↓g_isinstance, ↓g_range, ↓g_int, ↓g_tuple, ↓g_list, ↓g_dict, ↓g_min, ↓g_all, ↓mt_count, ↓it_tup, ↓it_put, ↓bin_add, ↓bin_sub, ↓bin_mul, ↓bin_mod, ↓bin_div, ↓bin_tup, ↓cm_eq, ↓cm_ne, ↓cm_lt, ↓cm_le, ↓cm_gt, ↓cm_ge, ↓cm_in, ↓cm_nin, ↓eq_str, ↓eq_int, ↓in_strs, ↓bc_len_1, ↓bc_len_2, ↓lit_10, ↓lit_20, ↓lit_11, ↓lit_22, ↓mk_put, ↓g_append, ↓g_extend, ↓g_count, ↓ma_append, ↓len_put, ↓sl_take, ↓sl_drop, ↓x_app, ↓bc_range, ↓bc_int, ↓is_int_int, ↓is_int_bool, ↓is_str_str, ↓is_tup_tup, ↓is_bool_bool, ↓is_bool_int, ↓reduceIte, String.reduceEq]))
    intro r hr
    (repeat (first | refine seqN ?_ | simp only [↓x_nil, ↓x_cons, ↓seq_ret, ↓seq_cont, ↓turn_next, ↓turn_cont, ↓turn_ret, ↓x_assign, ↓x_ite, ↓x_loop_loc, ↓x_loop_bcall, ↓x_loop_call, ↓x_loop_item, ↓x_loop_tup, ↓x_loop_zip, ↓x_while, ↓x_ret, ↓x_cont, ↓x_expr, ↓x_raise, ↓e_none, ↓e_bool, ↓e_int, ↓e_str, ↓e_neg, ↓e_loc, ↓e_glob, ↓e_bin, ↓e_not, ↓e_and, ↓e_or, ↓e_cmp, ↓e_call, ↓e_bcall, ↓e_meth, ↓e_item, ↓e_slice, ↓e_tup, ↓e_list, ↓e_comp, ↓es_nil, ↓es_cons, ↓b_one, ↓b_and, ↓b_or, ↓a_nil, ↓a_and, ↓a_or, ↓cs_nil, ↓cs_cons, ↓c_one, ↓c_two, ↓t_not, ↓t_and, ↓t_or, ↓t_cmp, ↓t_call, ↓t_bcall, ↓t_loc, ↓tr_bool, ↓as_name, ↓as_2, ↓as_3, ↓sets_nil, ↓sets_cons, ↓ret_ret, ↓ret_next, ↓br_true, ↓br_false, ↓br_not, ↓rd_set, ↓rdi_0, ↓rdi_1, ↓g_len, ↓g_isinstance, ↓g_range, ↓g_int, ↓g_tuple, ↓g_list, ↓g_dict, ↓g_min, ↓g_all, ↓mt_count, ↓it_tup, ↓it_put, ↓bin_add, ↓bin_sub, ↓bin_mul, ↓bin_mod, ↓bin_div, ↓bin_tup, ↓cm_eq, ↓cm_ne, ↓cm_lt, ↓cm_le, ↓cm_gt, ↓cm_ge, ↓cm_in, ↓cm_nin, ↓eq_str, ↓eq_int, ↓in_strs, ↓bc_len_1, ↓bc_len_2, ↓lit_10, ↓lit_20, ↓lit_11, ↓lit_22, ↓mk_put, ↓g_append, ↓g_extend, ↓g_count, ↓ma_append, ↓len_put, ↓sl_take, ↓sl_drop, ↓x_app, ↓bc_range, ↓bc_int, ↓is_int_int, ↓is_int_bool, ↓is_str_str, ↓is_tup_tup, ↓is_bool_bool, ↓is_bool_int, ↓reduceIte, String.reduceEq, ↓H.is_clear.gate]))
    have hne := ne_of ha hr
    have ha1 : ∀ c, (σ.put r c) a = some (.list (laneD lane)) := fun c => by rw [put_ne hne]; exact ha
    refine c_is_clear (st := st) H ?_
    (repeat (first | refine seqN ?_ | simp only [↓x_nil, ↓x_cons, ↓seq_ret, ↓seq_cont, ↓turn_next, ↓turn_cont, ↓turn_ret, ↓x_assign, ↓x_ite, ↓x_loop_loc, ↓x_loop_bcall, ↓x_loop_call, ↓x_loop_item, ↓x_loop_tup, ↓x_loop_zip, ↓x_while, ↓x_ret, ↓x_cont, ↓x_expr, ↓x_raise, ↓e_none, ↓e_bool, ↓e_int, ↓e_str, ↓e_neg, ↓e_loc, ↓e_glob, ↓e_bin, ↓e_not, ↓e_and, ↓e_or, ↓e_cmp, ↓e_call, ↓e_bcall, ↓e_meth, ↓e_item, ↓e_slice, ↓e_tup, ↓e_list, ↓e_comp, ↓es_nil, ↓es_cons, ↓b_one, ↓b_and, ↓b_or, ↓a_nil, ↓a_and, ↓a_or, ↓cs_nil, ↓cs_cons, ↓c_one, ↓c_two, ↓t_not, ↓t_and, ↓t_or, ↓t_cmp, ↓t_call, ↓t_bcall, ↓t_loc, ↓tr_bool, ↓as_name, ↓as_2, ↓as_3, ↓sets_nil, ↓sets_cons, ↓ret_ret, ↓ret_next, ↓br_true, ↓br_false, ↓br_not, ↓rd_set, ↓rdi_0, ↓rdi_1, ↓g_len, ↓g_isinstance, ↓g_range, ↓g_int, ↓g_tuple, ↓g_list, ↓g_dict, ↓g_min, ↓g_all, ↓mt_count, ↓it_tup, ↓it_put, ↓bin_add, ↓bin_sub, ↓bin_mul, ↓bin_mod, ↓bin_div, ↓bin_tup, ↓cm_eq, ↓cm_ne, ↓cm_lt, ↓cm_le, ↓cm_gt, ↓cm_ge, ↓cm_in, ↓cm_nin, ↓eq_str, ↓eq_int, ↓in_strs, ↓bc_len_1, ↓bc_len_2, ↓lit_10, ↓lit_20, ↓lit_11, ↓lit_22, ↓mk_put, ↓g_append, ↓g_extend, ↓g_count, ↓ma_append, ↓len_put, ↓sl_take, ↓sl_drop, ↓x_app, ↓bc_range, ↓bc_int, ↓is_int_int, ↓is_int_bool, ↓is_str_str, ↓is_tup_tup, ↓is_bool_bool, ↓is_bool_int, ↓reduceIte, String.reduceEq, ↓ma_side]))
    refine br_of (fun q => ?_) (fun q => ?_)
    · rw [q, if_pos rfl] at h
      (repeat (first | refine seqN ?_ | simp only [↓x_nil, ↓x_cons, ↓seq_ret, ↓seq_cont, ↓turn_next, ↓turn_cont, ↓turn_ret, ↓x_assign, ↓x_ite, ↓x_loop_loc, ↓x_loop_bcall, ↓x_loop_call, ↓x_loop_item, ↓x_loop_tup, ↓x_loop_zip, ↓x_while, ↓x_ret, ↓x_cont, ↓x_expr, ↓x_raise, ↓e_none, ↓e_bool, ↓e_int, ↓e_str, ↓e_neg, ↓e_loc, ↓e_glob, ↓e_bin, ↓e_not, ↓e_and, ↓e_or, ↓e_cmp, ↓e_call, ↓e_bcall, ↓e_meth, ↓e_item, ↓e_slice, ↓e_tup, ↓e_list, ↓e_comp, ↓es_nil, ↓es_cons, ↓b_one, ↓b_and, ↓b_or, ↓a_nil, ↓a_and, ↓a_or, ↓cs_nil, ↓cs_cons, ↓c_one, ↓c_two, ↓t_not, ↓t_and, ↓t_or, ↓t_cmp, ↓t_call, ↓t_bcall, ↓t_loc, ↓tr_bool, ↓as_name, ↓as_2, ↓as_3, ↓sets_nil, ↓sets_cons, ↓ret_ret, ↓ret_next, ↓br_true, ↓br_false, ↓br_not, ↓rd_set, ↓rdi_0, ↓rdi_1, ↓g_len, ↓g_isinstance, ↓g_range, ↓g_int, ↓g_tuple, ↓g_list, ↓g_dict, ↓g_min, ↓g_all, ↓mt_count, ↓it_tup, ↓it_put, ↓bin_add, ↓bin_sub, ↓bin_mul, ↓bin_mod, ↓bin_div, ↓bin_tup, ↓cm_eq, ↓cm_ne, ↓cm_lt, ↓cm_le, ↓cm_gt, ↓cm_ge, ↓cm_in, ↓cm_nin, ↓eq_str, ↓eq_int, ↓in_strs, ↓bc_len_1, ↓bc_len_2, ↓lit_10, ↓lit_20, ↓lit_11, ↓lit_22, ↓mk_put, ↓g_append, ↓g_extend, ↓g_count, ↓ma_append, ↓len_put, ↓sl_take, ↓sl_drop, ↓x_app, ↓bc_range, ↓bc_int, ↓is_int_int, ↓is_int_bool, ↓is_str_str, ↓is_tup_tup, ↓is_bool_bool, ↓is_bool_int, ↓reduceIte, String.reduceEq, ↓need_of (show ([] : List D).length ≤ line by simp), ↓ma_side, ↓it_l (ha1 _), ↓rdi_of (lane_of hf) (lt63 hf h8)]))
      refine br_dec (fun q => ?_) (fun q => ?_)
      · (repeat (first | refine seqN ?_ | simp only [↓x_nil, ↓x_cons, ↓seq_ret, ↓seq_cont, ↓turn_next, ↓turn_cont, ↓turn_ret, ↓x_assign, ↓x_ite, ↓x_loop_loc, ↓x_loop_bcall, ↓x_loop_call, ↓x_loop_item, ↓x_loop_tup, ↓x_loop_zip, ↓x_while, ↓x_ret, ↓x_cont, ↓x_expr, ↓x_raise, ↓e_none, ↓e_bool, ↓e_int, ↓e_str, ↓e_neg, ↓e_loc, ↓e_glob, ↓e_bin, ↓e_not, ↓e_and, ↓e_or, ↓e_cmp, ↓e_call, ↓e_bcall, ↓e_meth, ↓e_item, ↓e_slice, ↓e_tup, ↓e_list, ↓e_comp, ↓es_nil, ↓es_cons, ↓b_one, ↓b_and, ↓b_or, ↓a_nil, ↓a_and, ↓a_or, ↓cs_nil, ↓cs_cons, ↓c_one, ↓c_two, ↓t_not, ↓t_and, ↓t_or, ↓t_cmp, ↓t_call, ↓t_bcall, ↓t_loc, ↓tr_bool, ↓as_name, ↓as_2, ↓as_3, ↓sets_nil, ↓sets_cons, ↓ret_ret, ↓ret_next, ↓br_true, ↓br_false, ↓br_not, ↓rd_set, ↓rdi_0, ↓rdi_1, ↓g_len, ↓g_isinstance, ↓g_range, ↓g_int, ↓g_tuple, ↓g_list, ↓g_dict, ↓g_min, ↓g_all, ↓mt_count, ↓it_tup, ↓it_put, ↓bin_add, ↓bin_sub, ↓bin_mul, ↓bin_mod, ↓bin_div, ↓bin_tup, ↓cm_eq, ↓cm_ne, ↓cm_lt, ↓cm_le, ↓cm_gt, ↓cm_ge, ↓cm_in, ↓cm_nin, ↓eq_str, ↓eq_int, ↓in_strs, ↓bc_len_1, ↓bc_len_2, ↓lit_10, ↓lit_20, ↓lit_11, ↓lit_22, ↓mk_put, ↓g_append, ↓g_extend, ↓g_count, ↓ma_append, ↓len_put, ↓sl_take, ↓sl_drop, ↓x_app, ↓bc_range, ↓bc_int, ↓is_int_int, ↓is_int_bool, ↓is_str_str, ↓is_tup_tup, ↓is_bool_bool, ↓is_bool_int, ↓reduceIte, String.reduceEq, ↓need_of (show ([] ++ [D.tup [D.str "go", D.int t]] : List D).length ≤ line by simp [line])]))
        exact h r _ (Ext.put (Ext.refl _) hr) hr (by rw [put_at, if_pos (by omega)]; rfl)
      · (repeat (first | refine seqN ?_ | simp only [↓x_nil, ↓x_cons, ↓seq_ret, ↓seq_cont, ↓turn_next, ↓turn_cont, ↓turn_ret, ↓x_assign, ↓x_ite, ↓x_loop_loc, ↓x_loop_bcall, ↓x_loop_call, ↓x_loop_item, ↓x_loop_tup, ↓x_loop_zip, ↓x_while, ↓x_ret, ↓x_cont, ↓x_expr, ↓x_raise, ↓e_none, ↓e_bool, ↓e_int, ↓e_str, ↓e_neg, ↓e_loc, ↓e_glob, ↓e_bin, ↓e_not, ↓e_and, ↓e_or, ↓e_cmp, ↓e_call, ↓e_bcall, ↓e_meth, ↓e_item, ↓e_slice, ↓e_tup, ↓e_list, ↓e_comp, ↓es_nil, ↓es_cons, ↓b_one, ↓b_and, ↓b_or, ↓a_nil, ↓a_and, ↓a_or, ↓cs_nil, ↓cs_cons, ↓c_one, ↓c_two, ↓t_not, ↓t_and, ↓t_or, ↓t_cmp, ↓t_call, ↓t_bcall, ↓t_loc, ↓tr_bool, ↓as_name, ↓as_2, ↓as_3, ↓sets_nil, ↓sets_cons, ↓ret_ret, ↓ret_next, ↓br_true, ↓br_false, ↓br_not, ↓rd_set, ↓rdi_0, ↓rdi_1, ↓g_len, ↓g_isinstance, ↓g_range, ↓g_int, ↓g_tuple, ↓g_list, ↓g_dict, ↓g_min, ↓g_all, ↓mt_count, ↓it_tup, ↓it_put, ↓bin_add, ↓bin_sub, ↓bin_mul, ↓bin_mod, ↓bin_div, ↓bin_tup, ↓cm_eq, ↓cm_ne, ↓cm_lt, ↓cm_le, ↓cm_gt, ↓cm_ge, ↓cm_in, ↓cm_nin, ↓eq_str, ↓eq_int, ↓in_strs, ↓bc_len_1, ↓bc_len_2, ↓lit_10, ↓lit_20, ↓lit_11, ↓lit_22, ↓mk_put, ↓g_append, ↓g_extend, ↓g_count, ↓ma_append, ↓len_put, ↓sl_take, ↓sl_drop, ↓x_app, ↓bc_range, ↓bc_int, ↓is_int_int, ↓is_int_bool, ↓is_str_str, ↓is_tup_tup, ↓is_bool_bool, ↓is_bool_int, ↓reduceIte, String.reduceEq]))
        exact h r _ (Ext.put (Ext.refl _) hr) hr (by rw [put_at, if_neg (by omega)]; rfl)
    · rw [q, if_neg (by simp)] at h
      (repeat (first | refine seqN ?_ | simp only [↓x_nil, ↓x_cons, ↓seq_ret, ↓seq_cont, ↓turn_next, ↓turn_cont, ↓turn_ret, ↓x_assign, ↓x_ite, ↓x_loop_loc, ↓x_loop_bcall, ↓x_loop_call, ↓x_loop_item, ↓x_loop_tup, ↓x_loop_zip, ↓x_while, ↓x_ret, ↓x_cont, ↓x_expr, ↓x_raise, ↓e_none, ↓e_bool, ↓e_int, ↓e_str, ↓e_neg, ↓e_loc, ↓e_glob, ↓e_bin, ↓e_not, ↓e_and, ↓e_or, ↓e_cmp, ↓e_call, ↓e_bcall, ↓e_meth, ↓e_item, ↓e_slice, ↓e_tup, ↓e_list, ↓e_comp, ↓es_nil, ↓es_cons, ↓b_one, ↓b_and, ↓b_or, ↓a_nil, ↓a_and, ↓a_or, ↓cs_nil, ↓cs_cons, ↓c_one, ↓c_two, ↓t_not, ↓t_and, ↓t_or, ↓t_cmp, ↓t_call, ↓t_bcall, ↓t_loc, ↓tr_bool, ↓as_name, ↓as_2, ↓as_3, ↓sets_nil, ↓sets_cons, ↓ret_ret, ↓ret_next, ↓br_true, ↓br_false, ↓br_not, ↓rd_set, ↓rdi_0, ↓rdi_1, ↓g_len, ↓g_isinstance, ↓g_range, ↓g_int, ↓g_tuple, ↓g_list, ↓g_dict, ↓g_min, ↓g_all, ↓mt_count, ↓it_tup, ↓it_put, ↓bin_add, ↓bin_sub, ↓bin_mul, ↓bin_mod, ↓bin_div, ↓bin_tup, ↓cm_eq, ↓cm_ne, ↓cm_lt, ↓cm_le, ↓cm_gt, ↓cm_ge, ↓cm_in, ↓cm_nin, ↓eq_str, ↓eq_int, ↓in_strs, ↓bc_len_1, ↓bc_len_2, ↓lit_10, ↓lit_20, ↓lit_11, ↓lit_22, ↓mk_put, ↓g_append, ↓g_extend, ↓g_count, ↓ma_append, ↓len_put, ↓sl_take, ↓sl_drop, ↓x_app, ↓bc_range, ↓bc_int, ↓is_int_int, ↓is_int_bool, ↓is_str_str, ↓is_tup_tup, ↓is_bool_bool, ↓is_bool_int, ↓reduceIte, String.reduceEq, ↓ma_side, ↓it_l (ha1 _), ↓rdi_of (lane_of hf) (lt63 hf h8)]))
      refine br_dec (fun q => ?_) (fun q => ?_)
      · (repeat (first | refine seqN ?_ | simp only [↓x_nil, ↓x_cons, ↓seq_ret, ↓seq_cont, ↓turn_next, ↓turn_cont, ↓turn_ret, ↓x_assign, ↓x_ite, ↓x_loop_loc, ↓x_loop_bcall, ↓x_loop_call, ↓x_loop_item, ↓x_loop_tup, ↓x_loop_zip, ↓x_while, ↓x_ret, ↓x_cont, ↓x_expr, ↓x_raise, ↓e_none, ↓e_bool, ↓e_int, ↓e_str, ↓e_neg, ↓e_loc, ↓e_glob, ↓e_bin, ↓e_not, ↓e_and, ↓e_or, ↓e_cmp, ↓e_call, ↓e_bcall, ↓e_meth, ↓e_item, ↓e_slice, ↓e_tup, ↓e_list, ↓e_comp, ↓es_nil, ↓es_cons, ↓b_one, ↓b_and, ↓b_or, ↓a_nil, ↓a_and, ↓a_or, ↓cs_nil, ↓cs_cons, ↓c_one, ↓c_two, ↓t_not, ↓t_and, ↓t_or, ↓t_cmp, ↓t_call, ↓t_bcall, ↓t_loc, ↓tr_bool, ↓as_name, ↓as_2, ↓as_3, ↓sets_nil, ↓sets_cons, ↓ret_ret, ↓ret_next, ↓br_true, ↓br_false, ↓br_not, ↓rd_set, ↓rdi_0, ↓rdi_1, ↓g_len, ↓g_isinstance, ↓g_range, ↓g_int, ↓g_tuple, ↓g_list, ↓g_dict, ↓g_min, ↓g_all, ↓mt_count, ↓it_tup, ↓it_put, ↓bin_add, ↓bin_sub, ↓bin_mul, ↓bin_mod, ↓bin_div, ↓bin_tup, ↓cm_eq, ↓cm_ne, ↓cm_lt, ↓cm_le, ↓cm_gt, ↓cm_ge, ↓cm_in, ↓cm_nin, ↓eq_str, ↓eq_int, ↓in_strs, ↓bc_len_1, ↓bc_len_2, ↓lit_10, ↓lit_20, ↓lit_11, ↓lit_22, ↓mk_put, ↓g_append, ↓g_extend, ↓g_count, ↓ma_append, ↓len_put, ↓sl_take, ↓sl_drop, ↓x_app, ↓bc_range, ↓bc_int, ↓is_int_int, ↓is_int_bool, ↓is_str_str, ↓is_tup_tup, ↓is_bool_bool, ↓is_bool_int, ↓reduceIte, String.reduceEq, ↓need_of (show ([] : List D).length ≤ line by simp)]))
        exact h r _ (Ext.put (Ext.refl _) hr) hr (by rw [put_at, if_pos (by omega)]; rfl)
      · (repeat (first | refine seqN ?_ | simp only [↓x_nil, ↓x_cons, ↓seq_ret, ↓seq_cont, ↓turn_next, ↓turn_cont, ↓turn_ret, ↓x_assign, ↓x_ite, ↓x_loop_loc, ↓x_loop_bcall, ↓x_loop_call, ↓x_loop_item, ↓x_loop_tup, ↓x_loop_zip, ↓x_while, ↓x_ret, ↓x_cont, ↓x_expr, ↓x_raise, ↓e_none, ↓e_bool, ↓e_int, ↓e_str, ↓e_neg, ↓e_loc, ↓e_glob, ↓e_bin, ↓e_not, ↓e_and, ↓e_or, ↓e_cmp, ↓e_call, ↓e_bcall, ↓e_meth, ↓e_item, ↓e_slice, ↓e_tup, ↓e_list, ↓e_comp, ↓es_nil, ↓es_cons, ↓b_one, ↓b_and, ↓b_or, ↓a_nil, ↓a_and, ↓a_or, ↓cs_nil, ↓cs_cons, ↓c_one, ↓c_two, ↓t_not, ↓t_and, ↓t_or, ↓t_cmp, ↓t_call, ↓t_bcall, ↓t_loc, ↓tr_bool, ↓as_name, ↓as_2, ↓as_3, ↓sets_nil, ↓sets_cons, ↓ret_ret, ↓ret_next, ↓br_true, ↓br_false, ↓br_not, ↓rd_set, ↓rdi_0, ↓rdi_1, ↓g_len, ↓g_isinstance, ↓g_range, ↓g_int, ↓g_tuple, ↓g_list, ↓g_dict, ↓g_min, ↓g_all, ↓mt_count, ↓it_tup, ↓it_put, ↓bin_add, ↓bin_sub, ↓bin_mul, ↓bin_mod, ↓bin_div, ↓bin_tup, ↓cm_eq, ↓cm_ne, ↓cm_lt, ↓cm_le, ↓cm_gt, ↓cm_ge, ↓cm_in, ↓cm_nin, ↓eq_str, ↓eq_int, ↓in_strs, ↓bc_len_1, ↓bc_len_2, ↓lit_10, ↓lit_20, ↓lit_11, ↓lit_22, ↓mk_put, ↓g_append, ↓g_extend, ↓g_count, ↓ma_append, ↓len_put, ↓sl_take, ↓sl_drop, ↓x_app, ↓bc_range, ↓bc_int, ↓is_int_int, ↓is_int_bool, ↓is_str_str, ↓is_tup_tup, ↓is_bool_bool, ↓is_bool_int, ↓reduceIte, String.reduceEq]))
        exact h r _ (Ext.put (Ext.refl _) hr) hr (by rw [put_at, if_neg (by omega)]; rfl)
theorem movesOf_le (lane : List Nat) (ways : List Bool) (st : List Spot) (t : Nat) : (movesOf lane ways st t).length ≤ 2 := by
  unfold movesOf
  split
  · simp
  · split <;> simp
  · rw [List.length_append]
    have h1 : ∀ (c : Prop) [Decidable c] (m : Move), (if c then [m] else []).length ≤ 1 := fun c _ m => by split <;> simp
    have := h1 (clear st (ahead lane.length (ways.getD t true) ‹_›) = true) (.go, t)
    have := h1 (List.count (Spot.side ‹_›) st < lane.getD ‹_› 0) (.aside, t)
    omega
theorem moves_le (lane : List Nat) (ways : List Bool) (st : List Spot) : ∀ i, ((List.range i).flatMap (movesOf lane ways st)).length ≤ 2 * i
  | 0 => by simp
  | i + 1 => by
    rw [List.range_succ, List.flatMap_append, List.length_append]
    have := moves_le lane ways st i
    have := movesOf_le lane ways st i
    simp only [List.flatMap_cons, List.flatMap_nil, List.append_nil]; omega
theorem c_all_moves (H : Core K) {a b : Addr} {lane : List Nat} {ways : List Bool} {st : List Spot} (ha : σ a = some (.list (laneD lane))) (hb : σ b = some (.list (waysD ways))) (G : Good lane ways st)
    (h : ∀ r σ', Ext σ σ' → σ r = none → σ' r = some (.list ((allMoves lane ways st).map moveD)) → Q (.ref r) σ') : (K (n + 3)).call "all_moves" [.ref a, .ref b, standD st] σ Q := by
  refine H.all_moves.run _ _ _ _ rfl ?_
  have h6 := G.w6
  (repeat (first | refine seqN ?_ | simp only [↓x_nil, ↓x_cons, ↓seq_ret, ↓seq_cont, ↓turn_next, ↓turn_cont, ↓turn_ret, ↓x_assign, ↓x_ite, ↓x_loop_loc, ↓x_loop_bcall, ↓x_loop_call, ↓x_loop_item, ↓x_loop_tup, ↓x_loop_zip, ↓x_while, ↓x_ret, ↓x_cont, ↓x_expr, ↓x_raise, ↓e_none, ↓e_bool, ↓e_int, ↓e_str, ↓e_neg, ↓e_loc, ↓e_glob, ↓e_bin, ↓e_not, ↓e_and, ↓e_or, ↓e_cmp, ↓e_call, ↓e_bcall, ↓e_meth, ↓e_item, ↓e_slice, ↓e_tup, ↓e_list, ↓e_comp, ↓es_nil, ↓es_cons, ↓b_one, ↓b_and, ↓b_or, ↓a_nil, ↓a_and, ↓a_or, ↓cs_nil, ↓cs_cons, ↓c_one, ↓c_two, ↓t_not, ↓t_and, ↓t_or, ↓t_cmp, ↓t_call, ↓t_bcall, ↓t_loc, ↓tr_bool, ↓as_name, ↓as_2, ↓as_3, ↓sets_nil, ↓sets_cons, ↓ret_ret, ↓ret_next, ↓br_true, ↓br_false, ↓br_not, ↓rd_set, ↓rdi_0, ↓rdi_1, ↓g_len, ↓g_isinstance, ↓g_range, ↓g_int, ↓g_tuple, ↓g_list, ↓g_dict, ↓g_min, ↓g_all, ↓mt_count, ↓it_tup, ↓it_put, ↓bin_add, ↓bin_sub, ↓bin_mul, ↓bin_mod, ↓bin_div, ↓bin_tup, ↓cm_eq, ↓cm_ne, ↓cm_lt, ↓cm_le, ↓cm_gt, ↓cm_ge, ↓cm_in, ↓cm_nin, ↓eq_str, ↓eq_int, ↓in_strs, ↓bc_len_1, ↓bc_len_2, ↓lit_10, ↓lit_20, ↓lit_11, ↓lit_22, ↓mk_put, ↓g_append, ↓g_extend, ↓g_count, ↓ma_append, ↓len_put, ↓sl_take, ↓sl_drop, ↓x_app, ↓bc_range, ↓bc_int, ↓is_int_int, ↓is_int_bool, ↓is_str_str, ↓is_tup_tup, ↓is_bool_bool, ↓is_bool_int, ↓reduceIte, String.reduceEq, ↓b_all_moves, ↓p_all_moves]))
  intro r hr
  have hne := ne_of hb hr
  have hb1 : (σ.put r (.list [])) b = some (.list (waysD ways)) := by rw [put_ne hne]; exact hb
  (repeat (first | refine seqN ?_ | simp only [↓x_nil, ↓x_cons, ↓seq_ret, ↓seq_cont, ↓turn_next, ↓turn_cont, ↓turn_ret, ↓x_assign, ↓x_ite, ↓x_loop_loc, ↓x_loop_bcall, ↓x_loop_call, ↓x_loop_item, ↓x_loop_tup, ↓x_loop_zip, ↓x_while, ↓x_ret, ↓x_cont, ↓x_expr, ↓x_raise, ↓e_none, ↓e_bool, ↓e_int, ↓e_str, ↓e_neg, ↓e_loc, ↓e_glob, ↓e_bin, ↓e_not, ↓e_and, ↓e_or, ↓e_cmp, ↓e_call, ↓e_bcall, ↓e_meth, ↓e_item, ↓e_slice, ↓e_tup, ↓e_list, ↓e_comp, ↓es_nil, ↓es_cons, ↓b_one, ↓b_and, ↓b_or, ↓a_nil, ↓a_and, ↓a_or, ↓cs_nil, ↓cs_cons, ↓c_one, ↓c_two, ↓t_not, ↓t_and, ↓t_or, ↓t_cmp, ↓t_call, ↓t_bcall, ↓t_loc, ↓tr_bool, ↓as_name, ↓as_2, ↓as_3, ↓sets_nil, ↓sets_cons, ↓ret_ret, ↓ret_next, ↓br_true, ↓br_false, ↓br_not, ↓rd_set, ↓rdi_0, ↓rdi_1, ↓g_len, ↓g_isinstance, ↓g_range, ↓g_int, ↓g_tuple, ↓g_list, ↓g_dict, ↓g_min, ↓g_all, ↓mt_count, ↓it_tup, ↓it_put, ↓bin_add, ↓bin_sub, ↓bin_mul, ↓bin_mod, ↓bin_div, ↓bin_tup, ↓cm_eq, ↓cm_ne, ↓cm_lt, ↓cm_le, ↓cm_gt, ↓cm_ge, ↓cm_in, ↓cm_nin, ↓eq_str, ↓eq_int, ↓in_strs, ↓bc_len_1, ↓bc_len_2, ↓lit_10, ↓lit_20, ↓lit_11, ↓lit_22, ↓mk_put, ↓g_append, ↓g_extend, ↓g_count, ↓ma_append, ↓len_put, ↓sl_take, ↓sl_drop, ↓x_app, ↓bc_range, ↓bc_int, ↓is_int_int, ↓is_int_bool, ↓is_str_str, ↓is_tup_tup, ↓is_bool_bool, ↓is_bool_int, ↓reduceIte, String.reduceEq, ↓bc_len hb1 (by rw [ways_len]; omega), ↓need_of (show (0 : Int) ≤ (waysD ways).length ∧ ((waysD ways).length : Int) < 2 ^ 62 by rw [ways_len]; omega)]))
  rw [ways_len, Int.toNat_natCast]
  refine range_of (fun i ρ' σ' => Ext σ σ' ∧ σ' r = some (.list (((List.range i).flatMap (movesOf lane ways st)).map moveD)) ∧ ρ' "lane" = some (.ref a) ∧ ρ' "ways" = some (.ref b) ∧ ρ' "stand" = some (standD st) ∧ ρ' "found" = some (.ref r)) (le_line h6)
    ⟨Ext.put (Ext.refl _) hr, put_at, rfl, rfl, rfl, rfl⟩ (fun i ρ' σ' hi e => ?_) (fun ρ' σ' e => ?_)
  · obtain ⟨hE, hr', q1, q2, q3, q4⟩ := e
    (repeat (first | refine seqN ?_ | simp only [↓x_nil, ↓x_cons, ↓seq_ret, ↓seq_cont, ↓turn_next, ↓turn_cont, ↓turn_ret, ↓x_assign, ↓x_ite, ↓x_loop_loc, ↓x_loop_bcall, ↓x_loop_call, ↓x_loop_item, ↓x_loop_tup, ↓x_loop_zip, ↓x_while, ↓x_ret, ↓x_cont, ↓x_expr, ↓x_raise, ↓e_none, ↓e_bool, ↓e_int, ↓e_str, ↓e_neg, ↓e_loc, ↓e_glob, ↓e_bin, ↓e_not, ↓e_and, ↓e_or, ↓e_cmp, ↓e_call, ↓e_bcall, ↓e_meth, ↓e_item, ↓e_slice, ↓e_tup, ↓e_list, ↓e_comp, ↓es_nil, ↓es_cons, ↓b_one, ↓b_and, ↓b_or, ↓a_nil, ↓a_and, ↓a_or, ↓cs_nil, ↓cs_cons, ↓c_one, ↓c_two, ↓t_not, ↓t_and, ↓t_or, ↓t_cmp, ↓t_call, ↓t_bcall, ↓t_loc, ↓tr_bool, ↓as_name, ↓as_2, ↓as_3, ↓sets_nil, ↓sets_cons, ↓ret_ret, ↓ret_next, ↓br_true, ↓br_false, ↓br_not, ↓rd_set, ↓rdi_0, ↓rdi_1, ↓g_len, ↓g_isinstance, ↓g_range, ↓g_int, ↓g_tuple, ↓g_list, ↓g_dict, ↓g_min, ↓g_all, ↓mt_count, ↓it_tup, ↓it_put, ↓bin_add, ↓bin_sub, ↓bin_mul, ↓bin_mod, ↓bin_div, ↓bin_tup, ↓cm_eq, ↓cm_ne, ↓cm_lt, ↓cm_le, ↓cm_gt, ↓cm_ge, ↓cm_in, ↓cm_nin, ↓eq_str, ↓eq_int, ↓in_strs, ↓bc_len_1, ↓bc_len_2, ↓lit_10, ↓lit_20, ↓lit_11, ↓lit_22, ↓mk_put, ↓g_append, ↓g_extend, ↓g_count, ↓ma_append, ↓len_put, ↓sl_take, ↓sl_drop, ↓x_app, ↓bc_range, ↓bc_int, ↓is_int_int, ↓is_int_bool, ↓is_str_str, ↓is_tup_tup, ↓is_bool_bool, ↓is_bool_int, ↓reduceIte, String.reduceEq, ↓rd_of q1, ↓rd_of q2, ↓rd_of q3, ↓rd_of q4, ↓mk_list hr', ↓H.moves_of.gate]))
    refine c_moves_of H (hE _ _ ha) (hE _ _ hb) G hi fun r2 σ2 hE2 h2 h2' => ?_
    have hrr : r ≠ r2 := ne_of hr' h2
    have := moves_le lane ways st i
    have := movesOf_le lane ways st i
    (repeat (first | refine seqN ?_ | simp only [↓x_nil, ↓x_cons, ↓seq_ret, ↓seq_cont, ↓turn_next, ↓turn_cont, ↓turn_ret, ↓x_assign, ↓x_ite, ↓x_loop_loc, ↓x_loop_bcall, ↓x_loop_call, ↓x_loop_item, ↓x_loop_tup, ↓x_loop_zip, ↓x_while, ↓x_ret, ↓x_cont, ↓x_expr, ↓x_raise, ↓e_none, ↓e_bool, ↓e_int, ↓e_str, ↓e_neg, ↓e_loc, ↓e_glob, ↓e_bin, ↓e_not, ↓e_and, ↓e_or, ↓e_cmp, ↓e_call, ↓e_bcall, ↓e_meth, ↓e_item, ↓e_slice, ↓e_tup, ↓e_list, ↓e_comp, ↓es_nil, ↓es_cons, ↓b_one, ↓b_and, ↓b_or, ↓a_nil, ↓a_and, ↓a_or, ↓cs_nil, ↓cs_cons, ↓c_one, ↓c_two, ↓t_not, ↓t_and, ↓t_or, ↓t_cmp, ↓t_call, ↓t_bcall, ↓t_loc, ↓tr_bool, ↓as_name, ↓as_2, ↓as_3, ↓sets_nil, ↓sets_cons, ↓ret_ret, ↓ret_next, ↓br_true, ↓br_false, ↓br_not, ↓rd_set, ↓rdi_0, ↓rdi_1, ↓g_len, ↓g_isinstance, ↓g_range, ↓g_int, ↓g_tuple, ↓g_list, ↓g_dict, ↓g_min, ↓g_all, ↓mt_count, ↓it_tup, ↓it_put, ↓bin_add, ↓bin_sub, ↓bin_mul, ↓bin_mod, ↓bin_div, ↓bin_tup, ↓cm_eq, ↓cm_ne, ↓cm_lt, ↓cm_le, ↓cm_gt, ↓cm_ge, ↓cm_in, ↓cm_nin, ↓eq_str, ↓eq_int, ↓in_strs, ↓bc_len_1, ↓bc_len_2, ↓lit_10, ↓lit_20, ↓lit_11, ↓lit_22, ↓mk_put, ↓g_append, ↓g_extend, ↓g_count, ↓ma_append, ↓len_put, ↓sl_take, ↓sl_drop, ↓x_app, ↓bc_range, ↓bc_int, ↓is_int_int, ↓is_int_bool, ↓is_str_str, ↓is_tup_tup, ↓is_bool_bool, ↓is_bool_int, ↓reduceIte, String.reduceEq, ↓ml_extend hrr (hE2 _ _ hr') h2' (by simp only [List.length_map, line]; omega)]))
    refine ⟨Ext.put (hE.trans hE2) hr, ?_, q1, q2, q3, q4⟩
    rw [put_at, List.range_succ, List.flatMap_append, List.map_append]
    simp
  · obtain ⟨hE, hr', q1, q2, q3, q4⟩ := e
    (repeat (first | refine seqN ?_ | simp only [↓x_nil, ↓x_cons, ↓seq_ret, ↓seq_cont, ↓turn_next, ↓turn_cont, ↓turn_ret, ↓x_assign, ↓x_ite, ↓x_loop_loc, ↓x_loop_bcall, ↓x_loop_call, ↓x_loop_item, ↓x_loop_tup, ↓x_loop_zip, ↓x_while, ↓x_ret, ↓x_cont, ↓x_expr, ↓x_raise, ↓e_none, ↓e_bool, ↓e_int, ↓e_str, ↓e_neg, ↓e_loc, ↓e_glob, ↓e_bin, ↓e_not, ↓e_and, ↓e_or, ↓e_cmp, ↓e_call, ↓e_bcall, ↓e_meth, ↓e_item, ↓e_slice, ↓e_tup, ↓e_list, ↓e_comp, ↓es_nil, ↓es_cons, ↓b_one, ↓b_and, ↓b_or, ↓a_nil, ↓a_and, ↓a_or, ↓cs_nil, ↓cs_cons, ↓c_one, ↓c_two, ↓t_not, ↓t_and, ↓t_or, ↓t_cmp, ↓t_call, ↓t_bcall, ↓t_loc, ↓tr_bool, ↓as_name, ↓as_2, ↓as_3, ↓sets_nil, ↓sets_cons, ↓ret_ret, ↓ret_next, ↓br_true, ↓br_false, ↓br_not, ↓rd_set, ↓rdi_0, ↓rdi_1, ↓g_len, ↓g_isinstance, ↓g_range, ↓g_int, ↓g_tuple, ↓g_list, ↓g_dict, ↓g_min, ↓g_all, ↓mt_count, ↓it_tup, ↓it_put, ↓bin_add, ↓bin_sub, ↓bin_mul, ↓bin_mod, ↓bin_div, ↓bin_tup, ↓cm_eq, ↓cm_ne, ↓cm_lt, ↓cm_le, ↓cm_gt, ↓cm_ge, ↓cm_in, ↓cm_nin, ↓eq_str, ↓eq_int, ↓in_strs, ↓bc_len_1, ↓bc_len_2, ↓lit_10, ↓lit_20, ↓lit_11, ↓lit_22, ↓mk_put, ↓g_append, ↓g_extend, ↓g_count, ↓ma_append, ↓len_put, ↓sl_take, ↓sl_drop, ↓x_app, ↓bc_range, ↓bc_int, ↓is_int_int, ↓is_int_bool, ↓is_str_str, ↓is_tup_tup, ↓is_bool_bool, ↓is_bool_int, ↓reduceIte, String.reduceEq, ↓rd_of q4]))
    exact h r σ' hE hr hr'
theorem set_take {xs : List Spot} {t : Nat} {x : Spot} (h : t < xs.length) : (xs.map Spot.d).take t ++ [x.d] ++ (xs.map Spot.d).drop (t + 1) = (xs.set t x).map Spot.d := by
  rw [List.set_eq_take_append_cons_drop, if_pos h, List.map_append, List.map_cons, List.map_take, List.map_drop]
  simp
theorem c_after (H : Core K) {a b : Addr} {lane : List Nat} {ways : List Bool} {st : List Spot} {m : Move} (ha : σ a = some (.list (laneD lane))) (hb : σ b = some (.list (waysD ways))) (G : Good lane ways st) (hm : m ∈ allMoves lane ways st)
    (h : Q (standD (afterOf lane ways st m)) σ) : (K (n + 2)).call "after" [.ref a, .ref b, standD st, moveD m] σ Q := by
  refine H.after.run _ _ _ _ rfl ?_
  have h8 := G.l8
  have h6 := G.w6
  have hl := G.len
  obtain ⟨ht, hM⟩ := isMove G.len hm
  obtain ⟨w, t⟩ := m
  simp only at ht
  have hts : t < st.length := by omega
  have hw' := way_of ht
  have hlen : (st.map Spot.d).length ≤ line := by rw [List.length_map, line]; omega
  have hcat : ∀ x : Spot, ((st.map Spot.d).take t ++ [x.d]).length + ((st.map Spot.d).drop (t + 1)).length ≤ line := fun x => by
    simp only [List.length_append, List.length_take, List.length_drop, List.length_map, List.length_cons, List.length_nil, line]; omega
  have hcat1 : ∀ x : Spot, ((st.map Spot.d).take t).length + [x.d].length ≤ line := fun x => by
    simp only [List.length_take, List.length_map, List.length_cons, List.length_nil, line]; omega
  unfold afterOf standD at h
  simp only at h
  have key : ∀ p, st[t]? = some (.lane p) ∨ st[t]? = some (.side p) → ∃ s, (st.map Spot.d)[t]? = some (.tup [s, .int p]) ∧ p < lane.length ∧ (st.getD t .out).place = p := by
    rintro p (e | e)
    · exact ⟨_, at_map e, by simpa [Spot.fits] using G.fits _ (List.mem_of_getElem? e), by rw [getD_some e]; rfl⟩
    · exact ⟨_, at_map e, by simpa [Spot.fits] using G.fits _ (List.mem_of_getElem? e), by rw [getD_some e]; rfl⟩
  have fwd : ∀ p, w ≠ .aside → (st[t]? = some (.lane p) ∨ st[t]? = some (.side p)) → exsW (K (n + 1)) (fun _ _ => False) b_after (Loc.nil.sets p_after [.ref a, .ref b, standD st, moveD (w, t)]) σ (retW Q) := by
    intro p hw e
    obtain ⟨s, h1, h2, h3⟩ := key p e
    have hg : goalOf lane ways st (w, t) = ahead lane.length (ways.getD t true) p := by
      unfold goalOf; cases w <;> first | exact absurd rfl hw | (simp only [h3])
    rw [hg, ← set_take hts] at h
    (repeat (first | refine seqN ?_ | simp only [↓x_nil, ↓x_cons, ↓seq_ret, ↓seq_cont, ↓turn_next, ↓turn_cont, ↓turn_ret, ↓x_assign, ↓x_ite, ↓x_loop_loc, ↓x_loop_bcall, ↓x_loop_call, ↓x_loop_item, ↓x_loop_tup, ↓x_loop_zip, ↓x_while, ↓x_ret, ↓x_cont, ↓x_expr, ↓x_raise, ↓e_none, ↓e_bool, ↓e_int, ↓e_str, ↓e_neg, ↓e_loc, ↓e_glob, ↓e_bin, ↓e_not, ↓e_and, ↓e_or, ↓e_cmp, ↓e_call, ↓e_bcall, ↓e_meth, ↓e_item, ↓e_slice, ↓e_tup, ↓e_list, ↓e_comp, ↓es_nil, ↓es_cons, ↓b_one, ↓b_and, ↓b_or, ↓a_nil, ↓a_and, ↓a_or, ↓cs_nil, ↓cs_cons, ↓c_one, ↓c_two, ↓t_not, ↓t_and, ↓t_or, ↓t_cmp, ↓t_call, ↓t_bcall, ↓t_loc, ↓tr_bool, ↓as_name, ↓as_2, ↓as_3, ↓sets_nil, ↓sets_cons, ↓ret_ret, ↓ret_next, ↓br_true, ↓br_false, ↓br_not, ↓rd_set, ↓rdi_0, ↓rdi_1, ↓g_len, ↓g_isinstance, ↓g_range, ↓g_int, ↓g_tuple, ↓g_list, ↓g_dict, ↓g_min, ↓g_all, ↓mt_count, ↓it_tup, ↓it_put, ↓bin_add, ↓bin_sub, ↓bin_mul, ↓bin_mod, ↓bin_div, ↓bin_tup, ↓cm_eq, ↓cm_ne, ↓cm_lt, ↓cm_le, ↓cm_gt, ↓cm_ge, ↓cm_in, ↓cm_nin, ↓eq_str, ↓eq_int, ↓in_strs, ↓bc_len_1, ↓bc_len_2, ↓lit_10, ↓lit_20, ↓lit_11, ↓lit_22, ↓mk_put, ↓g_append, ↓g_extend, ↓g_count, ↓ma_append, ↓len_put, ↓sl_take, ↓sl_drop, ↓x_app, ↓bc_range, ↓bc_int, ↓is_int_int, ↓is_int_bool, ↓is_str_str, ↓is_tup_tup, ↓is_bool_bool, ↓is_bool_int, ↓reduceIte, String.reduceEq, ↓b_after, ↓p_after, ↓moveD, ↓standD, ↓rdi_of h1 (lt63 ht h6), ↓eq_aside, ↓br_neg hw, ↓it_l hb, ↓rdi_of hw' (lt63 ht h6), ↓H.ahead_of.gate]))
    refine c_ahead_of H ha h8 h2 ?_
    (repeat (first | refine seqN ?_ | simp only [↓x_nil, ↓x_cons, ↓seq_ret, ↓seq_cont, ↓turn_next, ↓turn_cont, ↓turn_ret, ↓x_assign, ↓x_ite, ↓x_loop_loc, ↓x_loop_bcall, ↓x_loop_call, ↓x_loop_item, ↓x_loop_tup, ↓x_loop_zip, ↓x_while, ↓x_ret, ↓x_cont, ↓x_expr, ↓x_raise, ↓e_none, ↓e_bool, ↓e_int, ↓e_str, ↓e_neg, ↓e_loc, ↓e_glob, ↓e_bin, ↓e_not, ↓e_and, ↓e_or, ↓e_cmp, ↓e_call, ↓e_bcall, ↓e_meth, ↓e_item, ↓e_slice, ↓e_tup, ↓e_list, ↓e_comp, ↓es_nil, ↓es_cons, ↓b_one, ↓b_and, ↓b_or, ↓a_nil, ↓a_and, ↓a_or, ↓cs_nil, ↓cs_cons, ↓c_one, ↓c_two, ↓t_not, ↓t_and, ↓t_or, ↓t_cmp, ↓t_call, ↓t_bcall, ↓t_loc, ↓tr_bool, ↓as_name, ↓as_2, ↓as_3, ↓sets_nil, ↓sets_cons, ↓ret_ret, ↓ret_next, ↓br_true, ↓br_false, ↓br_not, ↓rd_set, ↓rdi_0, ↓rdi_1, ↓g_len, ↓g_isinstance, ↓g_range, ↓g_int, ↓g_tuple, ↓g_list, ↓g_dict, ↓g_min, ↓g_all, ↓mt_count, ↓it_tup, ↓it_put, ↓bin_add, ↓bin_sub, ↓bin_mul, ↓bin_mod, ↓bin_div, ↓bin_tup, ↓cm_eq, ↓cm_ne, ↓cm_lt, ↓cm_le, ↓cm_gt, ↓cm_ge, ↓cm_in, ↓cm_nin, ↓eq_str, ↓eq_int, ↓in_strs, ↓bc_len_1, ↓bc_len_2, ↓lit_10, ↓lit_20, ↓lit_11, ↓lit_22, ↓mk_put, ↓g_append, ↓g_extend, ↓g_count, ↓ma_append, ↓len_put, ↓sl_take, ↓sl_drop, ↓x_app, ↓bc_range, ↓bc_int, ↓is_int_int, ↓is_int_bool, ↓is_str_str, ↓is_tup_tup, ↓is_bool_bool, ↓is_bool_int, ↓reduceIte, String.reduceEq, ↓need_of hlen, ↓need_of (hcat _), ↓need_of (hcat1 _)]))
    exact h
  cases hM with
  | on e q => exact fwd _ (by simp) (.inr e)
  | go e q => exact fwd _ (by simp) (.inl e)
  | @aside _ p e q =>
    obtain ⟨s, h1, h2, h3⟩ := key p (.inl e)
    have hg : goalOf lane ways st (.aside, t) = .side p := by simp only [goalOf, h3]
    rw [hg, ← set_take hts] at h
    (repeat (first | refine seqN ?_ | simp only [↓x_nil, ↓x_cons, ↓seq_ret, ↓seq_cont, ↓turn_next, ↓turn_cont, ↓turn_ret, ↓x_assign, ↓x_ite, ↓x_loop_loc, ↓x_loop_bcall, ↓x_loop_call, ↓x_loop_item, ↓x_loop_tup, ↓x_loop_zip, ↓x_while, ↓x_ret, ↓x_cont, ↓x_expr, ↓x_raise, ↓e_none, ↓e_bool, ↓e_int, ↓e_str, ↓e_neg, ↓e_loc, ↓e_glob, ↓e_bin, ↓e_not, ↓e_and, ↓e_or, ↓e_cmp, ↓e_call, ↓e_bcall, ↓e_meth, ↓e_item, ↓e_slice, ↓e_tup, ↓e_list, ↓e_comp, ↓es_nil, ↓es_cons, ↓b_one, ↓b_and, ↓b_or, ↓a_nil, ↓a_and, ↓a_or, ↓cs_nil, ↓cs_cons, ↓c_one, ↓c_two, ↓t_not, ↓t_and, ↓t_or, ↓t_cmp, ↓t_call, ↓t_bcall, ↓t_loc, ↓tr_bool, ↓as_name, ↓as_2, ↓as_3, ↓sets_nil, ↓sets_cons, ↓ret_ret, ↓ret_next, ↓br_true, ↓br_false, ↓br_not, ↓rd_set, ↓rdi_0, ↓rdi_1, ↓g_len, ↓g_isinstance, ↓g_range, ↓g_int, ↓g_tuple, ↓g_list, ↓g_dict, ↓g_min, ↓g_all, ↓mt_count, ↓it_tup, ↓it_put, ↓bin_add, ↓bin_sub, ↓bin_mul, ↓bin_mod, ↓bin_div, ↓bin_tup, ↓cm_eq, ↓cm_ne, ↓cm_lt, ↓cm_le, ↓cm_gt, ↓cm_ge, ↓cm_in, ↓cm_nin, ↓eq_str, ↓eq_int, ↓in_strs, ↓bc_len_1, ↓bc_len_2, ↓lit_10, ↓lit_20, ↓lit_11, ↓lit_22, ↓mk_put, ↓g_append, ↓g_extend, ↓g_count, ↓ma_append, ↓len_put, ↓sl_take, ↓sl_drop, ↓x_app, ↓bc_range, ↓bc_int, ↓is_int_int, ↓is_int_bool, ↓is_str_str, ↓is_tup_tup, ↓is_bool_bool, ↓is_bool_int, ↓reduceIte, String.reduceEq, ↓b_after, ↓p_after, ↓moveD, ↓Word.d, ↓standD, ↓rdi_of h1 (lt63 ht h6)]))
    have hc := hcat (.side p)
    have hc1 := hcat1 (.side p)
    simp only [Spot.d] at hc hc1 h
    (repeat (first | refine seqN ?_ | simp only [↓x_nil, ↓x_cons, ↓seq_ret, ↓seq_cont, ↓turn_next, ↓turn_cont, ↓turn_ret, ↓x_assign, ↓x_ite, ↓x_loop_loc, ↓x_loop_bcall, ↓x_loop_call, ↓x_loop_item, ↓x_loop_tup, ↓x_loop_zip, ↓x_while, ↓x_ret, ↓x_cont, ↓x_expr, ↓x_raise, ↓e_none, ↓e_bool, ↓e_int, ↓e_str, ↓e_neg, ↓e_loc, ↓e_glob, ↓e_bin, ↓e_not, ↓e_and, ↓e_or, ↓e_cmp, ↓e_call, ↓e_bcall, ↓e_meth, ↓e_item, ↓e_slice, ↓e_tup, ↓e_list, ↓e_comp, ↓es_nil, ↓es_cons, ↓b_one, ↓b_and, ↓b_or, ↓a_nil, ↓a_and, ↓a_or, ↓cs_nil, ↓cs_cons, ↓c_one, ↓c_two, ↓t_not, ↓t_and, ↓t_or, ↓t_cmp, ↓t_call, ↓t_bcall, ↓t_loc, ↓tr_bool, ↓as_name, ↓as_2, ↓as_3, ↓sets_nil, ↓sets_cons, ↓ret_ret, ↓ret_next, ↓br_true, ↓br_false, ↓br_not, ↓rd_set, ↓rdi_0, ↓rdi_1, ↓g_len, ↓g_isinstance, ↓g_range, ↓g_int, ↓g_tuple, ↓g_list, ↓g_dict, ↓g_min, ↓g_all, ↓mt_count, ↓it_tup, ↓it_put, ↓bin_add, ↓bin_sub, ↓bin_mul, ↓bin_mod, ↓bin_div, ↓bin_tup, ↓cm_eq, ↓cm_ne, ↓cm_lt, ↓cm_le, ↓cm_gt, ↓cm_ge, ↓cm_in, ↓cm_nin, ↓eq_str, ↓eq_int, ↓in_strs, ↓bc_len_1, ↓bc_len_2, ↓lit_10, ↓lit_20, ↓lit_11, ↓lit_22, ↓mk_put, ↓g_append, ↓g_extend, ↓g_count, ↓ma_append, ↓len_put, ↓sl_take, ↓sl_drop, ↓x_app, ↓bc_range, ↓bc_int, ↓is_int_int, ↓is_int_bool, ↓is_str_str, ↓is_tup_tup, ↓is_bool_bool, ↓is_bool_int, ↓reduceIte, String.reduceEq, ↓need_of hlen, ↓need_of hc, ↓need_of hc1]))
    exact h
end
end
end Mine

/-! LQ2 -/
open PySem
set_option Elab.async false
set_option autoImplicit false
set_option linter.unusedVariables false
set_option linter.unusedSimpArgs false
namespace Mine
noncomputable section
section
variable {K : Nat → Kx} {n : Nat} {σ : Sto} {Q : PostE}
def cellAt (ns : List Int) (k : Int) : Int := ns.getD k.toNat 0
theorem c_cell_at (H : Core K) {l : Addr} {lo : Obj} {ns : List Int} {k : Int} (hl : σ l = some (.rl lo (ns.map D.int))) (hn : ns.length ≤ 63) (hk : 0 ≤ k) (h : Q (.int (cellAt ns k)) σ) : (K (n + 1)).call "_law_cell_at" [.ref l, .int k] σ Q := by
  refine H.cell_at.run _ _ _ _ rfl ?_
  (repeat (first | refine seqN ?_ | simp only [↓x_nil, ↓x_cons, ↓seq_ret, ↓seq_cont, ↓turn_next, ↓turn_cont, ↓turn_ret, ↓x_assign, ↓x_ite, ↓x_loop_loc, ↓x_loop_bcall, ↓x_loop_call, ↓x_loop_item, ↓x_loop_tup, ↓x_loop_zip, ↓x_while, ↓x_ret, ↓x_cont, ↓x_expr, ↓x_raise, ↓e_none, ↓e_bool, ↓e_int, ↓e_str, ↓e_neg, ↓e_loc, ↓e_glob, ↓e_bin, ↓e_not, ↓e_and, ↓e_or, ↓e_cmp, ↓e_call, ↓e_bcall, ↓e_meth, ↓e_item, ↓e_slice, ↓e_tup, ↓e_list, ↓e_comp, ↓es_nil, ↓es_cons, ↓b_one, ↓b_and, ↓b_or, ↓a_nil, ↓a_and, ↓a_or, ↓cs_nil, ↓cs_cons, ↓c_one, ↓c_two, ↓t_not, ↓t_and, ↓t_or, ↓t_cmp, ↓t_call, ↓t_bcall, ↓t_loc, ↓tr_bool, ↓as_name, ↓as_2, ↓as_3, ↓sets_nil, ↓sets_cons, ↓ret_ret, ↓ret_next, ↓br_true, ↓br_false, ↓br_not, ↓rd_set, ↓rdi_0, ↓rdi_1, ↓g_len, ↓g_isinstance, ↓g_range, ↓g_int, ↓g_tuple, ↓g_list, ↓g_dict, ↓g_min, ↓g_all, ↓mt_count, ↓it_tup, ↓it_put, ↓bin_add, ↓bin_sub, ↓bin_mul, ↓bin_mod, ↓bin_div, ↓bin_tup, ↓cm_eq, ↓cm_ne, ↓cm_lt, ↓cm_le, ↓cm_gt, ↓cm_ge, ↓cm_in, ↓cm_nin, ↓eq_str, ↓eq_int, ↓in_strs, ↓bc_len_1, ↓bc_len_2, ↓lit_10, ↓lit_20, ↓lit_11, ↓lit_22, ↓mk_put, ↓g_append, ↓g_extend, ↓g_count, ↓ma_append, ↓len_put, ↓sl_take, ↓sl_drop, ↓x_app, ↓bc_range, ↓bc_int, ↓is_int_int, ↓is_int_bool, ↓is_str_str, ↓is_tup_tup, ↓is_bool_bool, ↓is_bool_int, ↓reduceIte, String.reduceEq, ↓b_law_cell_at, ↓p_law_cell_at, ↓bc_len_rl hl (by rw [List.length_map]; omega), ↓it_rl hl]))
  rw [List.length_map]
  refine br_dec (fun q => ?_) (fun q => ?_)
  · have hi : k.toNat < ns.length := by omega
    have := at_map (f := D.int) (getD_at (d := 0) hi)
    rw [rdi_ofI hk (by omega) this]
    exact h
  · have : cellAt ns k = 0 := by
      unfold cellAt; rw [List.getD_eq_getElem?_getD, List.getElem?_eq_none (by omega)]; rfl
    rw [this] at h; exact h
theorem c_mixed (H : Core K) {l : Addr} {lo : Obj} {ns : List Int} {k : Int} (hl : σ l = some (.rl lo (ns.map D.int))) (hn : ns.length ≤ 63) (hk : 0 ≤ k) (hk' : k < 1000) (h : ∀ v : Int, 0 ≤ v → Q (.int v) σ) : (K (n + 2)).call "_law_mixed" [.ref l, .int k] σ Q := by
  refine H.mixed.run _ _ _ _ rfl ?_
  (repeat (first | refine seqN ?_ | simp only [↓x_nil, ↓x_cons, ↓seq_ret, ↓seq_cont, ↓turn_next, ↓turn_cont, ↓turn_ret, ↓x_assign, ↓x_ite, ↓x_loop_loc, ↓x_loop_bcall, ↓x_loop_call, ↓x_loop_item, ↓x_loop_tup, ↓x_loop_zip, ↓x_while, ↓x_ret, ↓x_cont, ↓x_expr, ↓x_raise, ↓e_none, ↓e_bool, ↓e_int, ↓e_str, ↓e_neg, ↓e_loc, ↓e_glob, ↓e_bin, ↓e_not, ↓e_and, ↓e_or, ↓e_cmp, ↓e_call, ↓e_bcall, ↓e_meth, ↓e_item, ↓e_slice, ↓e_tup, ↓e_list, ↓e_comp, ↓es_nil, ↓es_cons, ↓b_one, ↓b_and, ↓b_or, ↓a_nil, ↓a_and, ↓a_or, ↓cs_nil, ↓cs_cons, ↓c_one, ↓c_two, ↓t_not, ↓t_and, ↓t_or, ↓t_cmp, ↓t_call, ↓t_bcall, ↓t_loc, ↓tr_bool, ↓as_name, ↓as_2, ↓as_3, ↓sets_nil, ↓sets_cons, ↓ret_ret, ↓ret_next, ↓br_true, ↓br_false, ↓br_not, ↓rd_set, ↓rdi_0, ↓rdi_1, ↓g_len, ↓g_isinstance, ↓g_range, ↓g_int, ↓g_tuple, ↓g_list, ↓g_dict, ↓g_min, ↓g_all, ↓mt_count, ↓it_tup, ↓it_put, ↓bin_add, ↓bin_sub, ↓bin_mul, ↓bin_mod, ↓bin_div, ↓bin_tup, ↓cm_eq, ↓cm_ne, ↓cm_lt, ↓cm_le, ↓cm_gt, ↓cm_ge, ↓cm_in, ↓cm_nin, ↓eq_str, ↓eq_int, ↓in_strs, ↓bc_len_1, ↓bc_len_2, ↓lit_10, ↓lit_20, ↓lit_11, ↓lit_22, ↓mk_put, ↓g_append, ↓g_extend, ↓g_count, ↓ma_append, ↓len_put, ↓sl_take, ↓sl_drop, ↓x_app, ↓bc_range, ↓bc_int, ↓is_int_int, ↓is_int_bool, ↓is_str_str, ↓is_tup_tup, ↓is_bool_bool, ↓is_bool_int, ↓reduceIte, String.reduceEq, ↓b_law_mixed, ↓p_law_mixed, ↓H.cell_at.gate]))
  refine c_cell_at H hl hn (by decide) ?_
  refine c_cell_at H hl hn (by decide) ?_
  (repeat (first | refine seqN ?_ | simp only [↓x_nil, ↓x_cons, ↓seq_ret, ↓seq_cont, ↓turn_next, ↓turn_cont, ↓turn_ret, ↓x_assign, ↓x_ite, ↓x_loop_loc, ↓x_loop_bcall, ↓x_loop_call, ↓x_loop_item, ↓x_loop_tup, ↓x_loop_zip, ↓x_while, ↓x_ret, ↓x_cont, ↓x_expr, ↓x_raise, ↓e_none, ↓e_bool, ↓e_int, ↓e_str, ↓e_neg, ↓e_loc, ↓e_glob, ↓e_bin, ↓e_not, ↓e_and, ↓e_or, ↓e_cmp, ↓e_call, ↓e_bcall, ↓e_meth, ↓e_item, ↓e_slice, ↓e_tup, ↓e_list, ↓e_comp, ↓es_nil, ↓es_cons, ↓b_one, ↓b_and, ↓b_or, ↓a_nil, ↓a_and, ↓a_or, ↓cs_nil, ↓cs_cons, ↓c_one, ↓c_two, ↓t_not, ↓t_and, ↓t_or, ↓t_cmp, ↓t_call, ↓t_bcall, ↓t_loc, ↓tr_bool, ↓as_name, ↓as_2, ↓as_3, ↓sets_nil, ↓sets_cons, ↓ret_ret, ↓ret_next, ↓br_true, ↓br_false, ↓br_not, ↓rd_set, ↓rdi_0, ↓rdi_1, ↓g_len, ↓g_isinstance, ↓g_range, ↓g_int, ↓g_tuple, ↓g_list, ↓g_dict, ↓g_min, ↓g_all, ↓mt_count, ↓it_tup, ↓it_put, ↓bin_add, ↓bin_sub, ↓bin_mul, ↓bin_mod, ↓bin_div, ↓bin_tup, ↓cm_eq, ↓cm_ne, ↓cm_lt, ↓cm_le, ↓cm_gt, ↓cm_ge, ↓cm_in, ↓cm_nin, ↓eq_str, ↓eq_int, ↓in_strs, ↓bc_len_1, ↓bc_len_2, ↓lit_10, ↓lit_20, ↓lit_11, ↓lit_22, ↓mk_put, ↓g_append, ↓g_extend, ↓g_count, ↓ma_append, ↓len_put, ↓sl_take, ↓sl_drop, ↓x_app, ↓bc_range, ↓bc_int, ↓is_int_int, ↓is_int_bool, ↓is_str_str, ↓is_tup_tup, ↓is_bool_bool, ↓is_bool_int, ↓reduceIte, String.reduceEq, ↓H.cell_at.gate, ↓need_of (show (3 : Int).natAbs < 2 ^ 64 ∨ (cellAt ns 1).natAbs < 2 ^ 64 by left; decide)]))
  refine c_cell_at H hl hn hk ?_
  have h1 : ∀ x : Int, x.natAbs < 2 ^ 64 ∨ (k + 1).natAbs < 2 ^ 64 := fun x => .inr (by omega)
  have h2 : (104729 : Int).natAbs < 2 ^ 64 ∨ k.natAbs < 2 ^ 64 := .inl (by decide)
  have h3 : ∀ x : Int, x.natAbs < 2 ^ 64 ∨ (48271 : Int).natAbs < 2 ^ 64 := fun x => .inr (by decide)
  (repeat (first | refine seqN ?_ | simp only [↓x_nil, ↓x_cons, ↓seq_ret, ↓seq_cont, ↓turn_next, ↓turn_cont, ↓turn_ret, ↓x_assign, ↓x_ite, ↓x_loop_loc, ↓x_loop_bcall, ↓x_loop_call, ↓x_loop_item, ↓x_loop_tup, ↓x_loop_zip, ↓x_while, ↓x_ret, ↓x_cont, ↓x_expr, ↓x_raise, ↓e_none, ↓e_bool, ↓e_int, ↓e_str, ↓e_neg, ↓e_loc, ↓e_glob, ↓e_bin, ↓e_not, ↓e_and, ↓e_or, ↓e_cmp, ↓e_call, ↓e_bcall, ↓e_meth, ↓e_item, ↓e_slice, ↓e_tup, ↓e_list, ↓e_comp, ↓es_nil, ↓es_cons, ↓b_one, ↓b_and, ↓b_or, ↓a_nil, ↓a_and, ↓a_or, ↓cs_nil, ↓cs_cons, ↓c_one, ↓c_two, ↓t_not, ↓t_and, ↓t_or, ↓t_cmp, ↓t_call, ↓t_bcall, ↓t_loc, ↓tr_bool, ↓as_name, ↓as_2, ↓as_3, ↓sets_nil, ↓sets_cons, ↓ret_ret, ↓ret_next, ↓br_true, ↓br_false, ↓br_not, ↓rd_set, ↓rdi_0, ↓rdi_1, ↓g_len, ↓g_isinstance, ↓g_range, ↓g_int, ↓g_tuple, ↓g_list, ↓g_dict, ↓g_min, ↓g_all, ↓mt_count, ↓it_tup, ↓it_put, ↓bin_add, ↓bin_sub, ↓bin_mul, ↓bin_mod, ↓bin_div, ↓bin_tup, ↓cm_eq, ↓cm_ne, ↓cm_lt, ↓cm_le, ↓cm_gt, ↓cm_ge, ↓cm_in, ↓cm_nin, ↓eq_str, ↓eq_int, ↓in_strs, ↓bc_len_1, ↓bc_len_2, ↓lit_10, ↓lit_20, ↓lit_11, ↓lit_22, ↓mk_put, ↓g_append, ↓g_extend, ↓g_count, ↓ma_append, ↓len_put, ↓sl_take, ↓sl_drop, ↓x_app, ↓bc_range, ↓bc_int, ↓is_int_int, ↓is_int_bool, ↓is_str_str, ↓is_tup_tup, ↓is_bool_bool, ↓is_bool_int, ↓reduceIte, String.reduceEq, ↓need_of (h1 _), ↓need_of h2, ↓need_of (h3 _), ↓need_of (show (0 : Int) < 1000000007 by decide), ↓need_of (show (0 : Int) < 2147483647 by decide), ↓need_of (show (0 : Int) < 3 ∧ (3 : Int) < 1073741824 by decide)]))
  refine h _ ?_
  omega
theorem in_list_lane {c : Addr} {st : List Spot} {p : Nat} {Q : Bool → Prop} (hc : σ c = some (.list (st.map Spot.d))) : inW (.tup [.str "lane", .int p]) (.ref c) σ Q = Q (decide (Spot.lane p ∈ st)) := by
  have := in_list (Q := Q) hc (spot_pure (.lane p)) (spots_pure st)
  rw [any_spot] at this
  refine this.trans ?_
  congr 1; rw [Bool.eq_iff_iff]; simp
theorem ml_side {c : Addr} {st : List Spot} {p : Nat} {Q : PostE} (hc : σ c = some (.list (st.map Spot.d))) : methA (.ref c) "list" "count" [.tup [.str "side", .int p]] σ Q = Q (.int (st.count (.side p) : Nat)) σ :=
  (ml_count hc (spot_pure (.side p)) (spots_pure st)).trans (by rw [count_spot])
/-- a spot that may be drawn -/
def Spot.may (lane : List Nat) (st : List Spot) : Spot → Prop
  | .out => True
  | .lane p => p < lane.length ∧ .lane p ∉ st
  | .side p => p < lane.length ∧ st.count (.side p) < lane.getD p 0
def spotsOf (L : Nat) : List Spot := (List.range L).map .lane ++ (List.range L).map .side
theorem c_spot (H : Core K) {a c : Addr} {lane : List Nat} {st : List Spot} {cell : Int} (ha : σ a = some (.list (laneD lane))) (hc : σ c = some (.list (st.map Spot.d))) (h8 : lane.length ≤ 8) (h1 : 1 ≤ lane.length)
    (h : ∀ (s : Spot) σ', Ext σ σ' → s.may lane st → Q s.d σ') : (K (n + 1)).call "_law_spot" [.ref a, .ref c, .int cell] σ Q := by
  refine H.spot.run _ _ _ _ rfl ?_
  have hlen : (0 : Int) ≤ (laneD lane).length ∧ ((laneD lane).length : Int) < 2 ^ 62 := by rw [lane_len]; omega
  (repeat (first | refine seqN ?_ | simp only [↓x_nil, ↓x_cons, ↓seq_ret, ↓seq_cont, ↓turn_next, ↓turn_cont, ↓turn_ret, ↓x_assign, ↓x_ite, ↓x_loop_loc, ↓x_loop_bcall, ↓x_loop_call, ↓x_loop_item, ↓x_loop_tup, ↓x_loop_zip, ↓x_while, ↓x_ret, ↓x_cont, ↓x_expr, ↓x_raise, ↓e_none, ↓e_bool, ↓e_int, ↓e_str, ↓e_neg, ↓e_loc, ↓e_glob, ↓e_bin, ↓e_not, ↓e_and, ↓e_or, ↓e_cmp, ↓e_call, ↓e_bcall, ↓e_meth, ↓e_item, ↓e_slice, ↓e_tup, ↓e_list, ↓e_comp, ↓es_nil, ↓es_cons, ↓b_one, ↓b_and, ↓b_or, ↓a_nil, ↓a_and, ↓a_or, ↓cs_nil, ↓cs_cons, ↓c_one, ↓c_two, ↓t_not, ↓t_and, ↓t_or, ↓t_cmp, ↓t_call, ↓t_bcall, ↓t_loc, ↓tr_bool, ↓as_name, ↓as_2, ↓as_3, ↓sets_nil, ↓sets_cons, ↓ret_ret, ↓ret_next, ↓br_true, ↓br_false, ↓br_not, ↓rd_set, ↓rdi_0, ↓rdi_1, ↓g_len, ↓g_isinstance, ↓g_range, ↓g_int, ↓g_tuple, ↓g_list, ↓g_dict, ↓g_min, ↓g_all, ↓mt_count, ↓it_tup, ↓it_put, ↓bin_add, ↓bin_sub, ↓bin_mul, ↓bin_mod, ↓bin_div, ↓bin_tup, ↓cm_eq, ↓cm_ne, ↓cm_lt, ↓cm_le, ↓cm_gt, ↓cm_ge, ↓cm_in, ↓cm_nin, ↓eq_str, ↓eq_int, ↓in_strs, ↓bc_len_1, ↓bc_len_2, ↓lit_10, ↓lit_20, ↓lit_11, ↓lit_22, ↓mk_put, ↓g_append, ↓g_extend, ↓g_count, ↓ma_append, ↓len_put, ↓sl_take, ↓sl_drop, ↓x_app, ↓bc_range, ↓bc_int, ↓is_int_int, ↓is_int_bool, ↓is_str_str, ↓is_tup_tup, ↓is_bool_bool, ↓is_bool_int, ↓reduceIte, String.reduceEq, ↓b_law_spot, ↓p_law_spot, ↓bc_len ha (by rw [lane_len]; omega), ↓need_of hlen]))
  rw [lane_len, Int.toNat_natCast]
  refine crange_of (fun i acc σ' => σ' = σ ∧ acc = ((List.range i).map Spot.lane).map Spot.d) (le_line h8) ⟨rfl, rfl⟩ (fun i acc σ' hi e => ?_) (fun acc σ' e => ?_)
  · obtain ⟨rfl, rfl⟩ := e
    (repeat (first | refine seqN ?_ | simp only [↓x_nil, ↓x_cons, ↓seq_ret, ↓seq_cont, ↓turn_next, ↓turn_cont, ↓turn_ret, ↓x_assign, ↓x_ite, ↓x_loop_loc, ↓x_loop_bcall, ↓x_loop_call, ↓x_loop_item, ↓x_loop_tup, ↓x_loop_zip, ↓x_while, ↓x_ret, ↓x_cont, ↓x_expr, ↓x_raise, ↓e_none, ↓e_bool, ↓e_int, ↓e_str, ↓e_neg, ↓e_loc, ↓e_glob, ↓e_bin, ↓e_not, ↓e_and, ↓e_or, ↓e_cmp, ↓e_call, ↓e_bcall, ↓e_meth, ↓e_item, ↓e_slice, ↓e_tup, ↓e_list, ↓e_comp, ↓es_nil, ↓es_cons, ↓b_one, ↓b_and, ↓b_or, ↓a_nil, ↓a_and, ↓a_or, ↓cs_nil, ↓cs_cons, ↓c_one, ↓c_two, ↓t_not, ↓t_and, ↓t_or, ↓t_cmp, ↓t_call, ↓t_bcall, ↓t_loc, ↓tr_bool, ↓as_name, ↓as_2, ↓as_3, ↓sets_nil, ↓sets_cons, ↓ret_ret, ↓ret_next, ↓br_true, ↓br_false, ↓br_not, ↓rd_set, ↓rdi_0, ↓rdi_1, ↓g_len, ↓g_isinstance, ↓g_range, ↓g_int, ↓g_tuple, ↓g_list, ↓g_dict, ↓g_min, ↓g_all, ↓mt_count, ↓it_tup, ↓it_put, ↓bin_add, ↓bin_sub, ↓bin_mul, ↓bin_mod, ↓bin_div, ↓bin_tup, ↓cm_eq, ↓cm_ne, ↓cm_lt, ↓cm_le, ↓cm_gt, ↓cm_ge, ↓cm_in, ↓cm_nin, ↓eq_str, ↓eq_int, ↓in_strs, ↓bc_len_1, ↓bc_len_2, ↓lit_10, ↓lit_20, ↓lit_11, ↓lit_22, ↓mk_put, ↓g_append, ↓g_extend, ↓g_count, ↓ma_append, ↓len_put, ↓sl_take, ↓sl_drop, ↓x_app, ↓bc_range, ↓bc_int, ↓is_int_int, ↓is_int_bool, ↓is_str_str, ↓is_tup_tup, ↓is_bool_bool, ↓is_bool_int, ↓reduceIte, String.reduceEq]))
    refine ⟨trivial, ?_⟩
    rw [List.range_succ, List.map_append, List.map_append]; rfl
  obtain ⟨rfl, rfl⟩ := e
  intro r1 hr1
  have ha1 : (σ'.put r1 (.list (((List.range lane.length).map Spot.lane).map Spot.d))) a = some (.list (laneD lane)) := by rw [put_ne (ne_of ha hr1)]; exact ha
  (repeat (first | refine seqN ?_ | simp only [↓x_nil, ↓x_cons, ↓seq_ret, ↓seq_cont, ↓turn_next, ↓turn_cont, ↓turn_ret, ↓x_assign, ↓x_ite, ↓x_loop_loc, ↓x_loop_bcall, ↓x_loop_call, ↓x_loop_item, ↓x_loop_tup, ↓x_loop_zip, ↓x_while, ↓x_ret, ↓x_cont, ↓x_expr, ↓x_raise, ↓e_none, ↓e_bool, ↓e_int, ↓e_str, ↓e_neg, ↓e_loc, ↓e_glob, ↓e_bin, ↓e_not, ↓e_and, ↓e_or, ↓e_cmp, ↓e_call, ↓e_bcall, ↓e_meth, ↓e_item, ↓e_slice, ↓e_tup, ↓e_list, ↓e_comp, ↓es_nil, ↓es_cons, ↓b_one, ↓b_and, ↓b_or, ↓a_nil, ↓a_and, ↓a_or, ↓cs_nil, ↓cs_cons, ↓c_one, ↓c_two, ↓t_not, ↓t_and, ↓t_or, ↓t_cmp, ↓t_call, ↓t_bcall, ↓t_loc, ↓tr_bool, ↓as_name, ↓as_2, ↓as_3, ↓sets_nil, ↓sets_cons, ↓ret_ret, ↓ret_next, ↓br_true, ↓br_false, ↓br_not, ↓rd_set, ↓rdi_0, ↓rdi_1, ↓g_len, ↓g_isinstance, ↓g_range, ↓g_int, ↓g_tuple, ↓g_list, ↓g_dict, ↓g_min, ↓g_all, ↓mt_count, ↓it_tup, ↓it_put, ↓bin_add, ↓bin_sub, ↓bin_mul, ↓bin_mod, ↓bin_div, ↓bin_tup, ↓cm_eq, ↓cm_ne, ↓cm_lt, ↓cm_le, ↓cm_gt, ↓cm_ge, ↓cm_in, ↓cm_nin, ↓eq_str, ↓eq_int, ↓in_strs, ↓bc_len_1, ↓bc_len_2, ↓lit_10, ↓lit_20, ↓lit_11, ↓lit_22, ↓mk_put, ↓g_append, ↓g_extend, ↓g_count, ↓ma_append, ↓len_put, ↓sl_take, ↓sl_drop, ↓x_app, ↓bc_range, ↓bc_int, ↓is_int_int, ↓is_int_bool, ↓is_str_str, ↓is_tup_tup, ↓is_bool_bool, ↓is_bool_int, ↓reduceIte, String.reduceEq, ↓bc_len ha1 (by rw [lane_len]; omega), ↓need_of hlen]))
  rw [lane_len, Int.toNat_natCast]
  refine crange_of (fun i acc σ'' => σ'' = σ'.put r1 (.list (((List.range lane.length).map Spot.lane).map Spot.d)) ∧ acc = ((List.range i).map Spot.side).map Spot.d) (le_line h8) ⟨rfl, rfl⟩ (fun i acc σ' hi e => ?_) (fun acc σ'' e => ?_)
  · obtain ⟨rfl, rfl⟩ := e
    (repeat (first | refine seqN ?_ | simp only [↓x_nil, ↓x_cons, ↓seq_ret, ↓seq_cont, ↓turn_next, ↓turn_cont, ↓turn_ret, ↓x_assign, ↓x_ite, ↓x_loop_loc, ↓x_loop_bcall, ↓x_loop_call, ↓x_loop_item, ↓x_loop_tup, ↓x_loop_zip, ↓x_while, ↓x_ret, ↓x_cont, ↓x_expr, ↓x_raise, ↓e_none, ↓e_bool, ↓e_int, ↓e_str, ↓e_neg, ↓e_loc, ↓e_glob, ↓e_bin, ↓e_not, ↓e_and, ↓e_or, ↓e_cmp, ↓e_call, ↓e_bcall, ↓e_meth, ↓e_item, ↓e_slice, ↓e_tup, ↓e_list, ↓e_comp, ↓es_nil, ↓es_cons, ↓b_one, ↓b_and, ↓b_or, ↓a_nil, ↓a_and, ↓a_or, ↓cs_nil, ↓cs_cons, ↓c_one, ↓c_two, ↓t_not, ↓t_and, ↓t_or, ↓t_cmp, ↓t_call, ↓t_bcall, ↓t_loc, ↓tr_bool, ↓as_name, ↓as_2, ↓as_3, ↓sets_nil, ↓sets_cons, ↓ret_ret, ↓ret_next, ↓br_true, ↓br_false, ↓br_not, ↓rd_set, ↓rdi_0, ↓rdi_1, ↓g_len, ↓g_isinstance, ↓g_range, ↓g_int, ↓g_tuple, ↓g_list, ↓g_dict, ↓g_min, ↓g_all, ↓mt_count, ↓it_tup, ↓it_put, ↓bin_add, ↓bin_sub, ↓bin_mul, ↓bin_mod, ↓bin_div, ↓bin_tup, ↓cm_eq, ↓cm_ne, ↓cm_lt, ↓cm_le, ↓cm_gt, ↓cm_ge, ↓cm_in, ↓cm_nin, ↓eq_str, ↓eq_int, ↓in_strs, ↓bc_len_1, ↓bc_len_2, ↓lit_10, ↓lit_20, ↓lit_11, ↓lit_22, ↓mk_put, ↓g_append, ↓g_extend, ↓g_count, ↓ma_append, ↓len_put, ↓sl_take, ↓sl_drop, ↓x_app, ↓bc_range, ↓bc_int, ↓is_int_int, ↓is_int_bool, ↓is_str_str, ↓is_tup_tup, ↓is_bool_bool, ↓is_bool_int, ↓reduceIte, String.reduceEq]))
    refine ⟨trivial, ?_⟩
    rw [List.range_succ, List.map_append, List.map_append]; rfl
  obtain ⟨rfl, rfl⟩ := e
  intro r2 hr2
  generalize hσ1 : σ'.put r1 (.list (((List.range lane.length).map Spot.lane).map Spot.d)) = σ1 at hr2 ha1
  have e1 : σ1 r1 = some (.list (((List.range lane.length).map Spot.lane).map Spot.d)) := by rw [← hσ1, put_at]
  have hE1 : Ext σ' σ1 := by rw [← hσ1]; exact Ext.put (Ext.refl _) hr1
  have hE2 : ∀ c, Ext σ1 (σ1.put r2 c) := fun c => Ext.put (Ext.refl _) hr2
  (repeat (first | refine seqN ?_ | simp only [↓x_nil, ↓x_cons, ↓seq_ret, ↓seq_cont, ↓turn_next, ↓turn_cont, ↓turn_ret, ↓x_assign, ↓x_ite, ↓x_loop_loc, ↓x_loop_bcall, ↓x_loop_call, ↓x_loop_item, ↓x_loop_tup, ↓x_loop_zip, ↓x_while, ↓x_ret, ↓x_cont, ↓x_expr, ↓x_raise, ↓e_none, ↓e_bool, ↓e_int, ↓e_str, ↓e_neg, ↓e_loc, ↓e_glob, ↓e_bin, ↓e_not, ↓e_and, ↓e_or, ↓e_cmp, ↓e_call, ↓e_bcall, ↓e_meth, ↓e_item, ↓e_slice, ↓e_tup, ↓e_list, ↓e_comp, ↓es_nil, ↓es_cons, ↓b_one, ↓b_and, ↓b_or, ↓a_nil, ↓a_and, ↓a_or, ↓cs_nil, ↓cs_cons, ↓c_one, ↓c_two, ↓t_not, ↓t_and, ↓t_or, ↓t_cmp, ↓t_call, ↓t_bcall, ↓t_loc, ↓tr_bool, ↓as_name, ↓as_2, ↓as_3, ↓sets_nil, ↓sets_cons, ↓ret_ret, ↓ret_next, ↓br_true, ↓br_false, ↓br_not, ↓rd_set, ↓rdi_0, ↓rdi_1, ↓g_len, ↓g_isinstance, ↓g_range, ↓g_int, ↓g_tuple, ↓g_list, ↓g_dict, ↓g_min, ↓g_all, ↓mt_count, ↓it_tup, ↓it_put, ↓bin_add, ↓bin_sub, ↓bin_mul, ↓bin_mod, ↓bin_div, ↓bin_tup, ↓cm_eq, ↓cm_ne, ↓cm_lt, ↓cm_le, ↓cm_gt, ↓cm_ge, ↓cm_in, ↓cm_nin, ↓eq_str, ↓eq_int, ↓in_strs, ↓bc_len_1, ↓bc_len_2, ↓lit_10, ↓lit_20, ↓lit_11, ↓lit_22, ↓mk_put, ↓g_append, ↓g_extend, ↓g_count, ↓ma_append, ↓len_put, ↓sl_take, ↓sl_drop, ↓x_app, ↓bc_range, ↓bc_int, ↓is_int_int, ↓is_int_bool, ↓is_str_str, ↓is_tup_tup, ↓is_bool_bool, ↓is_bool_int, ↓reduceIte, String.reduceEq, ↓bin_list (σ := σ1.put r2 (.list (((List.range lane.length).map Spot.side).map Spot.d))) (hE2 _ _ _ e1) put_at (by simp only [List.length_map, List.length_range, line]; omega)]))
  intro r3 hr3
  have e0 : ((List.range lane.length).map Spot.lane).map Spot.d ++ ((List.range lane.length).map Spot.side).map Spot.d = (spotsOf lane.length).map Spot.d := by rw [← List.map_append]; rfl
  rw [e0]
  generalize hσ2 : σ1.put r2 (.list (((List.range lane.length).map Spot.side).map Spot.d)) = σ2 at hr3
  have hE : ∀ c, Ext σ' (σ2.put r3 c) := fun c => (hE1.trans (hσ2 ▸ hE2 _)).trans (Ext.put (Ext.refl _) hr3)
  have hsl : ((spotsOf lane.length).map Spot.d).length = 2 * lane.length := by
    rw [List.length_map, spotsOf, List.length_append, List.length_map, List.length_map, List.length_range]; omega
  (repeat (first | refine seqN ?_ | simp only [↓x_nil, ↓x_cons, ↓seq_ret, ↓seq_cont, ↓turn_next, ↓turn_cont, ↓turn_ret, ↓x_assign, ↓x_ite, ↓x_loop_loc, ↓x_loop_bcall, ↓x_loop_call, ↓x_loop_item, ↓x_loop_tup, ↓x_loop_zip, ↓x_while, ↓x_ret, ↓x_cont, ↓x_expr, ↓x_raise, ↓e_none, ↓e_bool, ↓e_int, ↓e_str, ↓e_neg, ↓e_loc, ↓e_glob, ↓e_bin, ↓e_not, ↓e_and, ↓e_or, ↓e_cmp, ↓e_call, ↓e_bcall, ↓e_meth, ↓e_item, ↓e_slice, ↓e_tup, ↓e_list, ↓e_comp, ↓es_nil, ↓es_cons, ↓b_one, ↓b_and, ↓b_or, ↓a_nil, ↓a_and, ↓a_or, ↓cs_nil, ↓cs_cons, ↓c_one, ↓c_two, ↓t_not, ↓t_and, ↓t_or, ↓t_cmp, ↓t_call, ↓t_bcall, ↓t_loc, ↓tr_bool, ↓as_name, ↓as_2, ↓as_3, ↓sets_nil, ↓sets_cons, ↓ret_ret, ↓ret_next, ↓br_true, ↓br_false, ↓br_not, ↓rd_set, ↓rdi_0, ↓rdi_1, ↓g_len, ↓g_isinstance, ↓g_range, ↓g_int, ↓g_tuple, ↓g_list, ↓g_dict, ↓g_min, ↓g_all, ↓mt_count, ↓it_tup, ↓it_put, ↓bin_add, ↓bin_sub, ↓bin_mul, ↓bin_mod, ↓bin_div, ↓bin_tup, ↓cm_eq, ↓cm_ne, ↓cm_lt, ↓cm_le, ↓cm_gt, ↓cm_ge, ↓cm_in, ↓cm_nin, ↓eq_str, ↓eq_int, ↓in_strs, ↓bc_len_1, ↓bc_len_2, ↓lit_10, ↓lit_20, ↓lit_11, ↓lit_22, ↓mk_put, ↓g_append, ↓g_extend, ↓g_count, ↓ma_append, ↓len_put, ↓sl_take, ↓sl_drop, ↓x_app, ↓bc_range, ↓bc_int, ↓is_int_int, ↓is_int_bool, ↓is_str_str, ↓is_tup_tup, ↓is_bool_bool, ↓is_bool_int, ↓reduceIte, String.reduceEq, ↓need_of (show (0 : Int) < 16 ∧ (16 : Int) < 1073741824 by decide), ↓need_of (show (0 : Int) < 9 by decide)]))
  refine br_dec (fun q => ?_) (fun q => ?_)
  · exact h .out _ (hE _) trivial
  have hsl0 : (0 : Int) ≤ ((spotsOf lane.length).map Spot.d).length ∧ (((spotsOf lane.length).map Spot.d).length : Int) < 2 ^ 62 := by rw [hsl]; omega
  (repeat (first | refine seqN ?_ | simp only [↓x_nil, ↓x_cons, ↓seq_ret, ↓seq_cont, ↓turn_next, ↓turn_cont, ↓turn_ret, ↓x_assign, ↓x_ite, ↓x_loop_loc, ↓x_loop_bcall, ↓x_loop_call, ↓x_loop_item, ↓x_loop_tup, ↓x_loop_zip, ↓x_while, ↓x_ret, ↓x_cont, ↓x_expr, ↓x_raise, ↓e_none, ↓e_bool, ↓e_int, ↓e_str, ↓e_neg, ↓e_loc, ↓e_glob, ↓e_bin, ↓e_not, ↓e_and, ↓e_or, ↓e_cmp, ↓e_call, ↓e_bcall, ↓e_meth, ↓e_item, ↓e_slice, ↓e_tup, ↓e_list, ↓e_comp, ↓es_nil, ↓es_cons, ↓b_one, ↓b_and, ↓b_or, ↓a_nil, ↓a_and, ↓a_or, ↓cs_nil, ↓cs_cons, ↓c_one, ↓c_two, ↓t_not, ↓t_and, ↓t_or, ↓t_cmp, ↓t_call, ↓t_bcall, ↓t_loc, ↓tr_bool, ↓as_name, ↓as_2, ↓as_3, ↓sets_nil, ↓sets_cons, ↓ret_ret, ↓ret_next, ↓br_true, ↓br_false, ↓br_not, ↓rd_set, ↓rdi_0, ↓rdi_1, ↓g_len, ↓g_isinstance, ↓g_range, ↓g_int, ↓g_tuple, ↓g_list, ↓g_dict, ↓g_min, ↓g_all, ↓mt_count, ↓it_tup, ↓it_put, ↓bin_add, ↓bin_sub, ↓bin_mul, ↓bin_mod, ↓bin_div, ↓bin_tup, ↓cm_eq, ↓cm_ne, ↓cm_lt, ↓cm_le, ↓cm_gt, ↓cm_ge, ↓cm_in, ↓cm_nin, ↓eq_str, ↓eq_int, ↓in_strs, ↓bc_len_1, ↓bc_len_2, ↓lit_10, ↓lit_20, ↓lit_11, ↓lit_22, ↓mk_put, ↓g_append, ↓g_extend, ↓g_count, ↓ma_append, ↓len_put, ↓sl_take, ↓sl_drop, ↓x_app, ↓bc_range, ↓bc_int, ↓is_int_int, ↓is_int_bool, ↓is_str_str, ↓is_tup_tup, ↓is_bool_bool, ↓is_bool_int, ↓reduceIte, String.reduceEq, ↓need_of (show ((spotsOf lane.length).map Spot.d).length < 2 ^ 62 by omega), ↓need_of hsl0]))
  rw [hsl, Int.toNat_natCast]
  generalize hσ3 : σ2.put r3 (.list ((spotsOf lane.length).map Spot.d)) = σ3
  have hE3 : Ext σ' σ3 := by rw [← hσ3]; exact hE _
  have e3 : σ3 r3 = some (.list ((spotsOf lane.length).map Spot.d)) := by rw [← hσ3, put_at]
  have ha3 := hE3 _ _ ha
  have hc3 := hE3 _ _ hc
  refine range_of (fun i ρ' σ'' => σ'' = σ3 ∧ ρ' "_law_spots" = some (.ref r3) ∧ ρ' "_law_lane" = some (.ref a) ∧ ρ' "_law_stand" = some (.ref c) ∧ ρ' "_law_cell" = some (.int cell)) (by rw [line]; omega) ⟨rfl, rfl, rfl, rfl, rfl⟩ (fun i ρ' σ'' hi e => ?_) (fun ρ' σ'' e => ?_)
  · obtain ⟨rfl, q1, q2, q3, q4⟩ := e
    have hpos : (0 : Int) < ((spotsOf lane.length).map Spot.d).length := by rw [hsl]; omega
    (repeat (first | refine seqN ?_ | simp only [↓x_nil, ↓x_cons, ↓seq_ret, ↓seq_cont, ↓turn_next, ↓turn_cont, ↓turn_ret, ↓x_assign, ↓x_ite, ↓x_loop_loc, ↓x_loop_bcall, ↓x_loop_call, ↓x_loop_item, ↓x_loop_tup, ↓x_loop_zip, ↓x_while, ↓x_ret, ↓x_cont, ↓x_expr, ↓x_raise, ↓e_none, ↓e_bool, ↓e_int, ↓e_str, ↓e_neg, ↓e_loc, ↓e_glob, ↓e_bin, ↓e_not, ↓e_and, ↓e_or, ↓e_cmp, ↓e_call, ↓e_bcall, ↓e_meth, ↓e_item, ↓e_slice, ↓e_tup, ↓e_list, ↓e_comp, ↓es_nil, ↓es_cons, ↓b_one, ↓b_and, ↓b_or, ↓a_nil, ↓a_and, ↓a_or, ↓cs_nil, ↓cs_cons, ↓c_one, ↓c_two, ↓t_not, ↓t_and, ↓t_or, ↓t_cmp, ↓t_call, ↓t_bcall, ↓t_loc, ↓tr_bool, ↓as_name, ↓as_2, ↓as_3, ↓sets_nil, ↓sets_cons, ↓ret_ret, ↓ret_next, ↓br_true, ↓br_false, ↓br_not, ↓rd_set, ↓rdi_0, ↓rdi_1, ↓g_len, ↓g_isinstance, ↓g_range, ↓g_int, ↓g_tuple, ↓g_list, ↓g_dict, ↓g_min, ↓g_all, ↓mt_count, ↓it_tup, ↓it_put, ↓bin_add, ↓bin_sub, ↓bin_mul, ↓bin_mod, ↓bin_div, ↓bin_tup, ↓cm_eq, ↓cm_ne, ↓cm_lt, ↓cm_le, ↓cm_gt, ↓cm_ge, ↓cm_in, ↓cm_nin, ↓eq_str, ↓eq_int, ↓in_strs, ↓bc_len_1, ↓bc_len_2, ↓lit_10, ↓lit_20, ↓lit_11, ↓lit_22, ↓mk_put, ↓g_append, ↓g_extend, ↓g_count, ↓ma_append, ↓len_put, ↓sl_take, ↓sl_drop, ↓x_app, ↓bc_range, ↓bc_int, ↓is_int_int, ↓is_int_bool, ↓is_str_str, ↓is_tup_tup, ↓is_bool_bool, ↓is_bool_int, ↓reduceIte, String.reduceEq, ↓rd_of q1, ↓rd_of q2, ↓rd_of q3, ↓rd_of q4, ↓bc_len e3 (by omega), ↓need_of hpos, ↓it_l e3]))
    have hm0 := Int.emod_nonneg (cell + i) (Int.ne_of_gt hpos)
    have hm1 := Int.emod_lt_of_pos (cell + i) hpos
    refine rdi_in hm0 (by omega) (by omega) fun d hd => ?_
    obtain ⟨s, hs, rfl⟩ := of_at_map hd
    have hmem := List.mem_of_getElem? hs
    rcases List.mem_append.mp hmem with hm | hm
    · obtain ⟨p, hp, rfl⟩ := List.mem_map.mp hm
      rw [List.mem_range] at hp
      (repeat (first | refine seqN ?_ | simp only [↓x_nil, ↓x_cons, ↓seq_ret, ↓seq_cont, ↓turn_next, ↓turn_cont, ↓turn_ret, ↓x_assign, ↓x_ite, ↓x_loop_loc, ↓x_loop_bcall, ↓x_loop_call, ↓x_loop_item, ↓x_loop_tup, ↓x_loop_zip, ↓x_while, ↓x_ret, ↓x_cont, ↓x_expr, ↓x_raise, ↓e_none, ↓e_bool, ↓e_int, ↓e_str, ↓e_neg, ↓e_loc, ↓e_glob, ↓e_bin, ↓e_not, ↓e_and, ↓e_or, ↓e_cmp, ↓e_call, ↓e_bcall, ↓e_meth, ↓e_item, ↓e_slice, ↓e_tup, ↓e_list, ↓e_comp, ↓es_nil, ↓es_cons, ↓b_one, ↓b_and, ↓b_or, ↓a_nil, ↓a_and, ↓a_or, ↓cs_nil, ↓cs_cons, ↓c_one, ↓c_two, ↓t_not, ↓t_and, ↓t_or, ↓t_cmp, ↓t_call, ↓t_bcall, ↓t_loc, ↓tr_bool, ↓as_name, ↓as_2, ↓as_3, ↓sets_nil, ↓sets_cons, ↓ret_ret, ↓ret_next, ↓br_true, ↓br_false, ↓br_not, ↓rd_set, ↓rdi_0, ↓rdi_1, ↓g_len, ↓g_isinstance, ↓g_range, ↓g_int, ↓g_tuple, ↓g_list, ↓g_dict, ↓g_min, ↓g_all, ↓mt_count, ↓it_tup, ↓it_put, ↓bin_add, ↓bin_sub, ↓bin_mul, ↓bin_mod, ↓bin_div, ↓bin_tup, ↓cm_eq, ↓cm_ne, ↓cm_lt, ↓cm_le, ↓cm_gt, ↓cm_ge, ↓cm_in, ↓cm_nin, ↓eq_str, ↓eq_int, ↓in_strs, ↓bc_len_1, ↓bc_len_2, ↓lit_10, ↓lit_20, ↓lit_11, ↓lit_22, ↓mk_put, ↓g_append, ↓g_extend, ↓g_count, ↓ma_append, ↓len_put, ↓sl_take, ↓sl_drop, ↓x_app, ↓bc_range, ↓bc_int, ↓is_int_int, ↓is_int_bool, ↓is_str_str, ↓is_tup_tup, ↓is_bool_bool, ↓is_bool_int, ↓reduceIte, String.reduceEq, ↓Spot.d, ↓rd_of q3, ↓in_list_lane hc3]))
      refine br_dec (fun q => ?_) (fun q => ?_)
      · (repeat (first | refine seqN ?_ | simp only [↓x_nil, ↓x_cons, ↓seq_ret, ↓seq_cont, ↓turn_next, ↓turn_cont, ↓turn_ret, ↓x_assign, ↓x_ite, ↓x_loop_loc, ↓x_loop_bcall, ↓x_loop_call, ↓x_loop_item, ↓x_loop_tup, ↓x_loop_zip, ↓x_while, ↓x_ret, ↓x_cont, ↓x_expr, ↓x_raise, ↓e_none, ↓e_bool, ↓e_int, ↓e_str, ↓e_neg, ↓e_loc, ↓e_glob, ↓e_bin, ↓e_not, ↓e_and, ↓e_or, ↓e_cmp, ↓e_call, ↓e_bcall, ↓e_meth, ↓e_item, ↓e_slice, ↓e_tup, ↓e_list, ↓e_comp, ↓es_nil, ↓es_cons, ↓b_one, ↓b_and, ↓b_or, ↓a_nil, ↓a_and, ↓a_or, ↓cs_nil, ↓cs_cons, ↓c_one, ↓c_two, ↓t_not, ↓t_and, ↓t_or, ↓t_cmp, ↓t_call, ↓t_bcall, ↓t_loc, ↓tr_bool, ↓as_name, ↓as_2, ↓as_3, ↓sets_nil, ↓sets_cons, ↓ret_ret, ↓ret_next, ↓br_true, ↓br_false, ↓br_not, ↓rd_set, ↓rdi_0, ↓rdi_1, ↓g_len, ↓g_isinstance, ↓g_range, ↓g_int, ↓g_tuple, ↓g_list, ↓g_dict, ↓g_min, ↓g_all, ↓mt_count, ↓it_tup, ↓it_put, ↓bin_add, ↓bin_sub, ↓bin_mul, ↓bin_mod, ↓bin_div, ↓bin_tup, ↓cm_eq, ↓cm_ne, ↓cm_lt, ↓cm_le, ↓cm_gt, ↓cm_ge, ↓cm_in, ↓cm_nin, ↓eq_str, ↓eq_int, ↓in_strs, ↓bc_len_1, ↓bc_len_2, ↓lit_10, ↓lit_20, ↓lit_11, ↓lit_22, ↓mk_put, ↓g_append, ↓g_extend, ↓g_count, ↓ma_append, ↓len_put, ↓sl_take, ↓sl_drop, ↓x_app, ↓bc_range, ↓bc_int, ↓is_int_int, ↓is_int_bool, ↓is_str_str, ↓is_tup_tup, ↓is_bool_bool, ↓is_bool_int, ↓reduceIte, String.reduceEq]))
        exact ⟨trivial, q1, q2, q3, q4⟩
      · (repeat (first | refine seqN ?_ | simp only [↓x_nil, ↓x_cons, ↓seq_ret, ↓seq_cont, ↓turn_next, ↓turn_cont, ↓turn_ret, ↓x_assign, ↓x_ite, ↓x_loop_loc, ↓x_loop_bcall, ↓x_loop_call, ↓x_loop_item, ↓x_loop_tup, ↓x_loop_zip, ↓x_while, ↓x_ret, ↓x_cont, ↓x_expr, ↓x_raise, ↓e_none, ↓e_bool, ↓e_int, ↓e_str, ↓e_neg, ↓e_loc, ↓e_glob, ↓e_bin, ↓e_not, ↓e_and, ↓e_or, ↓e_cmp, ↓e_call, ↓e_bcall, ↓e_meth, ↓e_item, ↓e_slice, ↓e_tup, ↓e_list, ↓e_comp, ↓es_nil, ↓es_cons, ↓b_one, ↓b_and, ↓b_or, ↓a_nil, ↓a_and, ↓a_or, ↓cs_nil, ↓cs_cons, ↓c_one, ↓c_two, ↓t_not, ↓t_and, ↓t_or, ↓t_cmp, ↓t_call, ↓t_bcall, ↓t_loc, ↓tr_bool, ↓as_name, ↓as_2, ↓as_3, ↓sets_nil, ↓sets_cons, ↓ret_ret, ↓ret_next, ↓br_true, ↓br_false, ↓br_not, ↓rd_set, ↓rdi_0, ↓rdi_1, ↓g_len, ↓g_isinstance, ↓g_range, ↓g_int, ↓g_tuple, ↓g_list, ↓g_dict, ↓g_min, ↓g_all, ↓mt_count, ↓it_tup, ↓it_put, ↓bin_add, ↓bin_sub, ↓bin_mul, ↓bin_mod, ↓bin_div, ↓bin_tup, ↓cm_eq, ↓cm_ne, ↓cm_lt, ↓cm_le, ↓cm_gt, ↓cm_ge, ↓cm_in, ↓cm_nin, ↓eq_str, ↓eq_int, ↓in_strs, ↓bc_len_1, ↓bc_len_2, ↓lit_10, ↓lit_20, ↓lit_11, ↓lit_22, ↓mk_put, ↓g_append, ↓g_extend, ↓g_count, ↓ma_append, ↓len_put, ↓sl_take, ↓sl_drop, ↓x_app, ↓bc_range, ↓bc_int, ↓is_int_int, ↓is_int_bool, ↓is_str_str, ↓is_tup_tup, ↓is_bool_bool, ↓is_bool_int, ↓reduceIte, String.reduceEq]))
        exact h (.lane p) _ hE3 ⟨hp, q⟩
    · obtain ⟨p, hp, rfl⟩ := List.mem_map.mp hm
      rw [List.mem_range] at hp
      (repeat (first | refine seqN ?_ | simp only [↓x_nil, ↓x_cons, ↓seq_ret, ↓seq_cont, ↓turn_next, ↓turn_cont, ↓turn_ret, ↓x_assign, ↓x_ite, ↓x_loop_loc, ↓x_loop_bcall, ↓x_loop_call, ↓x_loop_item, ↓x_loop_tup, ↓x_loop_zip, ↓x_while, ↓x_ret, ↓x_cont, ↓x_expr, ↓x_raise, ↓e_none, ↓e_bool, ↓e_int, ↓e_str, ↓e_neg, ↓e_loc, ↓e_glob, ↓e_bin, ↓e_not, ↓e_and, ↓e_or, ↓e_cmp, ↓e_call, ↓e_bcall, ↓e_meth, ↓e_item, ↓e_slice, ↓e_tup, ↓e_list, ↓e_comp, ↓es_nil, ↓es_cons, ↓b_one, ↓b_and, ↓b_or, ↓a_nil, ↓a_and, ↓a_or, ↓cs_nil, ↓cs_cons, ↓c_one, ↓c_two, ↓t_not, ↓t_and, ↓t_or, ↓t_cmp, ↓t_call, ↓t_bcall, ↓t_loc, ↓tr_bool, ↓as_name, ↓as_2, ↓as_3, ↓sets_nil, ↓sets_cons, ↓ret_ret, ↓ret_next, ↓br_true, ↓br_false, ↓br_not, ↓rd_set, ↓rdi_0, ↓rdi_1, ↓g_len, ↓g_isinstance, ↓g_range, ↓g_int, ↓g_tuple, ↓g_list, ↓g_dict, ↓g_min, ↓g_all, ↓mt_count, ↓it_tup, ↓it_put, ↓bin_add, ↓bin_sub, ↓bin_mul, ↓bin_mod, ↓bin_div, ↓bin_tup, ↓cm_eq, ↓cm_ne, ↓cm_lt, ↓cm_le, ↓cm_gt, ↓cm_ge, ↓cm_in, ↓cm_nin, ↓eq_str, ↓eq_int, ↓in_strs, ↓bc_len_1, ↓bc_len_2, ↓lit_10, ↓lit_20, ↓lit_11, ↓lit_22, ↓mk_put, ↓g_append, ↓g_extend, ↓g_count, ↓ma_append, ↓len_put, ↓sl_take, ↓sl_drop, ↓x_app, ↓bc_range, ↓bc_int, ↓is_int_int, ↓is_int_bool, ↓is_str_str, ↓is_tup_tup, ↓is_bool_bool, ↓is_bool_int, ↓reduceIte, String.reduceEq, ↓Spot.d, ↓rd_of q3, ↓rd_of q2, ↓mk_list hc3, ↓ml_side hc3, ↓it_l ha3, ↓rdi_of (lane_of hp) (lt63 hp h8)]))
      refine br_dec (fun q => ?_) (fun q => ?_)
      · (repeat (first | refine seqN ?_ | simp only [↓x_nil, ↓x_cons, ↓seq_ret, ↓seq_cont, ↓turn_next, ↓turn_cont, ↓turn_ret, ↓x_assign, ↓x_ite, ↓x_loop_loc, ↓x_loop_bcall, ↓x_loop_call, ↓x_loop_item, ↓x_loop_tup, ↓x_loop_zip, ↓x_while, ↓x_ret, ↓x_cont, ↓x_expr, ↓x_raise, ↓e_none, ↓e_bool, ↓e_int, ↓e_str, ↓e_neg, ↓e_loc, ↓e_glob, ↓e_bin, ↓e_not, ↓e_and, ↓e_or, ↓e_cmp, ↓e_call, ↓e_bcall, ↓e_meth, ↓e_item, ↓e_slice, ↓e_tup, ↓e_list, ↓e_comp, ↓es_nil, ↓es_cons, ↓b_one, ↓b_and, ↓b_or, ↓a_nil, ↓a_and, ↓a_or, ↓cs_nil, ↓cs_cons, ↓c_one, ↓c_two, ↓t_not, ↓t_and, ↓t_or, ↓t_cmp, ↓t_call, ↓t_bcall, ↓t_loc, ↓tr_bool, ↓as_name, ↓as_2, ↓as_3, ↓sets_nil, ↓sets_cons, ↓ret_ret, ↓ret_next, ↓br_true, ↓br_false, ↓br_not, ↓rd_set, ↓rdi_0, ↓rdi_1, ↓g_len, ↓g_isinstance, ↓g_range, ↓g_int, ↓g_tuple, ↓g_list, ↓g_dict, ↓g_min, ↓g_all, ↓mt_count, ↓it_tup, ↓it_put, ↓bin_add, ↓bin_sub, ↓bin_mul, ↓bin_mod, ↓bin_div, ↓bin_tup, ↓cm_eq, ↓cm_ne, ↓cm_lt, ↓cm_le, ↓cm_gt, ↓cm_ge, ↓cm_in, ↓cm_nin, ↓eq_str, ↓eq_int, ↓in_strs, ↓bc_len_1, ↓bc_len_2, ↓lit_10, ↓lit_20, ↓lit_11, ↓lit_22, ↓mk_put, ↓g_append, ↓g_extend, ↓g_count, ↓ma_append, ↓len_put, ↓sl_take, ↓sl_drop, ↓x_app, ↓bc_range, ↓bc_int, ↓is_int_int, ↓is_int_bool, ↓is_str_str, ↓is_tup_tup, ↓is_bool_bool, ↓is_bool_int, ↓reduceIte, String.reduceEq]))
        exact h (.side p) _ hE3 ⟨hp, by omega⟩
      · (repeat (first | refine seqN ?_ | simp only [↓x_nil, ↓x_cons, ↓seq_ret, ↓seq_cont, ↓turn_next, ↓turn_cont, ↓turn_ret, ↓x_assign, ↓x_ite, ↓x_loop_loc, ↓x_loop_bcall, ↓x_loop_call, ↓x_loop_item, ↓x_loop_tup, ↓x_loop_zip, ↓x_while, ↓x_ret, ↓x_cont, ↓x_expr, ↓x_raise, ↓e_none, ↓e_bool, ↓e_int, ↓e_str, ↓e_neg, ↓e_loc, ↓e_glob, ↓e_bin, ↓e_not, ↓e_and, ↓e_or, ↓e_cmp, ↓e_call, ↓e_bcall, ↓e_meth, ↓e_item, ↓e_slice, ↓e_tup, ↓e_list, ↓e_comp, ↓es_nil, ↓es_cons, ↓b_one, ↓b_and, ↓b_or, ↓a_nil, ↓a_and, ↓a_or, ↓cs_nil, ↓cs_cons, ↓c_one, ↓c_two, ↓t_not, ↓t_and, ↓t_or, ↓t_cmp, ↓t_call, ↓t_bcall, ↓t_loc, ↓tr_bool, ↓as_name, ↓as_2, ↓as_3, ↓sets_nil, ↓sets_cons, ↓ret_ret, ↓ret_next, ↓br_true, ↓br_false, ↓br_not, ↓rd_set, ↓rdi_0, ↓rdi_1, ↓g_len, ↓g_isinstance, ↓g_range, ↓g_int, ↓g_tuple, ↓g_list, ↓g_dict, ↓g_min, ↓g_all, ↓mt_count, ↓it_tup, ↓it_put, ↓bin_add, ↓bin_sub, ↓bin_mul, ↓bin_mod, ↓bin_div, ↓bin_tup, ↓cm_eq, ↓cm_ne, ↓cm_lt, ↓cm_le, ↓cm_gt, ↓cm_ge, ↓cm_in, ↓cm_nin, ↓eq_str, ↓eq_int, ↓in_strs, ↓bc_len_1, ↓bc_len_2, ↓lit_10, ↓lit_20, ↓lit_11, ↓lit_22, ↓mk_put, ↓g_append, ↓g_extend, ↓g_count, ↓ma_append, ↓len_put, ↓sl_take, ↓sl_drop, ↓x_app, ↓bc_range, ↓bc_int, ↓is_int_int, ↓is_int_bool, ↓is_str_str, ↓is_tup_tup, ↓is_bool_bool, ↓is_bool_int, ↓reduceIte, String.reduceEq]))
        exact ⟨trivial, q1, q2, q3, q4⟩
  · obtain ⟨rfl, q1, q2, q3, q4⟩ := e
    (repeat (first | refine seqN ?_ | simp only [↓x_nil, ↓x_cons, ↓seq_ret, ↓seq_cont, ↓turn_next, ↓turn_cont, ↓turn_ret, ↓x_assign, ↓x_ite, ↓x_loop_loc, ↓x_loop_bcall, ↓x_loop_call, ↓x_loop_item, ↓x_loop_tup, ↓x_loop_zip, ↓x_while, ↓x_ret, ↓x_cont, ↓x_expr, ↓x_raise, ↓e_none, ↓e_bool, ↓e_int, ↓e_str, ↓e_neg, ↓e_loc, ↓e_glob, ↓e_bin, ↓e_not, ↓e_and, ↓e_or, ↓e_cmp, ↓e_call, ↓e_bcall, ↓e_meth, ↓e_item, ↓e_slice, ↓e_tup, ↓e_list, ↓e_comp, ↓es_nil, ↓es_cons, ↓b_one, ↓b_and, ↓b_or, ↓a_nil, ↓a_and, ↓a_or, ↓cs_nil, ↓cs_cons, ↓c_one, ↓c_two, ↓t_not, ↓t_and, ↓t_or, ↓t_cmp, ↓t_call, ↓t_bcall, ↓t_loc, ↓tr_bool, ↓as_name, ↓as_2, ↓as_3, ↓sets_nil, ↓sets_cons, ↓ret_ret, ↓ret_next, ↓br_true, ↓br_false, ↓br_not, ↓rd_set, ↓rdi_0, ↓rdi_1, ↓g_len, ↓g_isinstance, ↓g_range, ↓g_int, ↓g_tuple, ↓g_list, ↓g_dict, ↓g_min, ↓g_all, ↓mt_count, ↓it_tup, ↓it_put, ↓bin_add, ↓bin_sub, ↓bin_mul, ↓bin_mod, ↓bin_div, ↓bin_tup, ↓cm_eq, ↓cm_ne, ↓cm_lt, ↓cm_le, ↓cm_gt, ↓cm_ge, ↓cm_in, ↓cm_nin, ↓eq_str, ↓eq_int, ↓in_strs, ↓bc_len_1, ↓bc_len_2, ↓lit_10, ↓lit_20, ↓lit_11, ↓lit_22, ↓mk_put, ↓g_append, ↓g_extend, ↓g_count, ↓ma_append, ↓len_put, ↓sl_take, ↓sl_drop, ↓x_app, ↓bc_range, ↓bc_int, ↓is_int_int, ↓is_int_bool, ↓is_str_str, ↓is_tup_tup, ↓is_bool_bool, ↓is_bool_int, ↓reduceIte, String.reduceEq]))
    exact h .out _ hE3 trivial
/-- what a stand keeps while it is drawn -/
structure Fit (lane : List Nat) (st : List Spot) : Prop where
  fits : ∀ s ∈ st, s.fits lane.length
  one : ∀ p, p < lane.length → st.count (.lane p) ≤ 1
  most : ∀ p, p < lane.length → st.count (.side p) ≤ lane.getD p 0
theorem Fit.add {lane : List Nat} {st : List Spot} {s : Spot} (F : Fit lane st) (h : s.may lane st) : Fit lane (st ++ [s]) := by
  refine ⟨fun t ht => ?_, fun p hp => ?_, fun p hp => ?_⟩
  · rcases List.mem_append.mp ht with q | q
    · exact F.fits t q
    · simp at q; subst q; cases t <;> simp_all [Spot.may, Spot.fits]
  · rw [List.count_append]
    have := F.one p hp
    cases s with
    | out => simp; exact this
    | side q => simp; exact this
    | lane q =>
      simp only [Spot.may] at h
      by_cases e : q = p
      · subst e
        have : st.count (.lane q) = 0 := List.count_eq_zero.mpr h.2
        simp; omega
      · have : [Spot.lane q].count (.lane p) = 0 := by simp [e]
        omega
  · rw [List.count_append]
    have := F.most p hp
    cases s with
    | out => simp; exact this
    | lane q => simp; exact this
    | side q =>
      simp only [Spot.may] at h
      by_cases e : q = p
      · subst e; simp only [List.count_singleton_self]; omega
      · have : [Spot.side q].count (.side p) = 0 := by simp [e]
        omega
theorem rdi_b2i {x y : Addr} {b : Bool} {F : D → Prop} : rdi [.ref x, .ref y] (b2i b) F = F (.ref (if b then y else x)) := by
  cases b
  · exact rdi_0
  · exact rdi_1
def built_head : List Sx := b_law_built.take 6
def built_rest : List Sx := b_law_built.drop 6
theorem rooms_of {a : Addr} {ds : List D} (h : ∃ rs : List Nat, ds = laneD rs ∧ rs.length = 8 ∧ ∀ r ∈ rs, r ≤ 4) (ha : σ a = some (.list ds)) : ∃ rs : List Nat, σ a = some (.list (laneD rs)) ∧ rs.length = 8 ∧ ∀ r ∈ rs, r ≤ 4 := by
  obtain ⟨rs, rfl, h⟩ := h
  exact ⟨rs, ha, h⟩
theorem built_rest_ok (H : Core K) {l : Addr} {lo : Obj} {ns : List Int} {ρ : Loc} {v : Int} {L T : Nat} (hl : σ l = some (.rl lo (ns.map D.int))) (hn : ns.length ≤ 63)
    (q1 : ρ "_law_script" = some (.ref l)) (q2 : ρ "_law_second" = some (.int v)) (q3 : ρ "_law_many" = some (.int L)) (q4 : ρ "_law_trains" = some (.int T)) (hL : 1 ≤ L) (hT : 1 ≤ T) (hS : Small L T)
    (h : ∀ a b lane ways st σ', Ext σ σ' → σ' a = some (.list (laneD lane)) → σ' b = some (.list (waysD ways)) → a ≠ b → Good lane ways st → Small lane.length ways.length → Q (.tup [.ref a, .ref b, standD st]) σ') :
    exsW (K (n + 2)) (fun _ _ => False) built_rest ρ σ (retW Q) := by
  have hL8 : L ≤ 8 := by unfold Small at hS; omega
  have hT6 : T ≤ 6 := by unfold Small at hS; omega
  (repeat (first | refine seqN ?_ | simp only [↓x_nil, ↓x_cons, ↓seq_ret, ↓seq_cont, ↓turn_next, ↓turn_cont, ↓turn_ret, ↓x_assign, ↓x_ite, ↓x_loop_loc, ↓x_loop_bcall, ↓x_loop_call, ↓x_loop_item, ↓x_loop_tup, ↓x_loop_zip, ↓x_while, ↓x_ret, ↓x_cont, ↓x_expr, ↓x_raise, ↓e_none, ↓e_bool, ↓e_int, ↓e_str, ↓e_neg, ↓e_loc, ↓e_glob, ↓e_bin, ↓e_not, ↓e_and, ↓e_or, ↓e_cmp, ↓e_call, ↓e_bcall, ↓e_meth, ↓e_item, ↓e_slice, ↓e_tup, ↓e_list, ↓e_comp, ↓es_nil, ↓es_cons, ↓b_one, ↓b_and, ↓b_or, ↓a_nil, ↓a_and, ↓a_or, ↓cs_nil, ↓cs_cons, ↓c_one, ↓c_two, ↓t_not, ↓t_and, ↓t_or, ↓t_cmp, ↓t_call, ↓t_bcall, ↓t_loc, ↓tr_bool, ↓as_name, ↓as_2, ↓as_3, ↓sets_nil, ↓sets_cons, ↓ret_ret, ↓ret_next, ↓br_true, ↓br_false, ↓br_not, ↓rd_set, ↓rdi_0, ↓rdi_1, ↓g_len, ↓g_isinstance, ↓g_range, ↓g_int, ↓g_tuple, ↓g_list, ↓g_dict, ↓g_min, ↓g_all, ↓mt_count, ↓it_tup, ↓it_put, ↓bin_add, ↓bin_sub, ↓bin_mul, ↓bin_mod, ↓bin_div, ↓bin_tup, ↓cm_eq, ↓cm_ne, ↓cm_lt, ↓cm_le, ↓cm_gt, ↓cm_ge, ↓cm_in, ↓cm_nin, ↓eq_str, ↓eq_int, ↓in_strs, ↓bc_len_1, ↓bc_len_2, ↓lit_10, ↓lit_20, ↓lit_11, ↓lit_22, ↓mk_put, ↓g_append, ↓g_extend, ↓g_count, ↓ma_append, ↓len_put, ↓sl_take, ↓sl_drop, ↓x_app, ↓bc_range, ↓bc_int, ↓is_int_int, ↓is_int_bool, ↓is_str_str, ↓is_tup_tup, ↓is_bool_bool, ↓is_bool_int, ↓reduceIte, String.reduceEq, ↓built_rest, ↓b_law_built, ↓List.drop]))
  intro r1 hr1 r2 hr2
  (repeat (first | refine seqN ?_ | simp only [↓x_nil, ↓x_cons, ↓seq_ret, ↓seq_cont, ↓turn_next, ↓turn_cont, ↓turn_ret, ↓x_assign, ↓x_ite, ↓x_loop_loc, ↓x_loop_bcall, ↓x_loop_call, ↓x_loop_item, ↓x_loop_tup, ↓x_loop_zip, ↓x_while, ↓x_ret, ↓x_cont, ↓x_expr, ↓x_raise, ↓e_none, ↓e_bool, ↓e_int, ↓e_str, ↓e_neg, ↓e_loc, ↓e_glob, ↓e_bin, ↓e_not, ↓e_and, ↓e_or, ↓e_cmp, ↓e_call, ↓e_bcall, ↓e_meth, ↓e_item, ↓e_slice, ↓e_tup, ↓e_list, ↓e_comp, ↓es_nil, ↓es_cons, ↓b_one, ↓b_and, ↓b_or, ↓a_nil, ↓a_and, ↓a_or, ↓cs_nil, ↓cs_cons, ↓c_one, ↓c_two, ↓t_not, ↓t_and, ↓t_or, ↓t_cmp, ↓t_call, ↓t_bcall, ↓t_loc, ↓tr_bool, ↓as_name, ↓as_2, ↓as_3, ↓sets_nil, ↓sets_cons, ↓ret_ret, ↓ret_next, ↓br_true, ↓br_false, ↓br_not, ↓rd_set, ↓rdi_0, ↓rdi_1, ↓g_len, ↓g_isinstance, ↓g_range, ↓g_int, ↓g_tuple, ↓g_list, ↓g_dict, ↓g_min, ↓g_all, ↓mt_count, ↓it_tup, ↓it_put, ↓bin_add, ↓bin_sub, ↓bin_mul, ↓bin_mod, ↓bin_div, ↓bin_tup, ↓cm_eq, ↓cm_ne, ↓cm_lt, ↓cm_le, ↓cm_gt, ↓cm_ge, ↓cm_in, ↓cm_nin, ↓eq_str, ↓eq_int, ↓in_strs, ↓bc_len_1, ↓bc_len_2, ↓lit_10, ↓lit_20, ↓lit_11, ↓lit_22, ↓mk_put, ↓g_append, ↓g_extend, ↓g_count, ↓ma_append, ↓len_put, ↓sl_take, ↓sl_drop, ↓x_app, ↓bc_range, ↓bc_int, ↓is_int_int, ↓is_int_bool, ↓is_str_str, ↓is_tup_tup, ↓is_bool_bool, ↓is_bool_int, ↓reduceIte, String.reduceEq, ↓rd_of q2, ↓need_of (show (0 : Int) < 3 ∧ (3 : Int) < 1073741824 by decide), ↓need_of (show (0 : Int) < 3 by decide)]))
  intro r3 hr3
  (repeat (first | refine seqN ?_ | simp only [↓x_nil, ↓x_cons, ↓seq_ret, ↓seq_cont, ↓turn_next, ↓turn_cont, ↓turn_ret, ↓x_assign, ↓x_ite, ↓x_loop_loc, ↓x_loop_bcall, ↓x_loop_call, ↓x_loop_item, ↓x_loop_tup, ↓x_loop_zip, ↓x_while, ↓x_ret, ↓x_cont, ↓x_expr, ↓x_raise, ↓e_none, ↓e_bool, ↓e_int, ↓e_str, ↓e_neg, ↓e_loc, ↓e_glob, ↓e_bin, ↓e_not, ↓e_and, ↓e_or, ↓e_cmp, ↓e_call, ↓e_bcall, ↓e_meth, ↓e_item, ↓e_slice, ↓e_tup, ↓e_list, ↓e_comp, ↓es_nil, ↓es_cons, ↓b_one, ↓b_and, ↓b_or, ↓a_nil, ↓a_and, ↓a_or, ↓cs_nil, ↓cs_cons, ↓c_one, ↓c_two, ↓t_not, ↓t_and, ↓t_or, ↓t_cmp, ↓t_call, ↓t_bcall, ↓t_loc, ↓tr_bool, ↓as_name, ↓as_2, ↓as_3, ↓sets_nil, ↓sets_cons, ↓ret_ret, ↓ret_next, ↓br_true, ↓br_false, ↓br_not, ↓rd_set, ↓rdi_0, ↓rdi_1, ↓g_len, ↓g_isinstance, ↓g_range, ↓g_int, ↓g_tuple, ↓g_list, ↓g_dict, ↓g_min, ↓g_all, ↓mt_count, ↓it_tup, ↓it_put, ↓bin_add, ↓bin_sub, ↓bin_mul, ↓bin_mod, ↓bin_div, ↓bin_tup, ↓cm_eq, ↓cm_ne, ↓cm_lt, ↓cm_le, ↓cm_gt, ↓cm_ge, ↓cm_in, ↓cm_nin, ↓eq_str, ↓eq_int, ↓in_strs, ↓bc_len_1, ↓bc_len_2, ↓lit_10, ↓lit_20, ↓lit_11, ↓lit_22, ↓mk_put, ↓g_append, ↓g_extend, ↓g_count, ↓ma_append, ↓len_put, ↓sl_take, ↓sl_drop, ↓x_app, ↓bc_range, ↓bc_int, ↓is_int_int, ↓is_int_bool, ↓is_str_str, ↓is_tup_tup, ↓is_bool_bool, ↓is_bool_int, ↓reduceIte, String.reduceEq, ↓rdi_b2i, ↓rd_of q3, ↓need_of (show (0 : Int) ≤ L ∧ (L : Int) < 2 ^ 62 by omega)]))
  generalize hra : (if decide (0 < v / 3 % 3) = true then r2 else r1) = ra
  generalize hσ0 : ((σ.put r1 (.list [.int 0, .int 1, .int 0, .int 2, .int 1, .int 0, .int 3, .int 4])).put r2 (.list [.int 0, .int 0, .int 0, .int 0, .int 1, .int 0, .int 0, .int 0])).put r3 (.list [.ref r1, .ref r2]) = σ0
  have hE0 : Ext σ σ0 := by
    rw [← hσ0]
    exact (Ext.put (Ext.refl _) hr1).trans ((Ext.put (Ext.refl _) hr2).trans (Ext.put (Ext.refl _) hr3))
  obtain ⟨rs, hrs, hrl, hr4⟩ : ∃ rs : List Nat, σ0 ra = some (.list (laneD rs)) ∧ rs.length = 8 ∧ ∀ r ∈ rs, r ≤ 4 := by
    have e1 := (Ext.put (c := .list [.int 0, .int 0, .int 0, .int 0, .int 1, .int 0, .int 0, .int 0]) (Ext.refl _) hr2) _ _ (put_at (σ := σ) (a := r1) (c := .list [.int 0, .int 1, .int 0, .int 2, .int 1, .int 0, .int 3, .int 4]))
    have e1 := (Ext.put (c := .list [.ref r1, .ref r2]) (Ext.refl _) hr3) _ _ e1
    have e2 := (Ext.put (c := .list [.ref r1, .ref r2]) (Ext.refl _) hr3) _ _ (put_at (a := r2))
    rw [hσ0] at e1 e2
    rw [← hra]
    split
    · exact rooms_of ⟨[0, 0, 0, 0, 1, 0, 0, 0], rfl, rfl, by decide⟩ e2
    · exact rooms_of ⟨[0, 1, 0, 2, 1, 0, 3, 4], rfl, rfl, by decide⟩ e1
  rw [Int.toNat_natCast]
  refine crange_of (fun i acc σ' => σ' = σ0 ∧ ∃ lane : List Nat, acc = laneD lane ∧ lane.length = i ∧ ∀ h ∈ lane, h ≤ 4) (le_line hL8) ⟨rfl, [], rfl, rfl, by simp⟩ (fun i acc σ' hi e => ?_) (fun acc σ' e => ?_)
  · obtain ⟨rfl, lane, rfl, hli, hl4⟩ := e
    (repeat (first | refine seqN ?_ | simp only [↓x_nil, ↓x_cons, ↓seq_ret, ↓seq_cont, ↓turn_next, ↓turn_cont, ↓turn_ret, ↓x_assign, ↓x_ite, ↓x_loop_loc, ↓x_loop_bcall, ↓x_loop_call, ↓x_loop_item, ↓x_loop_tup, ↓x_loop_zip, ↓x_while, ↓x_ret, ↓x_cont, ↓x_expr, ↓x_raise, ↓e_none, ↓e_bool, ↓e_int, ↓e_str, ↓e_neg, ↓e_loc, ↓e_glob, ↓e_bin, ↓e_not, ↓e_and, ↓e_or, ↓e_cmp, ↓e_call, ↓e_bcall, ↓e_meth, ↓e_item, ↓e_slice, ↓e_tup, ↓e_list, ↓e_comp, ↓es_nil, ↓es_cons, ↓b_one, ↓b_and, ↓b_or, ↓a_nil, ↓a_and, ↓a_or, ↓cs_nil, ↓cs_cons, ↓c_one, ↓c_two, ↓t_not, ↓t_and, ↓t_or, ↓t_cmp, ↓t_call, ↓t_bcall, ↓t_loc, ↓tr_bool, ↓as_name, ↓as_2, ↓as_3, ↓sets_nil, ↓sets_cons, ↓ret_ret, ↓ret_next, ↓br_true, ↓br_false, ↓br_not, ↓rd_set, ↓rdi_0, ↓rdi_1, ↓g_len, ↓g_isinstance, ↓g_range, ↓g_int, ↓g_tuple, ↓g_list, ↓g_dict, ↓g_min, ↓g_all, ↓mt_count, ↓it_tup, ↓it_put, ↓bin_add, ↓bin_sub, ↓bin_mul, ↓bin_mod, ↓bin_div, ↓bin_tup, ↓cm_eq, ↓cm_ne, ↓cm_lt, ↓cm_le, ↓cm_gt, ↓cm_ge, ↓cm_in, ↓cm_nin, ↓eq_str, ↓eq_int, ↓in_strs, ↓bc_len_1, ↓bc_len_2, ↓lit_10, ↓lit_20, ↓lit_11, ↓lit_22, ↓mk_put, ↓g_append, ↓g_extend, ↓g_count, ↓ma_append, ↓len_put, ↓sl_take, ↓sl_drop, ↓x_app, ↓bc_range, ↓bc_int, ↓is_int_int, ↓is_int_bool, ↓is_str_str, ↓is_tup_tup, ↓is_bool_bool, ↓is_bool_int, ↓reduceIte, String.reduceEq, ↓rd_of q1, ↓H.mixed.gate]))
    refine c_mixed H (hE0 _ _ hl) hn (by omega) (by omega) fun m hm => ?_
    (repeat (first | refine seqN ?_ | simp only [↓x_nil, ↓x_cons, ↓seq_ret, ↓seq_cont, ↓turn_next, ↓turn_cont, ↓turn_ret, ↓x_assign, ↓x_ite, ↓x_loop_loc, ↓x_loop_bcall, ↓x_loop_call, ↓x_loop_item, ↓x_loop_tup, ↓x_loop_zip, ↓x_while, ↓x_ret, ↓x_cont, ↓x_expr, ↓x_raise, ↓e_none, ↓e_bool, ↓e_int, ↓e_str, ↓e_neg, ↓e_loc, ↓e_glob, ↓e_bin, ↓e_not, ↓e_and, ↓e_or, ↓e_cmp, ↓e_call, ↓e_bcall, ↓e_meth, ↓e_item, ↓e_slice, ↓e_tup, ↓e_list, ↓e_comp, ↓es_nil, ↓es_cons, ↓b_one, ↓b_and, ↓b_or, ↓a_nil, ↓a_and, ↓a_or, ↓cs_nil, ↓cs_cons, ↓c_one, ↓c_two, ↓t_not, ↓t_and, ↓t_or, ↓t_cmp, ↓t_call, ↓t_bcall, ↓t_loc, ↓tr_bool, ↓as_name, ↓as_2, ↓as_3, ↓sets_nil, ↓sets_cons, ↓ret_ret, ↓ret_next, ↓br_true, ↓br_false, ↓br_not, ↓rd_set, ↓rdi_0, ↓rdi_1, ↓g_len, ↓g_isinstance, ↓g_range, ↓g_int, ↓g_tuple, ↓g_list, ↓g_dict, ↓g_min, ↓g_all, ↓mt_count, ↓it_tup, ↓it_put, ↓bin_add, ↓bin_sub, ↓bin_mul, ↓bin_mod, ↓bin_div, ↓bin_tup, ↓cm_eq, ↓cm_ne, ↓cm_lt, ↓cm_le, ↓cm_gt, ↓cm_ge, ↓cm_in, ↓cm_nin, ↓eq_str, ↓eq_int, ↓in_strs, ↓bc_len_1, ↓bc_len_2, ↓lit_10, ↓lit_20, ↓lit_11, ↓lit_22, ↓mk_put, ↓g_append, ↓g_extend, ↓g_count, ↓ma_append, ↓len_put, ↓sl_take, ↓sl_drop, ↓x_app, ↓bc_range, ↓bc_int, ↓is_int_int, ↓is_int_bool, ↓is_str_str, ↓is_tup_tup, ↓is_bool_bool, ↓is_bool_int, ↓reduceIte, String.reduceEq, ↓need_of (show (0 : Int) < 8 by decide), ↓it_l hrs]))
    refine rdi_in (by omega) (by omega) (by rw [lane_len]; omega) fun d hd => ?_
    obtain ⟨r, hr, rfl⟩ := of_at_map hd
    refine ⟨trivial, lane ++ [r], by simp [laneD], by simp [hli], fun x hx => ?_⟩
    rcases List.mem_append.mp hx with q | q
    · exact hl4 x q
    · simp at q; subst q; exact hr4 _ (List.mem_of_getElem? hr)
  obtain ⟨rfl, lane, rfl, hli, hl4⟩ := e
  have GL : GoodL lane := ⟨by omega, by omega, fun p hp => hl4 _ (List.getElem_mem hp)⟩
  intro ra hra' rb hrb rc hrc
  have na : σ ra = none := hE0.none hra'
  have hE1 : Ext σ' (σ'.put ra (.list (laneD lane))) := Ext.put (Ext.refl _) hra'
  have hE2 := (Ext.put (c := .list []) (Ext.refl _) hrb)
  have hE3 := (Ext.put (c := .list []) (Ext.refl _) hrc)
  have ea : (((σ'.put ra (.list (laneD lane))).put rb (.list [])).put rc (.list [])) ra = some (.list (laneD lane)) := hE3 _ _ (hE2 _ _ put_at)
  have eb : (((σ'.put ra (.list (laneD lane))).put rb (.list [])).put rc (.list [])) rb = some (.list []) := hE3 _ _ put_at
  have ec : (((σ'.put ra (.list (laneD lane))).put rb (.list [])).put rc (.list [])) rc = some (.list []) := put_at
  have nab : ra ≠ rb := ne_of (put_at (σ := σ') (a := ra) (c := .list (laneD lane))) hrb
  have nbc : rb ≠ rc := ne_of (put_at (a := rb)) hrc
  have nac : ra ≠ rc := ne_of (hE2 _ _ put_at) hrc
  have hE : Ext σ (((σ'.put ra (.list (laneD lane))).put rb (.list [])).put rc (.list [])) := ((hE0.trans hE1).trans hE2).trans hE3
  have nb : σ rb = none := (hE0.trans hE1).none hrb
  have nc : σ rc = none := ((hE0.trans hE1).trans hE2).none hrc
  generalize hσ3 : ((σ'.put ra (.list (laneD lane))).put rb (.list [])).put rc (.list []) = σ3 at ea eb ec hE
  clear hE1 hE2 hE3 hσ3 hσ0 hra hrb hrc hra'
  (repeat (first | refine seqN ?_ | simp only [↓x_nil, ↓x_cons, ↓seq_ret, ↓seq_cont, ↓turn_next, ↓turn_cont, ↓turn_ret, ↓x_assign, ↓x_ite, ↓x_loop_loc, ↓x_loop_bcall, ↓x_loop_call, ↓x_loop_item, ↓x_loop_tup, ↓x_loop_zip, ↓x_while, ↓x_ret, ↓x_cont, ↓x_expr, ↓x_raise, ↓e_none, ↓e_bool, ↓e_int, ↓e_str, ↓e_neg, ↓e_loc, ↓e_glob, ↓e_bin, ↓e_not, ↓e_and, ↓e_or, ↓e_cmp, ↓e_call, ↓e_bcall, ↓e_meth, ↓e_item, ↓e_slice, ↓e_tup, ↓e_list, ↓e_comp, ↓es_nil, ↓es_cons, ↓b_one, ↓b_and, ↓b_or, ↓a_nil, ↓a_and, ↓a_or, ↓cs_nil, ↓cs_cons, ↓c_one, ↓c_two, ↓t_not, ↓t_and, ↓t_or, ↓t_cmp, ↓t_call, ↓t_bcall, ↓t_loc, ↓tr_bool, ↓as_name, ↓as_2, ↓as_3, ↓sets_nil, ↓sets_cons, ↓ret_ret, ↓ret_next, ↓br_true, ↓br_false, ↓br_not, ↓rd_set, ↓rdi_0, ↓rdi_1, ↓g_len, ↓g_isinstance, ↓g_range, ↓g_int, ↓g_tuple, ↓g_list, ↓g_dict, ↓g_min, ↓g_all, ↓mt_count, ↓it_tup, ↓it_put, ↓bin_add, ↓bin_sub, ↓bin_mul, ↓bin_mod, ↓bin_div, ↓bin_tup, ↓cm_eq, ↓cm_ne, ↓cm_lt, ↓cm_le, ↓cm_gt, ↓cm_ge, ↓cm_in, ↓cm_nin, ↓eq_str, ↓eq_int, ↓in_strs, ↓bc_len_1, ↓bc_len_2, ↓lit_10, ↓lit_20, ↓lit_11, ↓lit_22, ↓mk_put, ↓g_append, ↓g_extend, ↓g_count, ↓ma_append, ↓len_put, ↓sl_take, ↓sl_drop, ↓x_app, ↓bc_range, ↓bc_int, ↓is_int_int, ↓is_int_bool, ↓is_str_str, ↓is_tup_tup, ↓is_bool_bool, ↓is_bool_int, ↓reduceIte, String.reduceEq, ↓rd_of q4, ↓need_of (show (0 : Int) ≤ T ∧ (T : Int) < 2 ^ 62 by omega)]))
  rw [Int.toNat_natCast]
  refine range_of (fun i ρ' σ'' => Ext σ σ'' ∧ σ'' ra = some (.list (laneD lane)) ∧ (∃ ways : List Bool, σ'' rb = some (.list (waysD ways)) ∧ ways.length = i) ∧ (∃ st : List Spot, σ'' rc = some (.list (st.map Spot.d)) ∧ st.length = i ∧ Fit lane st) ∧
      ρ' "_law_script" = some (.ref l) ∧ ρ' "_law_lane" = some (.ref ra) ∧ ρ' "_law_ways" = some (.ref rb) ∧ ρ' "_law_stand" = some (.ref rc)) (le_line hT6)
    ⟨hE, ea, ⟨[], eb, rfl⟩, ⟨[], ec, rfl, by constructor <;> simp⟩, q1, rfl, rfl, rfl⟩ (fun i ρ' σ4 hi e => ?_) (fun ρ' σ4 e => ?_)
  · obtain ⟨hE4, ea, ⟨ways, eb, hwl⟩, ⟨st, ec, hsl, hF⟩, p1, p2, p3, p4⟩ := e
    (repeat (first | refine seqN ?_ | simp only [↓x_nil, ↓x_cons, ↓seq_ret, ↓seq_cont, ↓turn_next, ↓turn_cont, ↓turn_ret, ↓x_assign, ↓x_ite, ↓x_loop_loc, ↓x_loop_bcall, ↓x_loop_call, ↓x_loop_item, ↓x_loop_tup, ↓x_loop_zip, ↓x_while, ↓x_ret, ↓x_cont, ↓x_expr, ↓x_raise, ↓e_none, ↓e_bool, ↓e_int, ↓e_str, ↓e_neg, ↓e_loc, ↓e_glob, ↓e_bin, ↓e_not, ↓e_and, ↓e_or, ↓e_cmp, ↓e_call, ↓e_bcall, ↓e_meth, ↓e_item, ↓e_slice, ↓e_tup, ↓e_list, ↓e_comp, ↓es_nil, ↓es_cons, ↓b_one, ↓b_and, ↓b_or, ↓a_nil, ↓a_and, ↓a_or, ↓cs_nil, ↓cs_cons, ↓c_one, ↓c_two, ↓t_not, ↓t_and, ↓t_or, ↓t_cmp, ↓t_call, ↓t_bcall, ↓t_loc, ↓tr_bool, ↓as_name, ↓as_2, ↓as_3, ↓sets_nil, ↓sets_cons, ↓ret_ret, ↓ret_next, ↓br_true, ↓br_false, ↓br_not, ↓rd_set, ↓rdi_0, ↓rdi_1, ↓g_len, ↓g_isinstance, ↓g_range, ↓g_int, ↓g_tuple, ↓g_list, ↓g_dict, ↓g_min, ↓g_all, ↓mt_count, ↓it_tup, ↓it_put, ↓bin_add, ↓bin_sub, ↓bin_mul, ↓bin_mod, ↓bin_div, ↓bin_tup, ↓cm_eq, ↓cm_ne, ↓cm_lt, ↓cm_le, ↓cm_gt, ↓cm_ge, ↓cm_in, ↓cm_nin, ↓eq_str, ↓eq_int, ↓in_strs, ↓bc_len_1, ↓bc_len_2, ↓lit_10, ↓lit_20, ↓lit_11, ↓lit_22, ↓mk_put, ↓g_append, ↓g_extend, ↓g_count, ↓ma_append, ↓len_put, ↓sl_take, ↓sl_drop, ↓x_app, ↓bc_range, ↓bc_int, ↓is_int_int, ↓is_int_bool, ↓is_str_str, ↓is_tup_tup, ↓is_bool_bool, ↓is_bool_int, ↓reduceIte, String.reduceEq, ↓rd_of p1, ↓rd_of p2, ↓rd_of p3, ↓rd_of p4, ↓H.mixed.gate]))
    refine c_mixed H (hE4 _ _ hl) hn (by omega) (by omega) fun m hm => ?_
    (repeat (first | refine seqN ?_ | simp only [↓x_nil, ↓x_cons, ↓seq_ret, ↓seq_cont, ↓turn_next, ↓turn_cont, ↓turn_ret, ↓x_assign, ↓x_ite, ↓x_loop_loc, ↓x_loop_bcall, ↓x_loop_call, ↓x_loop_item, ↓x_loop_tup, ↓x_loop_zip, ↓x_while, ↓x_ret, ↓x_cont, ↓x_expr, ↓x_raise, ↓e_none, ↓e_bool, ↓e_int, ↓e_str, ↓e_neg, ↓e_loc, ↓e_glob, ↓e_bin, ↓e_not, ↓e_and, ↓e_or, ↓e_cmp, ↓e_call, ↓e_bcall, ↓e_meth, ↓e_item, ↓e_slice, ↓e_tup, ↓e_list, ↓e_comp, ↓es_nil, ↓es_cons, ↓b_one, ↓b_and, ↓b_or, ↓a_nil, ↓a_and, ↓a_or, ↓cs_nil, ↓cs_cons, ↓c_one, ↓c_two, ↓t_not, ↓t_and, ↓t_or, ↓t_cmp, ↓t_call, ↓t_bcall, ↓t_loc, ↓tr_bool, ↓as_name, ↓as_2, ↓as_3, ↓sets_nil, ↓sets_cons, ↓ret_ret, ↓ret_next, ↓br_true, ↓br_false, ↓br_not, ↓rd_set, ↓rdi_0, ↓rdi_1, ↓g_len, ↓g_isinstance, ↓g_range, ↓g_int, ↓g_tuple, ↓g_list, ↓g_dict, ↓g_min, ↓g_all, ↓mt_count, ↓it_tup, ↓it_put, ↓bin_add, ↓bin_sub, ↓bin_mul, ↓bin_mod, ↓bin_div, ↓bin_tup, ↓cm_eq, ↓cm_ne, ↓cm_lt, ↓cm_le, ↓cm_gt, ↓cm_ge, ↓cm_in, ↓cm_nin, ↓eq_str, ↓eq_int, ↓in_strs, ↓bc_len_1, ↓bc_len_2, ↓lit_10, ↓lit_20, ↓lit_11, ↓lit_22, ↓mk_put, ↓g_append, ↓g_extend, ↓g_count, ↓ma_append, ↓len_put, ↓sl_take, ↓sl_drop, ↓x_app, ↓bc_range, ↓bc_int, ↓is_int_int, ↓is_int_bool, ↓is_str_str, ↓is_tup_tup, ↓is_bool_bool, ↓is_bool_int, ↓reduceIte, String.reduceEq, ↓rd_of p1, ↓rd_of p2, ↓rd_of p3, ↓rd_of p4, ↓mk_list eb, ↓need_of (show (0 : Int) < 2 by decide)]))
    intro rd hrd
    have hE5 := (Ext.put (c := .list [D.str "right", D.str "left"]) (Ext.refl _) hrd)
    have eb5 := hE5 _ _ eb
    (repeat (first | refine seqN ?_ | simp only [↓x_nil, ↓x_cons, ↓seq_ret, ↓seq_cont, ↓turn_next, ↓turn_cont, ↓turn_ret, ↓x_assign, ↓x_ite, ↓x_loop_loc, ↓x_loop_bcall, ↓x_loop_call, ↓x_loop_item, ↓x_loop_tup, ↓x_loop_zip, ↓x_while, ↓x_ret, ↓x_cont, ↓x_expr, ↓x_raise, ↓e_none, ↓e_bool, ↓e_int, ↓e_str, ↓e_neg, ↓e_loc, ↓e_glob, ↓e_bin, ↓e_not, ↓e_and, ↓e_or, ↓e_cmp, ↓e_call, ↓e_bcall, ↓e_meth, ↓e_item, ↓e_slice, ↓e_tup, ↓e_list, ↓e_comp, ↓es_nil, ↓es_cons, ↓b_one, ↓b_and, ↓b_or, ↓a_nil, ↓a_and, ↓a_or, ↓cs_nil, ↓cs_cons, ↓c_one, ↓c_two, ↓t_not, ↓t_and, ↓t_or, ↓t_cmp, ↓t_call, ↓t_bcall, ↓t_loc, ↓tr_bool, ↓as_name, ↓as_2, ↓as_3, ↓sets_nil, ↓sets_cons, ↓ret_ret, ↓ret_next, ↓br_true, ↓br_false, ↓br_not, ↓rd_set, ↓rdi_0, ↓rdi_1, ↓g_len, ↓g_isinstance, ↓g_range, ↓g_int, ↓g_tuple, ↓g_list, ↓g_dict, ↓g_min, ↓g_all, ↓mt_count, ↓it_tup, ↓it_put, ↓bin_add, ↓bin_sub, ↓bin_mul, ↓bin_mod, ↓bin_div, ↓bin_tup, ↓cm_eq, ↓cm_ne, ↓cm_lt, ↓cm_le, ↓cm_gt, ↓cm_ge, ↓cm_in, ↓cm_nin, ↓eq_str, ↓eq_int, ↓in_strs, ↓bc_len_1, ↓bc_len_2, ↓lit_10, ↓lit_20, ↓lit_11, ↓lit_22, ↓mk_put, ↓g_append, ↓g_extend, ↓g_count, ↓ma_append, ↓len_put, ↓sl_take, ↓sl_drop, ↓x_app, ↓bc_range, ↓bc_int, ↓is_int_int, ↓is_int_bool, ↓is_str_str, ↓is_tup_tup, ↓is_bool_bool, ↓is_bool_int, ↓reduceIte, String.reduceEq]))
    have hm2 : m % 2 = 0 ∨ m % 2 = 1 := by omega
    obtain ⟨w, hw⟩ : ∃ w : Bool, ([D.str "right", D.str "left"] : List D)[(m % 2).toNat]? = some (wayD w) := by
      rcases hm2 with e | e <;> rw [e]
      · exact ⟨true, rfl⟩
      · exact ⟨false, rfl⟩
    rw [rdi_ofI (by omega) (by omega) hw]
    (repeat (first | refine seqN ?_ | simp only [↓x_nil, ↓x_cons, ↓seq_ret, ↓seq_cont, ↓turn_next, ↓turn_cont, ↓turn_ret, ↓x_assign, ↓x_ite, ↓x_loop_loc, ↓x_loop_bcall, ↓x_loop_call, ↓x_loop_item, ↓x_loop_tup, ↓x_loop_zip, ↓x_while, ↓x_ret, ↓x_cont, ↓x_expr, ↓x_raise, ↓e_none, ↓e_bool, ↓e_int, ↓e_str, ↓e_neg, ↓e_loc, ↓e_glob, ↓e_bin, ↓e_not, ↓e_and, ↓e_or, ↓e_cmp, ↓e_call, ↓e_bcall, ↓e_meth, ↓e_item, ↓e_slice, ↓e_tup, ↓e_list, ↓e_comp, ↓es_nil, ↓es_cons, ↓b_one, ↓b_and, ↓b_or, ↓a_nil, ↓a_and, ↓a_or, ↓cs_nil, ↓cs_cons, ↓c_one, ↓c_two, ↓t_not, ↓t_and, ↓t_or, ↓t_cmp, ↓t_call, ↓t_bcall, ↓t_loc, ↓tr_bool, ↓as_name, ↓as_2, ↓as_3, ↓sets_nil, ↓sets_cons, ↓ret_ret, ↓ret_next, ↓br_true, ↓br_false, ↓br_not, ↓rd_set, ↓rdi_0, ↓rdi_1, ↓g_len, ↓g_isinstance, ↓g_range, ↓g_int, ↓g_tuple, ↓g_list, ↓g_dict, ↓g_min, ↓g_all, ↓mt_count, ↓it_tup, ↓it_put, ↓bin_add, ↓bin_sub, ↓bin_mul, ↓bin_mod, ↓bin_div, ↓bin_tup, ↓cm_eq, ↓cm_ne, ↓cm_lt, ↓cm_le, ↓cm_gt, ↓cm_ge, ↓cm_in, ↓cm_nin, ↓eq_str, ↓eq_int, ↓in_strs, ↓bc_len_1, ↓bc_len_2, ↓lit_10, ↓lit_20, ↓lit_11, ↓lit_22, ↓mk_put, ↓g_append, ↓g_extend, ↓g_count, ↓ma_append, ↓len_put, ↓sl_take, ↓sl_drop, ↓x_app, ↓bc_range, ↓bc_int, ↓is_int_int, ↓is_int_bool, ↓is_str_str, ↓is_tup_tup, ↓is_bool_bool, ↓is_bool_int, ↓reduceIte, String.reduceEq, ↓ml_append eb5 (le_line (by rw [ways_len, hwl]; exact Nat.le_of_lt (Nat.lt_of_lt_of_le hi hT6))), ↓rd_of p4]))
    generalize hσ6 : (σ4.put rd (.list [D.str "right", D.str "left"])).put rb (.list (waysD ways ++ [wayD w])) = σ6
    have eb6 : σ6 rb = some (.list (waysD (ways ++ [w]))) := by rw [← hσ6, put_at, waysD, waysD, List.map_append]; rfl
    have ea6 : σ6 ra = some (.list (laneD lane)) := by rw [← hσ6, put_ne nab]; exact hE5 _ _ ea
    have ec6 : σ6 rc = some (.list (st.map Spot.d)) := by rw [← hσ6, put_ne nbc.symm]; exact hE5 _ _ ec
    have hE6 : Ext σ σ6 := by rw [← hσ6]; exact Ext.put (hE4.trans hE5) nb
    (repeat (first | refine seqN ?_ | simp only [↓x_nil, ↓x_cons, ↓seq_ret, ↓seq_cont, ↓turn_next, ↓turn_cont, ↓turn_ret, ↓x_assign, ↓x_ite, ↓x_loop_loc, ↓x_loop_bcall, ↓x_loop_call, ↓x_loop_item, ↓x_loop_tup, ↓x_loop_zip, ↓x_while, ↓x_ret, ↓x_cont, ↓x_expr, ↓x_raise, ↓e_none, ↓e_bool, ↓e_int, ↓e_str, ↓e_neg, ↓e_loc, ↓e_glob, ↓e_bin, ↓e_not, ↓e_and, ↓e_or, ↓e_cmp, ↓e_call, ↓e_bcall, ↓e_meth, ↓e_item, ↓e_slice, ↓e_tup, ↓e_list, ↓e_comp, ↓es_nil, ↓es_cons, ↓b_one, ↓b_and, ↓b_or, ↓a_nil, ↓a_and, ↓a_or, ↓cs_nil, ↓cs_cons, ↓c_one, ↓c_two, ↓t_not, ↓t_and, ↓t_or, ↓t_cmp, ↓t_call, ↓t_bcall, ↓t_loc, ↓tr_bool, ↓as_name, ↓as_2, ↓as_3, ↓sets_nil, ↓sets_cons, ↓ret_ret, ↓ret_next, ↓br_true, ↓br_false, ↓br_not, ↓rd_set, ↓rdi_0, ↓rdi_1, ↓g_len, ↓g_isinstance, ↓g_range, ↓g_int, ↓g_tuple, ↓g_list, ↓g_dict, ↓g_min, ↓g_all, ↓mt_count, ↓it_tup, ↓it_put, ↓bin_add, ↓bin_sub, ↓bin_mul, ↓bin_mod, ↓bin_div, ↓bin_tup, ↓cm_eq, ↓cm_ne, ↓cm_lt, ↓cm_le, ↓cm_gt, ↓cm_ge, ↓cm_in, ↓cm_nin, ↓eq_str, ↓eq_int, ↓in_strs, ↓bc_len_1, ↓bc_len_2, ↓lit_10, ↓lit_20, ↓lit_11, ↓lit_22, ↓mk_put, ↓g_append, ↓g_extend, ↓g_count, ↓ma_append, ↓len_put, ↓sl_take, ↓sl_drop, ↓x_app, ↓bc_range, ↓bc_int, ↓is_int_int, ↓is_int_bool, ↓is_str_str, ↓is_tup_tup, ↓is_bool_bool, ↓is_bool_int, ↓reduceIte, String.reduceEq, ↓mk_list ec6, ↓rd_of p2, ↓rd_of p4, ↓H.spot.gate, ↓need_of (show (0 : Int) < 2 ∧ (2 : Int) < 1073741824 by decide)]))
    refine c_spot H ea6 ec6 GL.l8 GL.l1 fun s σ7 hE7 hs => ?_
    have ec7 := hE7 _ _ ec6
    (repeat (first | refine seqN ?_ | simp only [↓x_nil, ↓x_cons, ↓seq_ret, ↓seq_cont, ↓turn_next, ↓turn_cont, ↓turn_ret, ↓x_assign, ↓x_ite, ↓x_loop_loc, ↓x_loop_bcall, ↓x_loop_call, ↓x_loop_item, ↓x_loop_tup, ↓x_loop_zip, ↓x_while, ↓x_ret, ↓x_cont, ↓x_expr, ↓x_raise, ↓e_none, ↓e_bool, ↓e_int, ↓e_str, ↓e_neg, ↓e_loc, ↓e_glob, ↓e_bin, ↓e_not, ↓e_and, ↓e_or, ↓e_cmp, ↓e_call, ↓e_bcall, ↓e_meth, ↓e_item, ↓e_slice, ↓e_tup, ↓e_list, ↓e_comp, ↓es_nil, ↓es_cons, ↓b_one, ↓b_and, ↓b_or, ↓a_nil, ↓a_and, ↓a_or, ↓cs_nil, ↓cs_cons, ↓c_one, ↓c_two, ↓t_not, ↓t_and, ↓t_or, ↓t_cmp, ↓t_call, ↓t_bcall, ↓t_loc, ↓tr_bool, ↓as_name, ↓as_2, ↓as_3, ↓sets_nil, ↓sets_cons, ↓ret_ret, ↓ret_next, ↓br_true, ↓br_false, ↓br_not, ↓rd_set, ↓rdi_0, ↓rdi_1, ↓g_len, ↓g_isinstance, ↓g_range, ↓g_int, ↓g_tuple, ↓g_list, ↓g_dict, ↓g_min, ↓g_all, ↓mt_count, ↓it_tup, ↓it_put, ↓bin_add, ↓bin_sub, ↓bin_mul, ↓bin_mod, ↓bin_div, ↓bin_tup, ↓cm_eq, ↓cm_ne, ↓cm_lt, ↓cm_le, ↓cm_gt, ↓cm_ge, ↓cm_in, ↓cm_nin, ↓eq_str, ↓eq_int, ↓in_strs, ↓bc_len_1, ↓bc_len_2, ↓lit_10, ↓lit_20, ↓lit_11, ↓lit_22, ↓mk_put, ↓g_append, ↓g_extend, ↓g_count, ↓ma_append, ↓len_put, ↓sl_take, ↓sl_drop, ↓x_app, ↓bc_range, ↓bc_int, ↓is_int_int, ↓is_int_bool, ↓is_str_str, ↓is_tup_tup, ↓is_bool_bool, ↓is_bool_int, ↓reduceIte, String.reduceEq, ↓ml_append ec7 (le_line (by rw [List.length_map, hsl]; exact Nat.le_of_lt (Nat.lt_of_lt_of_le hi hT6)))]))
    refine ⟨Ext.put (hE6.trans hE7) nc, ?_, ⟨ways ++ [w], ?_, by simp [hwl]⟩, ⟨st ++ [s], ?_, by simp [hsl], hF.add hs⟩, p1, p2, p3, p4⟩
    · rw [put_ne nac]; exact hE7 _ _ ea6
    · rw [put_ne nbc]; exact hE7 _ _ eb6
    · rw [put_at, List.map_append]; rfl
  · obtain ⟨hE4, ea, ⟨ways, eb, hwl⟩, ⟨st, ec, hsl, hF⟩, p1, p2, p3, p4⟩ := e
    (repeat (first | refine seqN ?_ | simp only [↓x_nil, ↓x_cons, ↓seq_ret, ↓seq_cont, ↓turn_next, ↓turn_cont, ↓turn_ret, ↓x_assign, ↓x_ite, ↓x_loop_loc, ↓x_loop_bcall, ↓x_loop_call, ↓x_loop_item, ↓x_loop_tup, ↓x_loop_zip, ↓x_while, ↓x_ret, ↓x_cont, ↓x_expr, ↓x_raise, ↓e_none, ↓e_bool, ↓e_int, ↓e_str, ↓e_neg, ↓e_loc, ↓e_glob, ↓e_bin, ↓e_not, ↓e_and, ↓e_or, ↓e_cmp, ↓e_call, ↓e_bcall, ↓e_meth, ↓e_item, ↓e_slice, ↓e_tup, ↓e_list, ↓e_comp, ↓es_nil, ↓es_cons, ↓b_one, ↓b_and, ↓b_or, ↓a_nil, ↓a_and, ↓a_or, ↓cs_nil, ↓cs_cons, ↓c_one, ↓c_two, ↓t_not, ↓t_and, ↓t_or, ↓t_cmp, ↓t_call, ↓t_bcall, ↓t_loc, ↓tr_bool, ↓as_name, ↓as_2, ↓as_3, ↓sets_nil, ↓sets_cons, ↓ret_ret, ↓ret_next, ↓br_true, ↓br_false, ↓br_not, ↓rd_set, ↓rdi_0, ↓rdi_1, ↓g_len, ↓g_isinstance, ↓g_range, ↓g_int, ↓g_tuple, ↓g_list, ↓g_dict, ↓g_min, ↓g_all, ↓mt_count, ↓it_tup, ↓it_put, ↓bin_add, ↓bin_sub, ↓bin_mul, ↓bin_mod, ↓bin_div, ↓bin_tup, ↓cm_eq, ↓cm_ne, ↓cm_lt, ↓cm_le, ↓cm_gt, ↓cm_ge, ↓cm_in, ↓cm_nin, ↓eq_str, ↓eq_int, ↓in_strs, ↓bc_len_1, ↓bc_len_2, ↓lit_10, ↓lit_20, ↓lit_11, ↓lit_22, ↓mk_put, ↓g_append, ↓g_extend, ↓g_count, ↓ma_append, ↓len_put, ↓sl_take, ↓sl_drop, ↓x_app, ↓bc_range, ↓bc_int, ↓is_int_int, ↓is_int_bool, ↓is_str_str, ↓is_tup_tup, ↓is_bool_bool, ↓is_bool_int, ↓reduceIte, String.reduceEq, ↓rd_of p2, ↓rd_of p3, ↓rd_of p4, ↓bc_tuple ec (le_line (by rw [List.length_map, hsl]; exact hT6))]))
    refine h ra rb lane ways st σ4 hE4 ea eb nab ?_ (by rw [hli, hwl]; exact hS)
    exact { toGoodL := GL, w1 := by omega, w6 := by omega, len := by omega, fits := hF.fits, one := hF.one, most := hF.most }
theorem c_built (H : Core K) {l : Addr} {lo : Obj} {ns : List Int} (hl : σ l = some (.rl lo (ns.map D.int))) (hn : ns.length ≤ 63)
    (h : ∀ a b lane ways st σ', Ext σ σ' → σ' a = some (.list (laneD lane)) → σ' b = some (.list (waysD ways)) → a ≠ b → Good lane ways st → Small lane.length ways.length → Q (.tup [.ref a, .ref b, standD st]) σ') :
    (K (n + 3)).call "_law_built" [.ref l] σ Q := by
  refine H.built.run _ _ _ _ rfl ?_
  rw [show b_law_built = built_head ++ built_rest from rfl]
  (repeat (first | refine seqN ?_ | simp only [↓x_nil, ↓x_cons, ↓seq_ret, ↓seq_cont, ↓turn_next, ↓turn_cont, ↓turn_ret, ↓x_assign, ↓x_ite, ↓x_loop_loc, ↓x_loop_bcall, ↓x_loop_call, ↓x_loop_item, ↓x_loop_tup, ↓x_loop_zip, ↓x_while, ↓x_ret, ↓x_cont, ↓x_expr, ↓x_raise, ↓e_none, ↓e_bool, ↓e_int, ↓e_str, ↓e_neg, ↓e_loc, ↓e_glob, ↓e_bin, ↓e_not, ↓e_and, ↓e_or, ↓e_cmp, ↓e_call, ↓e_bcall, ↓e_meth, ↓e_item, ↓e_slice, ↓e_tup, ↓e_list, ↓e_comp, ↓es_nil, ↓es_cons, ↓b_one, ↓b_and, ↓b_or, ↓a_nil, ↓a_and, ↓a_or, ↓cs_nil, ↓cs_cons, ↓c_one, ↓c_two, ↓t_not, ↓t_and, ↓t_or, ↓t_cmp, ↓t_call, ↓t_bcall, ↓t_loc, ↓tr_bool, ↓as_name, ↓as_2, ↓as_3, ↓sets_nil, ↓sets_cons, ↓ret_ret, ↓ret_next, ↓br_true, ↓br_false, ↓br_not, ↓rd_set, ↓rdi_0, ↓rdi_1, ↓g_len, ↓g_isinstance, ↓g_range, ↓g_int, ↓g_tuple, ↓g_list, ↓g_dict, ↓g_min, ↓g_all, ↓mt_count, ↓it_tup, ↓it_put, ↓bin_add, ↓bin_sub, ↓bin_mul, ↓bin_mod, ↓bin_div, ↓bin_tup, ↓cm_eq, ↓cm_ne, ↓cm_lt, ↓cm_le, ↓cm_gt, ↓cm_ge, ↓cm_in, ↓cm_nin, ↓eq_str, ↓eq_int, ↓in_strs, ↓bc_len_1, ↓bc_len_2, ↓lit_10, ↓lit_20, ↓lit_11, ↓lit_22, ↓mk_put, ↓g_append, ↓g_extend, ↓g_count, ↓ma_append, ↓len_put, ↓sl_take, ↓sl_drop, ↓x_app, ↓bc_range, ↓bc_int, ↓is_int_int, ↓is_int_bool, ↓is_str_str, ↓is_tup_tup, ↓is_bool_bool, ↓is_bool_int, ↓reduceIte, String.reduceEq, ↓built_head, ↓b_law_built, ↓List.take, ↓p_law_built, ↓H.cell_at.gate]))
  refine c_cell_at H hl hn (by decide) ?_
  (repeat (first | refine seqN ?_ | simp only [↓x_nil, ↓x_cons, ↓seq_ret, ↓seq_cont, ↓turn_next, ↓turn_cont, ↓turn_ret, ↓x_assign, ↓x_ite, ↓x_loop_loc, ↓x_loop_bcall, ↓x_loop_call, ↓x_loop_item, ↓x_loop_tup, ↓x_loop_zip, ↓x_while, ↓x_ret, ↓x_cont, ↓x_expr, ↓x_raise, ↓e_none, ↓e_bool, ↓e_int, ↓e_str, ↓e_neg, ↓e_loc, ↓e_glob, ↓e_bin, ↓e_not, ↓e_and, ↓e_or, ↓e_cmp, ↓e_call, ↓e_bcall, ↓e_meth, ↓e_item, ↓e_slice, ↓e_tup, ↓e_list, ↓e_comp, ↓es_nil, ↓es_cons, ↓b_one, ↓b_and, ↓b_or, ↓a_nil, ↓a_and, ↓a_or, ↓cs_nil, ↓cs_cons, ↓c_one, ↓c_two, ↓t_not, ↓t_and, ↓t_or, ↓t_cmp, ↓t_call, ↓t_bcall, ↓t_loc, ↓tr_bool, ↓as_name, ↓as_2, ↓as_3, ↓sets_nil, ↓sets_cons, ↓ret_ret, ↓ret_next, ↓br_true, ↓br_false, ↓br_not, ↓rd_set, ↓rdi_0, ↓rdi_1, ↓g_len, ↓g_isinstance, ↓g_range, ↓g_int, ↓g_tuple, ↓g_list, ↓g_dict, ↓g_min, ↓g_all, ↓mt_count, ↓it_tup, ↓it_put, ↓bin_add, ↓bin_sub, ↓bin_mul, ↓bin_mod, ↓bin_div, ↓bin_tup, ↓cm_eq, ↓cm_ne, ↓cm_lt, ↓cm_le, ↓cm_gt, ↓cm_ge, ↓cm_in, ↓cm_nin, ↓eq_str, ↓eq_int, ↓in_strs, ↓bc_len_1, ↓bc_len_2, ↓lit_10, ↓lit_20, ↓lit_11, ↓lit_22, ↓mk_put, ↓g_append, ↓g_extend, ↓g_count, ↓ma_append, ↓len_put, ↓sl_take, ↓sl_drop, ↓x_app, ↓bc_range, ↓bc_int, ↓is_int_int, ↓is_int_bool, ↓is_str_str, ↓is_tup_tup, ↓is_bool_bool, ↓is_bool_int, ↓reduceIte, String.reduceEq, ↓H.cell_at.gate]))
  refine c_cell_at H hl hn (by decide) ?_
  generalize cellAt ns 0 = u
  generalize cellAt ns 1 = v
  have go : ∀ (ρ : Loc) (L T : Int), ρ "_law_script" = some (.ref l) → ρ "_law_second" = some (.int v) → ρ "_law_many" = some (.int L) → ρ "_law_trains" = some (.int T) → 1 ≤ L → 1 ≤ T → Small L.toNat T.toNat → exsW (K (n + 2)) (fun _ _ => False) built_rest ρ σ (retW Q) := by
    intro ρ L T q1 q2 q3 q4 h1 h2 hS
    have e1 : ((L.toNat : Nat) : Int) = L := by omega
    have e2 : ((T.toNat : Nat) : Int) = T := by omega
    exact built_rest_ok H hl hn q1 q2 (by rw [e1]; exact q3) (by rw [e2]; exact q4) (by omega) (by omega) hS h
  have f1 : 1 ≤ 1 + u % 4 ∧ 1 ≤ 1 + v % 3 ∧ Small (1 + u % 4).toNat (1 + v % 3).toNat := by unfold Small; omega
  have f2 : 1 ≤ 5 + u / 32 % 4 ∧ 1 ≤ 1 + v % 2 ∧ Small (5 + u / 32 % 4).toNat (1 + v % 2).toNat := by unfold Small; omega
  have f3 : 1 ≤ 1 + u / 32 % 3 ∧ 1 ≤ 4 + v % 3 ∧ Small (1 + u / 32 % 3).toNat (4 + v % 3).toNat := by unfold Small; omega
  have p4 : (0 : Int) < 4 := by decide
  have p3 : (0 : Int) < 3 := by decide
  have p8 : (0 : Int) < 8 := by decide
  have p2 : (0 : Int) < 2 := by decide
  have d4 : (0 : Int) < 4 ∧ (4 : Int) < 1073741824 := by decide
  have d32 : (0 : Int) < 32 ∧ (32 : Int) < 1073741824 := by decide
  (repeat (first | refine seqN ?_ | simp only [↓x_nil, ↓x_cons, ↓seq_ret, ↓seq_cont, ↓turn_next, ↓turn_cont, ↓turn_ret, ↓x_assign, ↓x_ite, ↓x_loop_loc, ↓x_loop_bcall, ↓x_loop_call, ↓x_loop_item, ↓x_loop_tup, ↓x_loop_zip, ↓x_while, ↓x_ret, ↓x_cont, ↓x_expr, ↓x_raise, ↓e_none, ↓e_bool, ↓e_int, ↓e_str, ↓e_neg, ↓e_loc, ↓e_glob, ↓e_bin, ↓e_not, ↓e_and, ↓e_or, ↓e_cmp, ↓e_call, ↓e_bcall, ↓e_meth, ↓e_item, ↓e_slice, ↓e_tup, ↓e_list, ↓e_comp, ↓es_nil, ↓es_cons, ↓b_one, ↓b_and, ↓b_or, ↓a_nil, ↓a_and, ↓a_or, ↓cs_nil, ↓cs_cons, ↓c_one, ↓c_two, ↓t_not, ↓t_and, ↓t_or, ↓t_cmp, ↓t_call, ↓t_bcall, ↓t_loc, ↓tr_bool, ↓as_name, ↓as_2, ↓as_3, ↓sets_nil, ↓sets_cons, ↓ret_ret, ↓ret_next, ↓br_true, ↓br_false, ↓br_not, ↓rd_set, ↓rdi_0, ↓rdi_1, ↓g_len, ↓g_isinstance, ↓g_range, ↓g_int, ↓g_tuple, ↓g_list, ↓g_dict, ↓g_min, ↓g_all, ↓mt_count, ↓it_tup, ↓it_put, ↓bin_add, ↓bin_sub, ↓bin_mul, ↓bin_mod, ↓bin_div, ↓bin_tup, ↓cm_eq, ↓cm_ne, ↓cm_lt, ↓cm_le, ↓cm_gt, ↓cm_ge, ↓cm_in, ↓cm_nin, ↓eq_str, ↓eq_int, ↓in_strs, ↓bc_len_1, ↓bc_len_2, ↓lit_10, ↓lit_20, ↓lit_11, ↓lit_22, ↓mk_put, ↓g_append, ↓g_extend, ↓g_count, ↓ma_append, ↓len_put, ↓sl_take, ↓sl_drop, ↓x_app, ↓bc_range, ↓bc_int, ↓is_int_int, ↓is_int_bool, ↓is_str_str, ↓is_tup_tup, ↓is_bool_bool, ↓is_bool_int, ↓reduceIte, String.reduceEq, ↓need_of p4, ↓need_of p3, ↓need_of p8, ↓need_of p2, ↓need_of d4, ↓need_of d32]))
  refine br_dec (fun e1 => ?_) (fun e1 => ?_) <;> (repeat (first | refine seqN ?_ | simp only [↓x_nil, ↓x_cons, ↓seq_ret, ↓seq_cont, ↓turn_next, ↓turn_cont, ↓turn_ret, ↓x_assign, ↓x_ite, ↓x_loop_loc, ↓x_loop_bcall, ↓x_loop_call, ↓x_loop_item, ↓x_loop_tup, ↓x_loop_zip, ↓x_while, ↓x_ret, ↓x_cont, ↓x_expr, ↓x_raise, ↓e_none, ↓e_bool, ↓e_int, ↓e_str, ↓e_neg, ↓e_loc, ↓e_glob, ↓e_bin, ↓e_not, ↓e_and, ↓e_or, ↓e_cmp, ↓e_call, ↓e_bcall, ↓e_meth, ↓e_item, ↓e_slice, ↓e_tup, ↓e_list, ↓e_comp, ↓es_nil, ↓es_cons, ↓b_one, ↓b_and, ↓b_or, ↓a_nil, ↓a_and, ↓a_or, ↓cs_nil, ↓cs_cons, ↓c_one, ↓c_two, ↓t_not, ↓t_and, ↓t_or, ↓t_cmp, ↓t_call, ↓t_bcall, ↓t_loc, ↓tr_bool, ↓as_name, ↓as_2, ↓as_3, ↓sets_nil, ↓sets_cons, ↓ret_ret, ↓ret_next, ↓br_true, ↓br_false, ↓br_not, ↓rd_set, ↓rdi_0, ↓rdi_1, ↓g_len, ↓g_isinstance, ↓g_range, ↓g_int, ↓g_tuple, ↓g_list, ↓g_dict, ↓g_min, ↓g_all, ↓mt_count, ↓it_tup, ↓it_put, ↓bin_add, ↓bin_sub, ↓bin_mul, ↓bin_mod, ↓bin_div, ↓bin_tup, ↓cm_eq, ↓cm_ne, ↓cm_lt, ↓cm_le, ↓cm_gt, ↓cm_ge, ↓cm_in, ↓cm_nin, ↓eq_str, ↓eq_int, ↓in_strs, ↓bc_len_1, ↓bc_len_2, ↓lit_10, ↓lit_20, ↓lit_11, ↓lit_22, ↓mk_put, ↓g_append, ↓g_extend, ↓g_count, ↓ma_append, ↓len_put, ↓sl_take, ↓sl_drop, ↓x_app, ↓bc_range, ↓bc_int, ↓is_int_int, ↓is_int_bool, ↓is_str_str, ↓is_tup_tup, ↓is_bool_bool, ↓is_bool_int, ↓reduceIte, String.reduceEq, ↓need_of p4, ↓need_of p3, ↓need_of p8, ↓need_of p2, ↓need_of d4, ↓need_of d32])) <;> refine br_dec (fun e2 => ?_) (fun e2 => ?_) <;> (repeat (first | refine seqN ?_ | simp only [↓x_nil, ↓x_cons, ↓seq_ret, ↓seq_cont, ↓turn_next, ↓turn_cont, ↓turn_ret, ↓x_assign, ↓x_ite, ↓x_loop_loc, ↓x_loop_bcall, ↓x_loop_call, ↓x_loop_item, ↓x_loop_tup, ↓x_loop_zip, ↓x_while, ↓x_ret, ↓x_cont, ↓x_expr, ↓x_raise, ↓e_none, ↓e_bool, ↓e_int, ↓e_str, ↓e_neg, ↓e_loc, ↓e_glob, ↓e_bin, ↓e_not, ↓e_and, ↓e_or, ↓e_cmp, ↓e_call, ↓e_bcall, ↓e_meth, ↓e_item, ↓e_slice, ↓e_tup, ↓e_list, ↓e_comp, ↓es_nil, ↓es_cons, ↓b_one, ↓b_and, ↓b_or, ↓a_nil, ↓a_and, ↓a_or, ↓cs_nil, ↓cs_cons, ↓c_one, ↓c_two, ↓t_not, ↓t_and, ↓t_or, ↓t_cmp, ↓t_call, ↓t_bcall, ↓t_loc, ↓tr_bool, ↓as_name, ↓as_2, ↓as_3, ↓sets_nil, ↓sets_cons, ↓ret_ret, ↓ret_next, ↓br_true, ↓br_false, ↓br_not, ↓rd_set, ↓rdi_0, ↓rdi_1, ↓g_len, ↓g_isinstance, ↓g_range, ↓g_int, ↓g_tuple, ↓g_list, ↓g_dict, ↓g_min, ↓g_all, ↓mt_count, ↓it_tup, ↓it_put, ↓bin_add, ↓bin_sub, ↓bin_mul, ↓bin_mod, ↓bin_div, ↓bin_tup, ↓cm_eq, ↓cm_ne, ↓cm_lt, ↓cm_le, ↓cm_gt, ↓cm_ge, ↓cm_in, ↓cm_nin, ↓eq_str, ↓eq_int, ↓in_strs, ↓bc_len_1, ↓bc_len_2, ↓lit_10, ↓lit_20, ↓lit_11, ↓lit_22, ↓mk_put, ↓g_append, ↓g_extend, ↓g_count, ↓ma_append, ↓len_put, ↓sl_take, ↓sl_drop, ↓x_app, ↓bc_range, ↓bc_int, ↓is_int_int, ↓is_int_bool, ↓is_str_str, ↓is_tup_tup, ↓is_bool_bool, ↓is_bool_int, ↓reduceIte, String.reduceEq, ↓need_of p4, ↓need_of p3, ↓need_of p8, ↓need_of p2, ↓need_of d4, ↓need_of d32]))
  · exact go _ _ _ rfl rfl rfl rfl f3.1 f3.2.1 f3.2.2
  · exact go _ _ _ rfl rfl rfl rfl f2.1 f2.2.1 f2.2.2
  · exact go _ _ _ rfl rfl rfl rfl f3.1 f3.2.1 f3.2.2
  · exact go _ _ _ rfl rfl rfl rfl f1.1 f1.2.1 f1.2.2
end
end
end Mine

/-! LQ3 -/
open PySem
set_option Elab.async false
set_option autoImplicit false
set_option linter.unusedVariables false
set_option linter.unusedSimpArgs false
namespace Mine
noncomputable section
/-! zip(list, tuple) -/
def zturnW (σb : Sto) (I : Loc → Prop) : PostS := fun fl ρ₃ σ₃ => (fl = .next ∨ fl = .cont) ∧ (∀ a c, σb a = some c → σ₃ a = some c) ∧ I (flatLoc ρ₃)
theorem zturn_next {σb : Sto} {I : Loc → Prop} {ρ : Loc} : zturnW σb I .next ρ σb = I (flatLoc ρ) := by simp [zturnW]
theorem zip_of {k : Kx} {X : PostX} {ρ : Loc} {σ : Sto} {ns : List String} {body : List Sx} {p : Addr} {xs ys : List D} {Q : PostS} (hp : σ p = some (.list xs)) (σb : Sto) (I : Nat → Loc → Prop) (hb : ∀ a c, σb a = some c → σ a = some c ∧ c.flat = true) (hn : σb p = none) (h0 : I 0 (flatLoc ρ))
    (turn : ∀ i ρ' x y, I i ρ' → xs[i]? = some x → ys[i]? = some y → assignW (.tup ns) (.tup [x, y]) ρ' fun ρ₂ => exsW k X body ρ₂ σb (zturnW σb (I (i + 1))))
    (fin : ∀ ρ', I (min xs.length ys.length) ρ' → Q .next ρ' σ) : zipB k X (.tup ns) body (.ref p) (.tup ys) ρ σ Q :=
  ⟨p, xs, ys, rfl, rfl, hp, ⟨ns, rfl⟩, σb, I, hb, hn, h0, fun i ρ' q x y hx hy => turn i ρ' x y q hx hy, fin⟩
theorem flat_of {ρ : Loc} {x : String} {d : D} (h : ρ x = some d) (hd : d.flat = true) : flatLoc ρ x = some d := by simp [flatLoc, h, hd]
theorem left_take {L : Nat} : ∀ {ways : List Bool} {st : List Spot} {i : Nat} {w : Bool} {s : Spot}, ways[i]? = some w → st[i]? = some s → leftOf L (ways.take (i + 1)) (st.take (i + 1)) = leftOf L (ways.take i) (st.take i) + left1 L w s
  | [], _, _, _, _, h, _ => by simp at h
  | _ :: _, [], _, _, _, _, h => by simp at h
  | a :: ways, b :: st, 0, w, s, h, h' => by
    simp at h h'; subst h h'; simp [leftOf, sumW]
  | a :: ways, b :: st, i + 1, w, s, h, h' => by
    simp at h h'
    have := left_take (L := L) h h'
    simp only [leftOf, sumW, List.take_succ_cons, List.zipWith_cons_cons, List.sum_cons] at this ⊢
    omega
/-! lists compared -/
theorem eq_nil {σ : Sto} {a b : Addr} {xs : List D} {Q : Bool → Prop} (ha : σ a = some (.list xs)) (hb : σ b = some (.list [])) (hp : D.pures xs = true) (h : Q xs.isEmpty) : eqW σ (.ref a) (.ref b) Q := by
  unfold eqW
  rw [if_neg (show ¬ ((D.ref a).pure && (D.ref b).pure) = true from Bool.false_ne_true)]
  exact ⟨a, b, xs, rfl, rfl, ha, hb, hp, h⟩
structure L03 (K : Nat → Kx) : Prop extends Core K where
  left_to_go : Fn K "left_to_go" p_left_to_go b_left_to_go
  allowed : Fn K "allowed" p_allowed b_allowed
  is_form : Fn K "is_form" p_is_form b_is_form
  behind : Fn K "behind" p_behind b_behind
  whole : Fn K "_law_whole" p_law_whole b_law_whole
  left : Fn K "_law_left" p_law_left b_law_left
  stuck : Fn K "_law_stuck" p_law_stuck b_law_stuck
  law : Fn K "law" p_law b_law
section
variable {K : Nat → Kx} {n : Nat} {σ : Sto} {Q : PostE} {a b : Addr} {lane : List Nat} {ways : List Bool} {st : List Spot}
theorem lane_ne_ways (ha : σ a = some (.list (laneD lane))) (hb : σ b = some (.list (waysD ways))) (G : Good lane ways st) : a ≠ b := by
  rintro rfl
  rw [ha] at hb
  have h1 := G.l1
  have h2 := G.w1
  cases lane with
  | nil => simp at h1
  | cons x xs => cases ways with
    | nil => simp at h2
    | cons y ys => simp [laneD, waysD, natD, wayD] at hb
theorem c_left_to_go (H : Core K) (F : Fn K "left_to_go" p_left_to_go b_left_to_go) (ha : σ a = some (.list (laneD lane))) (hb : σ b = some (.list (waysD ways))) (G : Good lane ways st)
    (h : Q (.int (leftOf lane.length ways st : Nat)) σ) : (K (n + 4)).call "left_to_go" [.ref a, .ref b, standD st] σ Q := by
  refine F.run _ _ _ _ rfl ?_
  have h8 := G.l8
  have hab := lane_ne_ways ha hb G
  (repeat (first | refine seqN ?_ | simp only [↓x_nil, ↓x_cons, ↓seq_ret, ↓seq_cont, ↓turn_next, ↓turn_cont, ↓turn_ret, ↓x_assign, ↓x_ite, ↓x_loop_loc, ↓x_loop_bcall, ↓x_loop_call, ↓x_loop_item, ↓x_loop_tup, ↓x_loop_zip, ↓x_while, ↓x_ret, ↓x_cont, ↓x_expr, ↓x_raise, ↓e_none, ↓e_bool, ↓e_int, ↓e_str, ↓e_neg, ↓e_loc, ↓e_glob, ↓e_bin, ↓e_not, ↓e_and, ↓e_or, ↓e_cmp, ↓e_call, ↓e_bcall, ↓e_meth, ↓e_item, ↓e_slice, ↓e_tup, ↓e_list, ↓e_comp, ↓es_nil, ↓es_cons, ↓b_one, ↓b_and, ↓b_or, ↓a_nil, ↓a_and, ↓a_or, ↓cs_nil, ↓cs_cons, ↓c_one, ↓c_two, ↓t_not, ↓t_and, ↓t_or, ↓t_cmp, ↓t_call, ↓t_bcall, ↓t_loc, ↓tr_bool, ↓as_name, ↓as_2, ↓as_3, ↓sets_nil, ↓sets_cons, ↓ret_ret, ↓ret_next, ↓br_true, ↓br_false, ↓br_not, ↓rd_set, ↓rdi_0, ↓rdi_1, ↓g_len, ↓g_isinstance, ↓g_range, ↓g_int, ↓g_tuple, ↓g_list, ↓g_dict, ↓g_min, ↓g_all, ↓mt_count, ↓it_tup, ↓it_put, ↓bin_add, ↓bin_sub, ↓bin_mul, ↓bin_mod, ↓bin_div, ↓bin_tup, ↓cm_eq, ↓cm_ne, ↓cm_lt, ↓cm_le, ↓cm_gt, ↓cm_ge, ↓cm_in, ↓cm_nin, ↓eq_str, ↓eq_int, ↓in_strs, ↓bc_len_1, ↓bc_len_2, ↓lit_10, ↓lit_20, ↓lit_11, ↓lit_22, ↓mk_put, ↓g_append, ↓g_extend, ↓g_count, ↓ma_append, ↓len_put, ↓sl_take, ↓sl_drop, ↓x_app, ↓bc_range, ↓bc_int, ↓is_int_int, ↓is_int_bool, ↓is_str_str, ↓is_tup_tup, ↓is_bool_bool, ↓is_bool_int, ↓reduceIte, String.reduceEq, ↓b_left_to_go, ↓p_left_to_go, ↓H.need_stand.gate]))
  refine c_need_stand H ha hb G ?_
  (repeat (first | refine seqN ?_ | simp only [↓x_nil, ↓x_cons, ↓seq_ret, ↓seq_cont, ↓turn_next, ↓turn_cont, ↓turn_ret, ↓x_assign, ↓x_ite, ↓x_loop_loc, ↓x_loop_bcall, ↓x_loop_call, ↓x_loop_item, ↓x_loop_tup, ↓x_loop_zip, ↓x_while, ↓x_ret, ↓x_cont, ↓x_expr, ↓x_raise, ↓e_none, ↓e_bool, ↓e_int, ↓e_str, ↓e_neg, ↓e_loc, ↓e_glob, ↓e_bin, ↓e_not, ↓e_and, ↓e_or, ↓e_cmp, ↓e_call, ↓e_bcall, ↓e_meth, ↓e_item, ↓e_slice, ↓e_tup, ↓e_list, ↓e_comp, ↓es_nil, ↓es_cons, ↓b_one, ↓b_and, ↓b_or, ↓a_nil, ↓a_and, ↓a_or, ↓cs_nil, ↓cs_cons, ↓c_one, ↓c_two, ↓t_not, ↓t_and, ↓t_or, ↓t_cmp, ↓t_call, ↓t_bcall, ↓t_loc, ↓tr_bool, ↓as_name, ↓as_2, ↓as_3, ↓sets_nil, ↓sets_cons, ↓ret_ret, ↓ret_next, ↓br_true, ↓br_false, ↓br_not, ↓rd_set, ↓rdi_0, ↓rdi_1, ↓g_len, ↓g_isinstance, ↓g_range, ↓g_int, ↓g_tuple, ↓g_list, ↓g_dict, ↓g_min, ↓g_all, ↓mt_count, ↓it_tup, ↓it_put, ↓bin_add, ↓bin_sub, ↓bin_mul, ↓bin_mod, ↓bin_div, ↓bin_tup, ↓cm_eq, ↓cm_ne, ↓cm_lt, ↓cm_le, ↓cm_gt, ↓cm_ge, ↓cm_in, ↓cm_nin, ↓eq_str, ↓eq_int, ↓in_strs, ↓bc_len_1, ↓bc_len_2, ↓lit_10, ↓lit_20, ↓lit_11, ↓lit_22, ↓mk_put, ↓g_append, ↓g_extend, ↓g_count, ↓ma_append, ↓len_put, ↓sl_take, ↓sl_drop, ↓x_app, ↓bc_range, ↓bc_int, ↓is_int_int, ↓is_int_bool, ↓is_str_str, ↓is_tup_tup, ↓is_bool_bool, ↓is_bool_int, ↓reduceIte, String.reduceEq, ↓standD]))
  refine zip_of hb (fun x => if x = a then some (.list (laneD lane)) else none) (fun i ρ' => ρ' "lane" = some (.ref a) ∧ ρ' "found" = some (.int (leftOf lane.length (ways.take i) (st.take i) : Nat))) ?_ (if_neg hab.symm) ?_ (fun i ρ' x y e hx hy => ?_) (fun ρ' e => ?_)
  · intro x c e
    split at e
    · rename_i q; subst q; cases e
      exact ⟨ha, by simp [Cell.flat, laneD, natD, D.flat]⟩
    · cases e
  · exact ⟨flat_of rfl rfl, flat_of (d := .int 0) rfl rfl⟩
  · obtain ⟨q1, q2⟩ := e
    obtain ⟨w, hw, rfl⟩ := of_at_map hx
    obtain ⟨s, hs, rfl⟩ := of_at_map hy
    have ha' : (fun x => if x = a then some (Cell.list (laneD lane)) else none) a = some (.list (laneD lane)) := if_pos rfl
    have hlt := left_take (L := lane.length) hw hs
    have hf := G.fits _ (List.mem_of_getElem? hs)
    generalize hσb : (fun x => if x = a then some (Cell.list (laneD lane)) else none) = σb at ha'
    cases s with
    | out =>
      (repeat (first | refine seqN ?_ | simp only [↓x_nil, ↓x_cons, ↓seq_ret, ↓seq_cont, ↓turn_next, ↓turn_cont, ↓turn_ret, ↓x_assign, ↓x_ite, ↓x_loop_loc, ↓x_loop_bcall, ↓x_loop_call, ↓x_loop_item, ↓x_loop_tup, ↓x_loop_zip, ↓x_while, ↓x_ret, ↓x_cont, ↓x_expr, ↓x_raise, ↓e_none, ↓e_bool, ↓e_int, ↓e_str, ↓e_neg, ↓e_loc, ↓e_glob, ↓e_bin, ↓e_not, ↓e_and, ↓e_or, ↓e_cmp, ↓e_call, ↓e_bcall, ↓e_meth, ↓e_item, ↓e_slice, ↓e_tup, ↓e_list, ↓e_comp, ↓es_nil, ↓es_cons, ↓b_one, ↓b_and, ↓b_or, ↓a_nil, ↓a_and, ↓a_or, ↓cs_nil, ↓cs_cons, ↓c_one, ↓c_two, ↓t_not, ↓t_and, ↓t_or, ↓t_cmp, ↓t_call, ↓t_bcall, ↓t_loc, ↓tr_bool, ↓as_name, ↓as_2, ↓as_3, ↓sets_nil, ↓sets_cons, ↓ret_ret, ↓ret_next, ↓br_true, ↓br_false, ↓br_not, ↓rd_set, ↓rdi_0, ↓rdi_1, ↓g_len, ↓g_isinstance, ↓g_range, ↓g_int, ↓g_tuple, ↓g_list, ↓g_dict, ↓g_min, ↓g_all, ↓mt_count, ↓it_tup, ↓it_put, ↓bin_add, ↓bin_sub, ↓bin_mul, ↓bin_mod, ↓bin_div, ↓bin_tup, ↓cm_eq, ↓cm_ne, ↓cm_lt, ↓cm_le, ↓cm_gt, ↓cm_ge, ↓cm_in, ↓cm_nin, ↓eq_str, ↓eq_int, ↓in_strs, ↓bc_len_1, ↓bc_len_2, ↓lit_10, ↓lit_20, ↓lit_11, ↓lit_22, ↓mk_put, ↓g_append, ↓g_extend, ↓g_count, ↓ma_append, ↓len_put, ↓sl_take, ↓sl_drop, ↓x_app, ↓bc_range, ↓bc_int, ↓is_int_int, ↓is_int_bool, ↓is_str_str, ↓is_tup_tup, ↓is_bool_bool, ↓is_bool_int, ↓reduceIte, String.reduceEq, ↓Spot.d, ↓zturn_next]))
      refine ⟨flat_of q1 rfl, ?_⟩
      rw [hlt]; exact flat_of q2 rfl
    | lane p =>
      simp only [Spot.fits] at hf
      cases w
      · (repeat (first | refine seqN ?_ | simp only [↓x_nil, ↓x_cons, ↓seq_ret, ↓seq_cont, ↓turn_next, ↓turn_cont, ↓turn_ret, ↓x_assign, ↓x_ite, ↓x_loop_loc, ↓x_loop_bcall, ↓x_loop_call, ↓x_loop_item, ↓x_loop_tup, ↓x_loop_zip, ↓x_while, ↓x_ret, ↓x_cont, ↓x_expr, ↓x_raise, ↓e_none, ↓e_bool, ↓e_int, ↓e_str, ↓e_neg, ↓e_loc, ↓e_glob, ↓e_bin, ↓e_not, ↓e_and, ↓e_or, ↓e_cmp, ↓e_call, ↓e_bcall, ↓e_meth, ↓e_item, ↓e_slice, ↓e_tup, ↓e_list, ↓e_comp, ↓es_nil, ↓es_cons, ↓b_one, ↓b_and, ↓b_or, ↓a_nil, ↓a_and, ↓a_or, ↓cs_nil, ↓cs_cons, ↓c_one, ↓c_two, ↓t_not, ↓t_and, ↓t_or, ↓t_cmp, ↓t_call, ↓t_bcall, ↓t_loc, ↓tr_bool, ↓as_name, ↓as_2, ↓as_3, ↓sets_nil, ↓sets_cons, ↓ret_ret, ↓ret_next, ↓br_true, ↓br_false, ↓br_not, ↓rd_set, ↓rdi_0, ↓rdi_1, ↓g_len, ↓g_isinstance, ↓g_range, ↓g_int, ↓g_tuple, ↓g_list, ↓g_dict, ↓g_min, ↓g_all, ↓mt_count, ↓it_tup, ↓it_put, ↓bin_add, ↓bin_sub, ↓bin_mul, ↓bin_mod, ↓bin_div, ↓bin_tup, ↓cm_eq, ↓cm_ne, ↓cm_lt, ↓cm_le, ↓cm_gt, ↓cm_ge, ↓cm_in, ↓cm_nin, ↓eq_str, ↓eq_int, ↓in_strs, ↓bc_len_1, ↓bc_len_2, ↓lit_10, ↓lit_20, ↓lit_11, ↓lit_22, ↓mk_put, ↓g_append, ↓g_extend, ↓g_count, ↓ma_append, ↓len_put, ↓sl_take, ↓sl_drop, ↓x_app, ↓bc_range, ↓bc_int, ↓is_int_int, ↓is_int_bool, ↓is_str_str, ↓is_tup_tup, ↓is_bool_bool, ↓is_bool_int, ↓reduceIte, String.reduceEq, ↓Spot.d, ↓zturn_next, ↓eq_way_r, ↓rd_of q1, ↓rd_of q2]))
        refine ⟨flat_of q1 rfl, flat_of ?_ rfl⟩
        simp only [hlt, left1, Loc.set, if_true]; simp; omega
      · (repeat (first | refine seqN ?_ | simp only [↓x_nil, ↓x_cons, ↓seq_ret, ↓seq_cont, ↓turn_next, ↓turn_cont, ↓turn_ret, ↓x_assign, ↓x_ite, ↓x_loop_loc, ↓x_loop_bcall, ↓x_loop_call, ↓x_loop_item, ↓x_loop_tup, ↓x_loop_zip, ↓x_while, ↓x_ret, ↓x_cont, ↓x_expr, ↓x_raise, ↓e_none, ↓e_bool, ↓e_int, ↓e_str, ↓e_neg, ↓e_loc, ↓e_glob, ↓e_bin, ↓e_not, ↓e_and, ↓e_or, ↓e_cmp, ↓e_call, ↓e_bcall, ↓e_meth, ↓e_item, ↓e_slice, ↓e_tup, ↓e_list, ↓e_comp, ↓es_nil, ↓es_cons, ↓b_one, ↓b_and, ↓b_or, ↓a_nil, ↓a_and, ↓a_or, ↓cs_nil, ↓cs_cons, ↓c_one, ↓c_two, ↓t_not, ↓t_and, ↓t_or, ↓t_cmp, ↓t_call, ↓t_bcall, ↓t_loc, ↓tr_bool, ↓as_name, ↓as_2, ↓as_3, ↓sets_nil, ↓sets_cons, ↓ret_ret, ↓ret_next, ↓br_true, ↓br_false, ↓br_not, ↓rd_set, ↓rdi_0, ↓rdi_1, ↓g_len, ↓g_isinstance, ↓g_range, ↓g_int, ↓g_tuple, ↓g_list, ↓g_dict, ↓g_min, ↓g_all, ↓mt_count, ↓it_tup, ↓it_put, ↓bin_add, ↓bin_sub, ↓bin_mul, ↓bin_mod, ↓bin_div, ↓bin_tup, ↓cm_eq, ↓cm_ne, ↓cm_lt, ↓cm_le, ↓cm_gt, ↓cm_ge, ↓cm_in, ↓cm_nin, ↓eq_str, ↓eq_int, ↓in_strs, ↓bc_len_1, ↓bc_len_2, ↓lit_10, ↓lit_20, ↓lit_11, ↓lit_22, ↓mk_put, ↓g_append, ↓g_extend, ↓g_count, ↓ma_append, ↓len_put, ↓sl_take, ↓sl_drop, ↓x_app, ↓bc_range, ↓bc_int, ↓is_int_int, ↓is_int_bool, ↓is_str_str, ↓is_tup_tup, ↓is_bool_bool, ↓is_bool_int, ↓reduceIte, String.reduceEq, ↓Spot.d, ↓zturn_next, ↓eq_way_r, ↓rd_of q1, ↓rd_of q2, ↓bc_len ha' (by rw [lane_len]; omega)]))
        refine ⟨flat_of q1 rfl, flat_of ?_ rfl⟩
        simp only [hlt, left1, Loc.set, if_true, lane_len]; simp; omega
    | side p =>
      simp only [Spot.fits] at hf
      cases w
      · (repeat (first | refine seqN ?_ | simp only [↓x_nil, ↓x_cons, ↓seq_ret, ↓seq_cont, ↓turn_next, ↓turn_cont, ↓turn_ret, ↓x_assign, ↓x_ite, ↓x_loop_loc, ↓x_loop_bcall, ↓x_loop_call, ↓x_loop_item, ↓x_loop_tup, ↓x_loop_zip, ↓x_while, ↓x_ret, ↓x_cont, ↓x_expr, ↓x_raise, ↓e_none, ↓e_bool, ↓e_int, ↓e_str, ↓e_neg, ↓e_loc, ↓e_glob, ↓e_bin, ↓e_not, ↓e_and, ↓e_or, ↓e_cmp, ↓e_call, ↓e_bcall, ↓e_meth, ↓e_item, ↓e_slice, ↓e_tup, ↓e_list, ↓e_comp, ↓es_nil, ↓es_cons, ↓b_one, ↓b_and, ↓b_or, ↓a_nil, ↓a_and, ↓a_or, ↓cs_nil, ↓cs_cons, ↓c_one, ↓c_two, ↓t_not, ↓t_and, ↓t_or, ↓t_cmp, ↓t_call, ↓t_bcall, ↓t_loc, ↓tr_bool, ↓as_name, ↓as_2, ↓as_3, ↓sets_nil, ↓sets_cons, ↓ret_ret, ↓ret_next, ↓br_true, ↓br_false, ↓br_not, ↓rd_set, ↓rdi_0, ↓rdi_1, ↓g_len, ↓g_isinstance, ↓g_range, ↓g_int, ↓g_tuple, ↓g_list, ↓g_dict, ↓g_min, ↓g_all, ↓mt_count, ↓it_tup, ↓it_put, ↓bin_add, ↓bin_sub, ↓bin_mul, ↓bin_mod, ↓bin_div, ↓bin_tup, ↓cm_eq, ↓cm_ne, ↓cm_lt, ↓cm_le, ↓cm_gt, ↓cm_ge, ↓cm_in, ↓cm_nin, ↓eq_str, ↓eq_int, ↓in_strs, ↓bc_len_1, ↓bc_len_2, ↓lit_10, ↓lit_20, ↓lit_11, ↓lit_22, ↓mk_put, ↓g_append, ↓g_extend, ↓g_count, ↓ma_append, ↓len_put, ↓sl_take, ↓sl_drop, ↓x_app, ↓bc_range, ↓bc_int, ↓is_int_int, ↓is_int_bool, ↓is_str_str, ↓is_tup_tup, ↓is_bool_bool, ↓is_bool_int, ↓reduceIte, String.reduceEq, ↓Spot.d, ↓zturn_next, ↓eq_way_r, ↓rd_of q1, ↓rd_of q2]))
        refine ⟨flat_of q1 rfl, flat_of ?_ rfl⟩
        simp only [hlt, left1, Loc.set, if_true]; simp; omega
      · (repeat (first | refine seqN ?_ | simp only [↓x_nil, ↓x_cons, ↓seq_ret, ↓seq_cont, ↓turn_next, ↓turn_cont, ↓turn_ret, ↓x_assign, ↓x_ite, ↓x_loop_loc, ↓x_loop_bcall, ↓x_loop_call, ↓x_loop_item, ↓x_loop_tup, ↓x_loop_zip, ↓x_while, ↓x_ret, ↓x_cont, ↓x_expr, ↓x_raise, ↓e_none, ↓e_bool, ↓e_int, ↓e_str, ↓e_neg, ↓e_loc, ↓e_glob, ↓e_bin, ↓e_not, ↓e_and, ↓e_or, ↓e_cmp, ↓e_call, ↓e_bcall, ↓e_meth, ↓e_item, ↓e_slice, ↓e_tup, ↓e_list, ↓e_comp, ↓es_nil, ↓es_cons, ↓b_one, ↓b_and, ↓b_or, ↓a_nil, ↓a_and, ↓a_or, ↓cs_nil, ↓cs_cons, ↓c_one, ↓c_two, ↓t_not, ↓t_and, ↓t_or, ↓t_cmp, ↓t_call, ↓t_bcall, ↓t_loc, ↓tr_bool, ↓as_name, ↓as_2, ↓as_3, ↓sets_nil, ↓sets_cons, ↓ret_ret, ↓ret_next, ↓br_true, ↓br_false, ↓br_not, ↓rd_set, ↓rdi_0, ↓rdi_1, ↓g_len, ↓g_isinstance, ↓g_range, ↓g_int, ↓g_tuple, ↓g_list, ↓g_dict, ↓g_min, ↓g_all, ↓mt_count, ↓it_tup, ↓it_put, ↓bin_add, ↓bin_sub, ↓bin_mul, ↓bin_mod, ↓bin_div, ↓bin_tup, ↓cm_eq, ↓cm_ne, ↓cm_lt, ↓cm_le, ↓cm_gt, ↓cm_ge, ↓cm_in, ↓cm_nin, ↓eq_str, ↓eq_int, ↓in_strs, ↓bc_len_1, ↓bc_len_2, ↓lit_10, ↓lit_20, ↓lit_11, ↓lit_22, ↓mk_put, ↓g_append, ↓g_extend, ↓g_count, ↓ma_append, ↓len_put, ↓sl_take, ↓sl_drop, ↓x_app, ↓bc_range, ↓bc_int, ↓is_int_int, ↓is_int_bool, ↓is_str_str, ↓is_tup_tup, ↓is_bool_bool, ↓is_bool_int, ↓reduceIte, String.reduceEq, ↓Spot.d, ↓zturn_next, ↓eq_way_r, ↓rd_of q1, ↓rd_of q2, ↓bc_len ha' (by rw [lane_len]; omega)]))
        refine ⟨flat_of q1 rfl, flat_of ?_ rfl⟩
        simp only [hlt, left1, Loc.set, if_true, lane_len]; simp; omega
  · obtain ⟨q1, q2⟩ := e
    have hm : min (waysD ways).length (st.map Spot.d).length = ways.length := by rw [ways_len, List.length_map, G.len, Nat.min_self]
    rw [hm, List.take_length, ← G.len, List.take_length] at q2
    (repeat (first | refine seqN ?_ | simp only [↓x_nil, ↓x_cons, ↓seq_ret, ↓seq_cont, ↓turn_next, ↓turn_cont, ↓turn_ret, ↓x_assign, ↓x_ite, ↓x_loop_loc, ↓x_loop_bcall, ↓x_loop_call, ↓x_loop_item, ↓x_loop_tup, ↓x_loop_zip, ↓x_while, ↓x_ret, ↓x_cont, ↓x_expr, ↓x_raise, ↓e_none, ↓e_bool, ↓e_int, ↓e_str, ↓e_neg, ↓e_loc, ↓e_glob, ↓e_bin, ↓e_not, ↓e_and, ↓e_or, ↓e_cmp, ↓e_call, ↓e_bcall, ↓e_meth, ↓e_item, ↓e_slice, ↓e_tup, ↓e_list, ↓e_comp, ↓es_nil, ↓es_cons, ↓b_one, ↓b_and, ↓b_or, ↓a_nil, ↓a_and, ↓a_or, ↓cs_nil, ↓cs_cons, ↓c_one, ↓c_two, ↓t_not, ↓t_and, ↓t_or, ↓t_cmp, ↓t_call, ↓t_bcall, ↓t_loc, ↓tr_bool, ↓as_name, ↓as_2, ↓as_3, ↓sets_nil, ↓sets_cons, ↓ret_ret, ↓ret_next, ↓br_true, ↓br_false, ↓br_not, ↓rd_set, ↓rdi_0, ↓rdi_1, ↓g_len, ↓g_isinstance, ↓g_range, ↓g_int, ↓g_tuple, ↓g_list, ↓g_dict, ↓g_min, ↓g_all, ↓mt_count, ↓it_tup, ↓it_put, ↓bin_add, ↓bin_sub, ↓bin_mul, ↓bin_mod, ↓bin_div, ↓bin_tup, ↓cm_eq, ↓cm_ne, ↓cm_lt, ↓cm_le, ↓cm_gt, ↓cm_ge, ↓cm_in, ↓cm_nin, ↓eq_str, ↓eq_int, ↓in_strs, ↓bc_len_1, ↓bc_len_2, ↓lit_10, ↓lit_20, ↓lit_11, ↓lit_22, ↓mk_put, ↓g_append, ↓g_extend, ↓g_count, ↓ma_append, ↓len_put, ↓sl_take, ↓sl_drop, ↓x_app, ↓bc_range, ↓bc_int, ↓is_int_int, ↓is_int_bool, ↓is_str_str, ↓is_tup_tup, ↓is_bool_bool, ↓is_bool_int, ↓reduceIte, String.reduceEq, ↓rd_of q2]))
    exact h
theorem c_allowed (H : Core K) (F : Fn K "allowed" p_allowed b_allowed) (ha : σ a = some (.list (laneD lane))) (hb : σ b = some (.list (waysD ways))) (G : Good lane ways st)
    (h : ∀ r σ', Ext σ σ' → σ r = none → σ' r = some (.list ((allMoves lane ways st).map moveD)) → Q (.ref r) σ') : (K (n + 4)).call "allowed" [.ref a, .ref b, standD st] σ Q := by
  refine F.run _ _ _ _ rfl ?_
  (repeat (first | refine seqN ?_ | simp only [↓x_nil, ↓x_cons, ↓seq_ret, ↓seq_cont, ↓turn_next, ↓turn_cont, ↓turn_ret, ↓x_assign, ↓x_ite, ↓x_loop_loc, ↓x_loop_bcall, ↓x_loop_call, ↓x_loop_item, ↓x_loop_tup, ↓x_loop_zip, ↓x_while, ↓x_ret, ↓x_cont, ↓x_expr, ↓x_raise, ↓e_none, ↓e_bool, ↓e_int, ↓e_str, ↓e_neg, ↓e_loc, ↓e_glob, ↓e_bin, ↓e_not, ↓e_and, ↓e_or, ↓e_cmp, ↓e_call, ↓e_bcall, ↓e_meth, ↓e_item, ↓e_slice, ↓e_tup, ↓e_list, ↓e_comp, ↓es_nil, ↓es_cons, ↓b_one, ↓b_and, ↓b_or, ↓a_nil, ↓a_and, ↓a_or, ↓cs_nil, ↓cs_cons, ↓c_one, ↓c_two, ↓t_not, ↓t_and, ↓t_or, ↓t_cmp, ↓t_call, ↓t_bcall, ↓t_loc, ↓tr_bool, ↓as_name, ↓as_2, ↓as_3, ↓sets_nil, ↓sets_cons, ↓ret_ret, ↓ret_next, ↓br_true, ↓br_false, ↓br_not, ↓rd_set, ↓rdi_0, ↓rdi_1, ↓g_len, ↓g_isinstance, ↓g_range, ↓g_int, ↓g_tuple, ↓g_list, ↓g_dict, ↓g_min, ↓g_all, ↓mt_count, ↓it_tup, ↓it_put, ↓bin_add, ↓bin_sub, ↓bin_mul, ↓bin_mod, ↓bin_div, ↓bin_tup, ↓cm_eq, ↓cm_ne, ↓cm_lt, ↓cm_le, ↓cm_gt, ↓cm_ge, ↓cm_in, ↓cm_nin, ↓eq_str, ↓eq_int, ↓in_strs, ↓bc_len_1, ↓bc_len_2, ↓lit_10, ↓lit_20, ↓lit_11, ↓lit_22, ↓mk_put, ↓g_append, ↓g_extend, ↓g_count, ↓ma_append, ↓len_put, ↓sl_take, ↓sl_drop, ↓x_app, ↓bc_range, ↓bc_int, ↓is_int_int, ↓is_int_bool, ↓is_str_str, ↓is_tup_tup, ↓is_bool_bool, ↓is_bool_int, ↓reduceIte, String.reduceEq, ↓b_allowed, ↓p_allowed, ↓H.need_stand.gate, ↓H.all_moves.gate]))
  refine c_need_stand H ha hb G ?_
  (repeat (first | refine seqN ?_ | simp only [↓x_nil, ↓x_cons, ↓seq_ret, ↓seq_cont, ↓turn_next, ↓turn_cont, ↓turn_ret, ↓x_assign, ↓x_ite, ↓x_loop_loc, ↓x_loop_bcall, ↓x_loop_call, ↓x_loop_item, ↓x_loop_tup, ↓x_loop_zip, ↓x_while, ↓x_ret, ↓x_cont, ↓x_expr, ↓x_raise, ↓e_none, ↓e_bool, ↓e_int, ↓e_str, ↓e_neg, ↓e_loc, ↓e_glob, ↓e_bin, ↓e_not, ↓e_and, ↓e_or, ↓e_cmp, ↓e_call, ↓e_bcall, ↓e_meth, ↓e_item, ↓e_slice, ↓e_tup, ↓e_list, ↓e_comp, ↓es_nil, ↓es_cons, ↓b_one, ↓b_and, ↓b_or, ↓a_nil, ↓a_and, ↓a_or, ↓cs_nil, ↓cs_cons, ↓c_one, ↓c_two, ↓t_not, ↓t_and, ↓t_or, ↓t_cmp, ↓t_call, ↓t_bcall, ↓t_loc, ↓tr_bool, ↓as_name, ↓as_2, ↓as_3, ↓sets_nil, ↓sets_cons, ↓ret_ret, ↓ret_next, ↓br_true, ↓br_false, ↓br_not, ↓rd_set, ↓rdi_0, ↓rdi_1, ↓g_len, ↓g_isinstance, ↓g_range, ↓g_int, ↓g_tuple, ↓g_list, ↓g_dict, ↓g_min, ↓g_all, ↓mt_count, ↓it_tup, ↓it_put, ↓bin_add, ↓bin_sub, ↓bin_mul, ↓bin_mod, ↓bin_div, ↓bin_tup, ↓cm_eq, ↓cm_ne, ↓cm_lt, ↓cm_le, ↓cm_gt, ↓cm_ge, ↓cm_in, ↓cm_nin, ↓eq_str, ↓eq_int, ↓in_strs, ↓bc_len_1, ↓bc_len_2, ↓lit_10, ↓lit_20, ↓lit_11, ↓lit_22, ↓mk_put, ↓g_append, ↓g_extend, ↓g_count, ↓ma_append, ↓len_put, ↓sl_take, ↓sl_drop, ↓x_app, ↓bc_range, ↓bc_int, ↓is_int_int, ↓is_int_bool, ↓is_str_str, ↓is_tup_tup, ↓is_bool_bool, ↓is_bool_int, ↓reduceIte, String.reduceEq, ↓H.all_moves.gate]))
  refine c_all_moves H ha hb G fun r σ' h1 h2 h3 => ?_
  exact h r σ' h1 h2 h3
theorem c_is_form (H : Core K) (F : Fn K "is_form" p_is_form b_is_form) {m : Move} (h : Q (.bool true) σ) : (K (n + 1)).call "is_form" [moveD m] σ Q := by
  refine F.run _ _ _ _ rfl ?_
  obtain ⟨w, t⟩ := m
  cases w <;> (repeat (first | refine seqN ?_ | simp only [↓x_nil, ↓x_cons, ↓seq_ret, ↓seq_cont, ↓turn_next, ↓turn_cont, ↓turn_ret, ↓x_assign, ↓x_ite, ↓x_loop_loc, ↓x_loop_bcall, ↓x_loop_call, ↓x_loop_item, ↓x_loop_tup, ↓x_loop_zip, ↓x_while, ↓x_ret, ↓x_cont, ↓x_expr, ↓x_raise, ↓e_none, ↓e_bool, ↓e_int, ↓e_str, ↓e_neg, ↓e_loc, ↓e_glob, ↓e_bin, ↓e_not, ↓e_and, ↓e_or, ↓e_cmp, ↓e_call, ↓e_bcall, ↓e_meth, ↓e_item, ↓e_slice, ↓e_tup, ↓e_list, ↓e_comp, ↓es_nil, ↓es_cons, ↓b_one, ↓b_and, ↓b_or, ↓a_nil, ↓a_and, ↓a_or, ↓cs_nil, ↓cs_cons, ↓c_one, ↓c_two, ↓t_not, ↓t_and, ↓t_or, ↓t_cmp, ↓t_call, ↓t_bcall, ↓t_loc, ↓tr_bool, ↓as_name, ↓as_2, ↓as_3, ↓sets_nil, ↓sets_cons, ↓ret_ret, ↓ret_next, ↓br_true, ↓br_false, ↓br_not, ↓rd_set, ↓rdi_0, ↓rdi_1, ↓g_len, ↓g_isinstance, ↓g_range, ↓g_int, ↓g_tuple, ↓g_list, ↓g_dict, ↓g_min, ↓g_all, ↓mt_count, ↓it_tup, ↓it_put, ↓bin_add, ↓bin_sub, ↓bin_mul, ↓bin_mod, ↓bin_div, ↓bin_tup, ↓cm_eq, ↓cm_ne, ↓cm_lt, ↓cm_le, ↓cm_gt, ↓cm_ge, ↓cm_in, ↓cm_nin, ↓eq_str, ↓eq_int, ↓in_strs, ↓bc_len_1, ↓bc_len_2, ↓lit_10, ↓lit_20, ↓lit_11, ↓lit_22, ↓mk_put, ↓g_append, ↓g_extend, ↓g_count, ↓ma_append, ↓len_put, ↓sl_take, ↓sl_drop, ↓x_app, ↓bc_range, ↓bc_int, ↓is_int_int, ↓is_int_bool, ↓is_str_str, ↓is_tup_tup, ↓is_bool_bool, ↓is_bool_int, ↓reduceIte, String.reduceEq, ↓b_is_form, ↓p_is_form, ↓moveD, ↓Word.d, ↓H.tuple, ↓H.str, ↓H.int, ↓H.bool]))
  all_goals exact h
theorem c_behind (H : Core K) (F : Fn K "behind" p_behind b_behind) (F1 : Fn K "is_form" p_is_form b_is_form) {m : Move} (ha : σ a = some (.list (laneD lane))) (hb : σ b = some (.list (waysD ways))) (G : Good lane ways st) (hm : m ∈ allMoves lane ways st)
    (h : ∀ σ', Ext σ σ' → Q (standD (afterOf lane ways st m)) σ') : (K (n + 4)).call "behind" [.ref a, .ref b, standD st, moveD m] σ Q := by
  refine F.run _ _ _ _ rfl ?_
  (repeat (first | refine seqN ?_ | simp only [↓x_nil, ↓x_cons, ↓seq_ret, ↓seq_cont, ↓turn_next, ↓turn_cont, ↓turn_ret, ↓x_assign, ↓x_ite, ↓x_loop_loc, ↓x_loop_bcall, ↓x_loop_call, ↓x_loop_item, ↓x_loop_tup, ↓x_loop_zip, ↓x_while, ↓x_ret, ↓x_cont, ↓x_expr, ↓x_raise, ↓e_none, ↓e_bool, ↓e_int, ↓e_str, ↓e_neg, ↓e_loc, ↓e_glob, ↓e_bin, ↓e_not, ↓e_and, ↓e_or, ↓e_cmp, ↓e_call, ↓e_bcall, ↓e_meth, ↓e_item, ↓e_slice, ↓e_tup, ↓e_list, ↓e_comp, ↓es_nil, ↓es_cons, ↓b_one, ↓b_and, ↓b_or, ↓a_nil, ↓a_and, ↓a_or, ↓cs_nil, ↓cs_cons, ↓c_one, ↓c_two, ↓t_not, ↓t_and, ↓t_or, ↓t_cmp, ↓t_call, ↓t_bcall, ↓t_loc, ↓tr_bool, ↓as_name, ↓as_2, ↓as_3, ↓sets_nil, ↓sets_cons, ↓ret_ret, ↓ret_next, ↓br_true, ↓br_false, ↓br_not, ↓rd_set, ↓rdi_0, ↓rdi_1, ↓g_len, ↓g_isinstance, ↓g_range, ↓g_int, ↓g_tuple, ↓g_list, ↓g_dict, ↓g_min, ↓g_all, ↓mt_count, ↓it_tup, ↓it_put, ↓bin_add, ↓bin_sub, ↓bin_mul, ↓bin_mod, ↓bin_div, ↓bin_tup, ↓cm_eq, ↓cm_ne, ↓cm_lt, ↓cm_le, ↓cm_gt, ↓cm_ge, ↓cm_in, ↓cm_nin, ↓eq_str, ↓eq_int, ↓in_strs, ↓bc_len_1, ↓bc_len_2, ↓lit_10, ↓lit_20, ↓lit_11, ↓lit_22, ↓mk_put, ↓g_append, ↓g_extend, ↓g_count, ↓ma_append, ↓len_put, ↓sl_take, ↓sl_drop, ↓x_app, ↓bc_range, ↓bc_int, ↓is_int_int, ↓is_int_bool, ↓is_str_str, ↓is_tup_tup, ↓is_bool_bool, ↓is_bool_int, ↓reduceIte, String.reduceEq, ↓b_behind, ↓p_behind, ↓H.need_stand.gate, ↓H.all_moves.gate, ↓F1.gate, ↓H.after.gate]))
  refine c_need_stand H ha hb G ?_
  (repeat (first | refine seqN ?_ | simp only [↓x_nil, ↓x_cons, ↓seq_ret, ↓seq_cont, ↓turn_next, ↓turn_cont, ↓turn_ret, ↓x_assign, ↓x_ite, ↓x_loop_loc, ↓x_loop_bcall, ↓x_loop_call, ↓x_loop_item, ↓x_loop_tup, ↓x_loop_zip, ↓x_while, ↓x_ret, ↓x_cont, ↓x_expr, ↓x_raise, ↓e_none, ↓e_bool, ↓e_int, ↓e_str, ↓e_neg, ↓e_loc, ↓e_glob, ↓e_bin, ↓e_not, ↓e_and, ↓e_or, ↓e_cmp, ↓e_call, ↓e_bcall, ↓e_meth, ↓e_item, ↓e_slice, ↓e_tup, ↓e_list, ↓e_comp, ↓es_nil, ↓es_cons, ↓b_one, ↓b_and, ↓b_or, ↓a_nil, ↓a_and, ↓a_or, ↓cs_nil, ↓cs_cons, ↓c_one, ↓c_two, ↓t_not, ↓t_and, ↓t_or, ↓t_cmp, ↓t_call, ↓t_bcall, ↓t_loc, ↓tr_bool, ↓as_name, ↓as_2, ↓as_3, ↓sets_nil, ↓sets_cons, ↓ret_ret, ↓ret_next, ↓br_true, ↓br_false, ↓br_not, ↓rd_set, ↓rdi_0, ↓rdi_1, ↓g_len, ↓g_isinstance, ↓g_range, ↓g_int, ↓g_tuple, ↓g_list, ↓g_dict, ↓g_min, ↓g_all, ↓mt_count, ↓it_tup, ↓it_put, ↓bin_add, ↓bin_sub, ↓bin_mul, ↓bin_mod, ↓bin_div, ↓bin_tup, ↓cm_eq, ↓cm_ne, ↓cm_lt, ↓cm_le, ↓cm_gt, ↓cm_ge, ↓cm_in, ↓cm_nin, ↓eq_str, ↓eq_int, ↓in_strs, ↓bc_len_1, ↓bc_len_2, ↓lit_10, ↓lit_20, ↓lit_11, ↓lit_22, ↓mk_put, ↓g_append, ↓g_extend, ↓g_count, ↓ma_append, ↓len_put, ↓sl_take, ↓sl_drop, ↓x_app, ↓bc_range, ↓bc_int, ↓is_int_int, ↓is_int_bool, ↓is_str_str, ↓is_tup_tup, ↓is_bool_bool, ↓is_bool_int, ↓reduceIte, String.reduceEq, ↓F1.gate]))
  refine c_is_form H F1 ?_
  (repeat (first | refine seqN ?_ | simp only [↓x_nil, ↓x_cons, ↓seq_ret, ↓seq_cont, ↓turn_next, ↓turn_cont, ↓turn_ret, ↓x_assign, ↓x_ite, ↓x_loop_loc, ↓x_loop_bcall, ↓x_loop_call, ↓x_loop_item, ↓x_loop_tup, ↓x_loop_zip, ↓x_while, ↓x_ret, ↓x_cont, ↓x_expr, ↓x_raise, ↓e_none, ↓e_bool, ↓e_int, ↓e_str, ↓e_neg, ↓e_loc, ↓e_glob, ↓e_bin, ↓e_not, ↓e_and, ↓e_or, ↓e_cmp, ↓e_call, ↓e_bcall, ↓e_meth, ↓e_item, ↓e_slice, ↓e_tup, ↓e_list, ↓e_comp, ↓es_nil, ↓es_cons, ↓b_one, ↓b_and, ↓b_or, ↓a_nil, ↓a_and, ↓a_or, ↓cs_nil, ↓cs_cons, ↓c_one, ↓c_two, ↓t_not, ↓t_and, ↓t_or, ↓t_cmp, ↓t_call, ↓t_bcall, ↓t_loc, ↓tr_bool, ↓as_name, ↓as_2, ↓as_3, ↓sets_nil, ↓sets_cons, ↓ret_ret, ↓ret_next, ↓br_true, ↓br_false, ↓br_not, ↓rd_set, ↓rdi_0, ↓rdi_1, ↓g_len, ↓g_isinstance, ↓g_range, ↓g_int, ↓g_tuple, ↓g_list, ↓g_dict, ↓g_min, ↓g_all, ↓mt_count, ↓it_tup, ↓it_put, ↓bin_add, ↓bin_sub, ↓bin_mul, ↓bin_mod, ↓bin_div, ↓bin_tup, ↓cm_eq, ↓cm_ne, ↓cm_lt, ↓cm_le, ↓cm_gt, ↓cm_ge, ↓cm_in, ↓cm_nin, ↓eq_str, ↓eq_int, ↓in_strs, ↓bc_len_1, ↓bc_len_2, ↓lit_10, ↓lit_20, ↓lit_11, ↓lit_22, ↓mk_put, ↓g_append, ↓g_extend, ↓g_count, ↓ma_append, ↓len_put, ↓sl_take, ↓sl_drop, ↓x_app, ↓bc_range, ↓bc_int, ↓is_int_int, ↓is_int_bool, ↓is_str_str, ↓is_tup_tup, ↓is_bool_bool, ↓is_bool_int, ↓reduceIte, String.reduceEq, ↓H.all_moves.gate]))
  refine c_all_moves H ha hb G fun r σ' h1 h2 h3 => ?_
  (repeat (first | refine seqN ?_ | simp only [↓x_nil, ↓x_cons, ↓seq_ret, ↓seq_cont, ↓turn_next, ↓turn_cont, ↓turn_ret, ↓x_assign, ↓x_ite, ↓x_loop_loc, ↓x_loop_bcall, ↓x_loop_call, ↓x_loop_item, ↓x_loop_tup, ↓x_loop_zip, ↓x_while, ↓x_ret, ↓x_cont, ↓x_expr, ↓x_raise, ↓e_none, ↓e_bool, ↓e_int, ↓e_str, ↓e_neg, ↓e_loc, ↓e_glob, ↓e_bin, ↓e_not, ↓e_and, ↓e_or, ↓e_cmp, ↓e_call, ↓e_bcall, ↓e_meth, ↓e_item, ↓e_slice, ↓e_tup, ↓e_list, ↓e_comp, ↓es_nil, ↓es_cons, ↓b_one, ↓b_and, ↓b_or, ↓a_nil, ↓a_and, ↓a_or, ↓cs_nil, ↓cs_cons, ↓c_one, ↓c_two, ↓t_not, ↓t_and, ↓t_or, ↓t_cmp, ↓t_call, ↓t_bcall, ↓t_loc, ↓tr_bool, ↓as_name, ↓as_2, ↓as_3, ↓sets_nil, ↓sets_cons, ↓ret_ret, ↓ret_next, ↓br_true, ↓br_false, ↓br_not, ↓rd_set, ↓rdi_0, ↓rdi_1, ↓g_len, ↓g_isinstance, ↓g_range, ↓g_int, ↓g_tuple, ↓g_list, ↓g_dict, ↓g_min, ↓g_all, ↓mt_count, ↓it_tup, ↓it_put, ↓bin_add, ↓bin_sub, ↓bin_mul, ↓bin_mod, ↓bin_div, ↓bin_tup, ↓cm_eq, ↓cm_ne, ↓cm_lt, ↓cm_le, ↓cm_gt, ↓cm_ge, ↓cm_in, ↓cm_nin, ↓eq_str, ↓eq_int, ↓in_strs, ↓bc_len_1, ↓bc_len_2, ↓lit_10, ↓lit_20, ↓lit_11, ↓lit_22, ↓mk_put, ↓g_append, ↓g_extend, ↓g_count, ↓ma_append, ↓len_put, ↓sl_take, ↓sl_drop, ↓x_app, ↓bc_range, ↓bc_int, ↓is_int_int, ↓is_int_bool, ↓is_str_str, ↓is_tup_tup, ↓is_bool_bool, ↓is_bool_int, ↓reduceIte, String.reduceEq, ↓in_list h3 (move_pure m) (moves_pure _), ↓any_move, ↓br_pos hm, ↓H.after.gate]))
  refine c_after H (h1 _ _ ha) (h1 _ _ hb) G hm ?_
  exact h σ' h1
theorem c_whole (H : Core K) (F : Fn K "_law_whole" p_law_whole b_law_whole) {i : Int} (h : Q (.bool true) σ) : (K (n + 1)).call "_law_whole" [.int i] σ Q := by
  refine F.run _ _ _ _ rfl ?_
  (repeat (first | refine seqN ?_ | simp only [↓x_nil, ↓x_cons, ↓seq_ret, ↓seq_cont, ↓turn_next, ↓turn_cont, ↓turn_ret, ↓x_assign, ↓x_ite, ↓x_loop_loc, ↓x_loop_bcall, ↓x_loop_call, ↓x_loop_item, ↓x_loop_tup, ↓x_loop_zip, ↓x_while, ↓x_ret, ↓x_cont, ↓x_expr, ↓x_raise, ↓e_none, ↓e_bool, ↓e_int, ↓e_str, ↓e_neg, ↓e_loc, ↓e_glob, ↓e_bin, ↓e_not, ↓e_and, ↓e_or, ↓e_cmp, ↓e_call, ↓e_bcall, ↓e_meth, ↓e_item, ↓e_slice, ↓e_tup, ↓e_list, ↓e_comp, ↓es_nil, ↓es_cons, ↓b_one, ↓b_and, ↓b_or, ↓a_nil, ↓a_and, ↓a_or, ↓cs_nil, ↓cs_cons, ↓c_one, ↓c_two, ↓t_not, ↓t_and, ↓t_or, ↓t_cmp, ↓t_call, ↓t_bcall, ↓t_loc, ↓tr_bool, ↓as_name, ↓as_2, ↓as_3, ↓sets_nil, ↓sets_cons, ↓ret_ret, ↓ret_next, ↓br_true, ↓br_false, ↓br_not, ↓rd_set, ↓rdi_0, ↓rdi_1, ↓g_len, ↓g_isinstance, ↓g_range, ↓g_int, ↓g_tuple, ↓g_list, ↓g_dict, ↓g_min, ↓g_all, ↓mt_count, ↓it_tup, ↓it_put, ↓bin_add, ↓bin_sub, ↓bin_mul, ↓bin_mod, ↓bin_div, ↓bin_tup, ↓cm_eq, ↓cm_ne, ↓cm_lt, ↓cm_le, ↓cm_gt, ↓cm_ge, ↓cm_in, ↓cm_nin, ↓eq_str, ↓eq_int, ↓in_strs, ↓bc_len_1, ↓bc_len_2, ↓lit_10, ↓lit_20, ↓lit_11, ↓lit_22, ↓mk_put, ↓g_append, ↓g_extend, ↓g_count, ↓ma_append, ↓len_put, ↓sl_take, ↓sl_drop, ↓x_app, ↓bc_range, ↓bc_int, ↓is_int_int, ↓is_int_bool, ↓is_str_str, ↓is_tup_tup, ↓is_bool_bool, ↓is_bool_int, ↓reduceIte, String.reduceEq, ↓b_law_whole, ↓p_law_whole, ↓H.int, ↓H.bool]))
  exact h
theorem rdi_b2i' {x y : Int} {b : Bool} {F : D → Prop} : rdi [.int x, .int y] (b2i b) F = F (.int (if b then y else x)) := by
  cases b
  · exact rdi_0
  · exact rdi_1
theorem c_left (H : Core K) (F : Fn K "_law_left" p_law_left b_law_left) (ha : σ a = some (.list (laneD lane))) (hb : σ b = some (.list (waysD ways))) (G : Good lane ways st)
    (h : ∀ σ', Ext σ σ' → Q (.int (leftOf lane.length ways st : Nat)) σ') : (K (n + 1)).call "_law_left" [.ref a, .ref b, standD st] σ Q := by
  refine F.run _ _ _ _ rfl ?_
  have h8 := G.l8
  have h6 := G.w6
  have hl := G.len
  have hsl : (st.map Spot.d).length = ways.length := by rw [List.length_map, hl]
  (repeat (first | refine seqN ?_ | simp only [↓x_nil, ↓x_cons, ↓seq_ret, ↓seq_cont, ↓turn_next, ↓turn_cont, ↓turn_ret, ↓x_assign, ↓x_ite, ↓x_loop_loc, ↓x_loop_bcall, ↓x_loop_call, ↓x_loop_item, ↓x_loop_tup, ↓x_loop_zip, ↓x_while, ↓x_ret, ↓x_cont, ↓x_expr, ↓x_raise, ↓e_none, ↓e_bool, ↓e_int, ↓e_str, ↓e_neg, ↓e_loc, ↓e_glob, ↓e_bin, ↓e_not, ↓e_and, ↓e_or, ↓e_cmp, ↓e_call, ↓e_bcall, ↓e_meth, ↓e_item, ↓e_slice, ↓e_tup, ↓e_list, ↓e_comp, ↓es_nil, ↓es_cons, ↓b_one, ↓b_and, ↓b_or, ↓a_nil, ↓a_and, ↓a_or, ↓cs_nil, ↓cs_cons, ↓c_one, ↓c_two, ↓t_not, ↓t_and, ↓t_or, ↓t_cmp, ↓t_call, ↓t_bcall, ↓t_loc, ↓tr_bool, ↓as_name, ↓as_2, ↓as_3, ↓sets_nil, ↓sets_cons, ↓ret_ret, ↓ret_next, ↓br_true, ↓br_false, ↓br_not, ↓rd_set, ↓rdi_0, ↓rdi_1, ↓g_len, ↓g_isinstance, ↓g_range, ↓g_int, ↓g_tuple, ↓g_list, ↓g_dict, ↓g_min, ↓g_all, ↓mt_count, ↓it_tup, ↓it_put, ↓bin_add, ↓bin_sub, ↓bin_mul, ↓bin_mod, ↓bin_div, ↓bin_tup, ↓cm_eq, ↓cm_ne, ↓cm_lt, ↓cm_le, ↓cm_gt, ↓cm_ge, ↓cm_in, ↓cm_nin, ↓eq_str, ↓eq_int, ↓in_strs, ↓bc_len_1, ↓bc_len_2, ↓lit_10, ↓lit_20, ↓lit_11, ↓lit_22, ↓mk_put, ↓g_append, ↓g_extend, ↓g_count, ↓ma_append, ↓len_put, ↓sl_take, ↓sl_drop, ↓x_app, ↓bc_range, ↓bc_int, ↓is_int_int, ↓is_int_bool, ↓is_str_str, ↓is_tup_tup, ↓is_bool_bool, ↓is_bool_int, ↓reduceIte, String.reduceEq, ↓b_law_left, ↓p_law_left, ↓standD, ↓bc_len_t (show (st.map Spot.d).length < 2 ^ 62 by omega), ↓need_of (show (0 : Int) ≤ (st.map Spot.d).length ∧ ((st.map Spot.d).length : Int) < 2 ^ 62 by omega)]))
  rw [Int.toNat_natCast, hsl]
  refine range_of (fun i ρ' σ' => Ext σ σ' ∧ ρ' "_law_lane" = some (.ref a) ∧ ρ' "_law_ways" = some (.ref b) ∧ ρ' "_law_stand" = some (.tup (st.map Spot.d)) ∧ ρ' "_law_total" = some (.int (leftOf lane.length (ways.take i) (st.take i) : Nat))) (le_line h6) ⟨Ext.refl _, rfl, rfl, rfl, rfl⟩ (fun i ρ' σ' hi e => ?_) (fun ρ' σ' e => ?_)
  · obtain ⟨hE, q1, q2, q3, q4⟩ := e
    have hw := way_at hi
    have hs := getD_at (xs := st) (d := .out) (by omega : i < st.length)
    have hlt := left_take (L := lane.length) hw hs
    have hf := G.fits _ (List.mem_of_getElem? hs)
    have hs' := at_map (f := Spot.d) hs
    have ha' := hE _ _ ha
    have hb' := hE _ _ hb
    have hw' := way_of hi
    generalize st.getD i .out = s at hs hlt hf hs'
    generalize ways.getD i true = w at hw hlt hw'
    cases s with
    | out =>
      (repeat (first | refine seqN ?_ | simp only [↓x_nil, ↓x_cons, ↓seq_ret, ↓seq_cont, ↓turn_next, ↓turn_cont, ↓turn_ret, ↓x_assign, ↓x_ite, ↓x_loop_loc, ↓x_loop_bcall, ↓x_loop_call, ↓x_loop_item, ↓x_loop_tup, ↓x_loop_zip, ↓x_while, ↓x_ret, ↓x_cont, ↓x_expr, ↓x_raise, ↓e_none, ↓e_bool, ↓e_int, ↓e_str, ↓e_neg, ↓e_loc, ↓e_glob, ↓e_bin, ↓e_not, ↓e_and, ↓e_or, ↓e_cmp, ↓e_call, ↓e_bcall, ↓e_meth, ↓e_item, ↓e_slice, ↓e_tup, ↓e_list, ↓e_comp, ↓es_nil, ↓es_cons, ↓b_one, ↓b_and, ↓b_or, ↓a_nil, ↓a_and, ↓a_or, ↓cs_nil, ↓cs_cons, ↓c_one, ↓c_two, ↓t_not, ↓t_and, ↓t_or, ↓t_cmp, ↓t_call, ↓t_bcall, ↓t_loc, ↓tr_bool, ↓as_name, ↓as_2, ↓as_3, ↓sets_nil, ↓sets_cons, ↓ret_ret, ↓ret_next, ↓br_true, ↓br_false, ↓br_not, ↓rd_set, ↓rdi_0, ↓rdi_1, ↓g_len, ↓g_isinstance, ↓g_range, ↓g_int, ↓g_tuple, ↓g_list, ↓g_dict, ↓g_min, ↓g_all, ↓mt_count, ↓it_tup, ↓it_put, ↓bin_add, ↓bin_sub, ↓bin_mul, ↓bin_mod, ↓bin_div, ↓bin_tup, ↓cm_eq, ↓cm_ne, ↓cm_lt, ↓cm_le, ↓cm_gt, ↓cm_ge, ↓cm_in, ↓cm_nin, ↓eq_str, ↓eq_int, ↓in_strs, ↓bc_len_1, ↓bc_len_2, ↓lit_10, ↓lit_20, ↓lit_11, ↓lit_22, ↓mk_put, ↓g_append, ↓g_extend, ↓g_count, ↓ma_append, ↓len_put, ↓sl_take, ↓sl_drop, ↓x_app, ↓bc_range, ↓bc_int, ↓is_int_int, ↓is_int_bool, ↓is_str_str, ↓is_tup_tup, ↓is_bool_bool, ↓is_bool_int, ↓reduceIte, String.reduceEq, ↓rd_of q1, ↓rd_of q2, ↓rd_of q3, ↓rd_of q4, ↓rdi_of hs' (lt63 hi h6), ↓Spot.d]))
      refine ⟨hE, q1, q2, q3, ?_⟩
      rw [hlt]; exact q4
    | lane p =>
      simp only [Spot.fits] at hf
      (repeat (first | refine seqN ?_ | simp only [↓x_nil, ↓x_cons, ↓seq_ret, ↓seq_cont, ↓turn_next, ↓turn_cont, ↓turn_ret, ↓x_assign, ↓x_ite, ↓x_loop_loc, ↓x_loop_bcall, ↓x_loop_call, ↓x_loop_item, ↓x_loop_tup, ↓x_loop_zip, ↓x_while, ↓x_ret, ↓x_cont, ↓x_expr, ↓x_raise, ↓e_none, ↓e_bool, ↓e_int, ↓e_str, ↓e_neg, ↓e_loc, ↓e_glob, ↓e_bin, ↓e_not, ↓e_and, ↓e_or, ↓e_cmp, ↓e_call, ↓e_bcall, ↓e_meth, ↓e_item, ↓e_slice, ↓e_tup, ↓e_list, ↓e_comp, ↓es_nil, ↓es_cons, ↓b_one, ↓b_and, ↓b_or, ↓a_nil, ↓a_and, ↓a_or, ↓cs_nil, ↓cs_cons, ↓c_one, ↓c_two, ↓t_not, ↓t_and, ↓t_or, ↓t_cmp, ↓t_call, ↓t_bcall, ↓t_loc, ↓tr_bool, ↓as_name, ↓as_2, ↓as_3, ↓sets_nil, ↓sets_cons, ↓ret_ret, ↓ret_next, ↓br_true, ↓br_false, ↓br_not, ↓rd_set, ↓rdi_0, ↓rdi_1, ↓g_len, ↓g_isinstance, ↓g_range, ↓g_int, ↓g_tuple, ↓g_list, ↓g_dict, ↓g_min, ↓g_all, ↓mt_count, ↓it_tup, ↓it_put, ↓bin_add, ↓bin_sub, ↓bin_mul, ↓bin_mod, ↓bin_div, ↓bin_tup, ↓cm_eq, ↓cm_ne, ↓cm_lt, ↓cm_le, ↓cm_gt, ↓cm_ge, ↓cm_in, ↓cm_nin, ↓eq_str, ↓eq_int, ↓in_strs, ↓bc_len_1, ↓bc_len_2, ↓lit_10, ↓lit_20, ↓lit_11, ↓lit_22, ↓mk_put, ↓g_append, ↓g_extend, ↓g_count, ↓ma_append, ↓len_put, ↓sl_take, ↓sl_drop, ↓x_app, ↓bc_range, ↓bc_int, ↓is_int_int, ↓is_int_bool, ↓is_str_str, ↓is_tup_tup, ↓is_bool_bool, ↓is_bool_int, ↓reduceIte, String.reduceEq, ↓rd_of q1, ↓rd_of q2, ↓rd_of q3, ↓rd_of q4, ↓rdi_of hs' (lt63 hi h6), ↓Spot.d, ↓bc_lane ha' h8]))
      intro r hr
      have hb2 := (Ext.put (c := .list [D.int ((p : Int) + 1), D.int ((lane.length : Nat) - (p : Int))]) (Ext.refl _) hr) _ _ hb'
      (repeat (first | refine seqN ?_ | simp only [↓x_nil, ↓x_cons, ↓seq_ret, ↓seq_cont, ↓turn_next, ↓turn_cont, ↓turn_ret, ↓x_assign, ↓x_ite, ↓x_loop_loc, ↓x_loop_bcall, ↓x_loop_call, ↓x_loop_item, ↓x_loop_tup, ↓x_loop_zip, ↓x_while, ↓x_ret, ↓x_cont, ↓x_expr, ↓x_raise, ↓e_none, ↓e_bool, ↓e_int, ↓e_str, ↓e_neg, ↓e_loc, ↓e_glob, ↓e_bin, ↓e_not, ↓e_and, ↓e_or, ↓e_cmp, ↓e_call, ↓e_bcall, ↓e_meth, ↓e_item, ↓e_slice, ↓e_tup, ↓e_list, ↓e_comp, ↓es_nil, ↓es_cons, ↓b_one, ↓b_and, ↓b_or, ↓a_nil, ↓a_and, ↓a_or, ↓cs_nil, ↓cs_cons, ↓c_one, ↓c_two, ↓t_not, ↓t_and, ↓t_or, ↓t_cmp, ↓t_call, ↓t_bcall, ↓t_loc, ↓tr_bool, ↓as_name, ↓as_2, ↓as_3, ↓sets_nil, ↓sets_cons, ↓ret_ret, ↓ret_next, ↓br_true, ↓br_false, ↓br_not, ↓rd_set, ↓rdi_0, ↓rdi_1, ↓g_len, ↓g_isinstance, ↓g_range, ↓g_int, ↓g_tuple, ↓g_list, ↓g_dict, ↓g_min, ↓g_all, ↓mt_count, ↓it_tup, ↓it_put, ↓bin_add, ↓bin_sub, ↓bin_mul, ↓bin_mod, ↓bin_div, ↓bin_tup, ↓cm_eq, ↓cm_ne, ↓cm_lt, ↓cm_le, ↓cm_gt, ↓cm_ge, ↓cm_in, ↓cm_nin, ↓eq_str, ↓eq_int, ↓in_strs, ↓bc_len_1, ↓bc_len_2, ↓lit_10, ↓lit_20, ↓lit_11, ↓lit_22, ↓mk_put, ↓g_append, ↓g_extend, ↓g_count, ↓ma_append, ↓len_put, ↓sl_take, ↓sl_drop, ↓x_app, ↓bc_range, ↓bc_int, ↓is_int_int, ↓is_int_bool, ↓is_str_str, ↓is_tup_tup, ↓is_bool_bool, ↓is_bool_int, ↓reduceIte, String.reduceEq, ↓rd_of q2, ↓it_l hb2, ↓rdi_of hw' (lt63 hi h6), ↓eq_way_r, ↓rdi_b2i']))
      refine ⟨Ext.put hE (hE.none hr), q1, q2, q3, ?_⟩
      simp only [hlt, left1, Loc.set, if_true, lane_len]
      cases w <;> simp <;> omega
    | side p =>
      simp only [Spot.fits] at hf
      (repeat (first | refine seqN ?_ | simp only [↓x_nil, ↓x_cons, ↓seq_ret, ↓seq_cont, ↓turn_next, ↓turn_cont, ↓turn_ret, ↓x_assign, ↓x_ite, ↓x_loop_loc, ↓x_loop_bcall, ↓x_loop_call, ↓x_loop_item, ↓x_loop_tup, ↓x_loop_zip, ↓x_while, ↓x_ret, ↓x_cont, ↓x_expr, ↓x_raise, ↓e_none, ↓e_bool, ↓e_int, ↓e_str, ↓e_neg, ↓e_loc, ↓e_glob, ↓e_bin, ↓e_not, ↓e_and, ↓e_or, ↓e_cmp, ↓e_call, ↓e_bcall, ↓e_meth, ↓e_item, ↓e_slice, ↓e_tup, ↓e_list, ↓e_comp, ↓es_nil, ↓es_cons, ↓b_one, ↓b_and, ↓b_or, ↓a_nil, ↓a_and, ↓a_or, ↓cs_nil, ↓cs_cons, ↓c_one, ↓c_two, ↓t_not, ↓t_and, ↓t_or, ↓t_cmp, ↓t_call, ↓t_bcall, ↓t_loc, ↓tr_bool, ↓as_name, ↓as_2, ↓as_3, ↓sets_nil, ↓sets_cons, ↓ret_ret, ↓ret_next, ↓br_true, ↓br_false, ↓br_not, ↓rd_set, ↓rdi_0, ↓rdi_1, ↓g_len, ↓g_isinstance, ↓g_range, ↓g_int, ↓g_tuple, ↓g_list, ↓g_dict, ↓g_min, ↓g_all, ↓mt_count, ↓it_tup, ↓it_put, ↓bin_add, ↓bin_sub, ↓bin_mul, ↓bin_mod, ↓bin_div, ↓bin_tup, ↓cm_eq, ↓cm_ne, ↓cm_lt, ↓cm_le, ↓cm_gt, ↓cm_ge, ↓cm_in, ↓cm_nin, ↓eq_str, ↓eq_int, ↓in_strs, ↓bc_len_1, ↓bc_len_2, ↓lit_10, ↓lit_20, ↓lit_11, ↓lit_22, ↓mk_put, ↓g_append, ↓g_extend, ↓g_count, ↓ma_append, ↓len_put, ↓sl_take, ↓sl_drop, ↓x_app, ↓bc_range, ↓bc_int, ↓is_int_int, ↓is_int_bool, ↓is_str_str, ↓is_tup_tup, ↓is_bool_bool, ↓is_bool_int, ↓reduceIte, String.reduceEq, ↓rd_of q1, ↓rd_of q2, ↓rd_of q3, ↓rd_of q4, ↓rdi_of hs' (lt63 hi h6), ↓Spot.d, ↓bc_lane ha' h8]))
      intro r hr
      have hb2 := (Ext.put (c := .list [D.int ((p : Int) + 1), D.int ((lane.length : Nat) - (p : Int))]) (Ext.refl _) hr) _ _ hb'
      (repeat (first | refine seqN ?_ | simp only [↓x_nil, ↓x_cons, ↓seq_ret, ↓seq_cont, ↓turn_next, ↓turn_cont, ↓turn_ret, ↓x_assign, ↓x_ite, ↓x_loop_loc, ↓x_loop_bcall, ↓x_loop_call, ↓x_loop_item, ↓x_loop_tup, ↓x_loop_zip, ↓x_while, ↓x_ret, ↓x_cont, ↓x_expr, ↓x_raise, ↓e_none, ↓e_bool, ↓e_int, ↓e_str, ↓e_neg, ↓e_loc, ↓e_glob, ↓e_bin, ↓e_not, ↓e_and, ↓e_or, ↓e_cmp, ↓e_call, ↓e_bcall, ↓e_meth, ↓e_item, ↓e_slice, ↓e_tup, ↓e_list, ↓e_comp, ↓es_nil, ↓es_cons, ↓b_one, ↓b_and, ↓b_or, ↓a_nil, ↓a_and, ↓a_or, ↓cs_nil, ↓cs_cons, ↓c_one, ↓c_two, ↓t_not, ↓t_and, ↓t_or, ↓t_cmp, ↓t_call, ↓t_bcall, ↓t_loc, ↓tr_bool, ↓as_name, ↓as_2, ↓as_3, ↓sets_nil, ↓sets_cons, ↓ret_ret, ↓ret_next, ↓br_true, ↓br_false, ↓br_not, ↓rd_set, ↓rdi_0, ↓rdi_1, ↓g_len, ↓g_isinstance, ↓g_range, ↓g_int, ↓g_tuple, ↓g_list, ↓g_dict, ↓g_min, ↓g_all, ↓mt_count, ↓it_tup, ↓it_put, ↓bin_add, ↓bin_sub, ↓bin_mul, ↓bin_mod, ↓bin_div, ↓bin_tup, ↓cm_eq, ↓cm_ne, ↓cm_lt, ↓cm_le, ↓cm_gt, ↓cm_ge, ↓cm_in, ↓cm_nin, ↓eq_str, ↓eq_int, ↓in_strs, ↓bc_len_1, ↓bc_len_2, ↓lit_10, ↓lit_20, ↓lit_11, ↓lit_22, ↓mk_put, ↓g_append, ↓g_extend, ↓g_count, ↓ma_append, ↓len_put, ↓sl_take, ↓sl_drop, ↓x_app, ↓bc_range, ↓bc_int, ↓is_int_int, ↓is_int_bool, ↓is_str_str, ↓is_tup_tup, ↓is_bool_bool, ↓is_bool_int, ↓reduceIte, String.reduceEq, ↓rd_of q2, ↓it_l hb2, ↓rdi_of hw' (lt63 hi h6), ↓eq_way_r, ↓rdi_b2i']))
      refine ⟨Ext.put hE (hE.none hr), q1, q2, q3, ?_⟩
      simp only [hlt, left1, Loc.set, if_true, lane_len]
      cases w <;> simp <;> omega
  · obtain ⟨hE, q1, q2, q3, q4⟩ := e
    rw [List.take_length, ← hl, List.take_length] at q4
    (repeat (first | refine seqN ?_ | simp only [↓x_nil, ↓x_cons, ↓seq_ret, ↓seq_cont, ↓turn_next, ↓turn_cont, ↓turn_ret, ↓x_assign, ↓x_ite, ↓x_loop_loc, ↓x_loop_bcall, ↓x_loop_call, ↓x_loop_item, ↓x_loop_tup, ↓x_loop_zip, ↓x_while, ↓x_ret, ↓x_cont, ↓x_expr, ↓x_raise, ↓e_none, ↓e_bool, ↓e_int, ↓e_str, ↓e_neg, ↓e_loc, ↓e_glob, ↓e_bin, ↓e_not, ↓e_and, ↓e_or, ↓e_cmp, ↓e_call, ↓e_bcall, ↓e_meth, ↓e_item, ↓e_slice, ↓e_tup, ↓e_list, ↓e_comp, ↓es_nil, ↓es_cons, ↓b_one, ↓b_and, ↓b_or, ↓a_nil, ↓a_and, ↓a_or, ↓cs_nil, ↓cs_cons, ↓c_one, ↓c_two, ↓t_not, ↓t_and, ↓t_or, ↓t_cmp, ↓t_call, ↓t_bcall, ↓t_loc, ↓tr_bool, ↓as_name, ↓as_2, ↓as_3, ↓sets_nil, ↓sets_cons, ↓ret_ret, ↓ret_next, ↓br_true, ↓br_false, ↓br_not, ↓rd_set, ↓rdi_0, ↓rdi_1, ↓g_len, ↓g_isinstance, ↓g_range, ↓g_int, ↓g_tuple, ↓g_list, ↓g_dict, ↓g_min, ↓g_all, ↓mt_count, ↓it_tup, ↓it_put, ↓bin_add, ↓bin_sub, ↓bin_mul, ↓bin_mod, ↓bin_div, ↓bin_tup, ↓cm_eq, ↓cm_ne, ↓cm_lt, ↓cm_le, ↓cm_gt, ↓cm_ge, ↓cm_in, ↓cm_nin, ↓eq_str, ↓eq_int, ↓in_strs, ↓bc_len_1, ↓bc_len_2, ↓lit_10, ↓lit_20, ↓lit_11, ↓lit_22, ↓mk_put, ↓g_append, ↓g_extend, ↓g_count, ↓ma_append, ↓len_put, ↓sl_take, ↓sl_drop, ↓x_app, ↓bc_range, ↓bc_int, ↓is_int_int, ↓is_int_bool, ↓is_str_str, ↓is_tup_tup, ↓is_bool_bool, ↓is_bool_int, ↓reduceIte, String.reduceEq, ↓rd_of q4]))
    exact h σ' hE
theorem c_stuck (H : Core K) (F : Fn K "_law_stuck" p_law_stuck b_law_stuck) (ha : σ a = some (.list (laneD lane))) (hb : σ b = some (.list (waysD ways))) (G : Good lane ways st) (hm : allMoves lane ways st = [])
    (h : ∀ σ', Ext σ σ' → Q (.bool true) σ') : (K (n + 1)).call "_law_stuck" [.ref a, .ref b, standD st] σ Q := by
  refine F.run _ _ _ _ rfl ?_
  have h8 := G.l8
  have h6 := G.w6
  have hl := G.len
  have hsl : (st.map Spot.d).length = ways.length := by rw [List.length_map, hl]
  (repeat (first | refine seqN ?_ | simp only [↓x_nil, ↓x_cons, ↓seq_ret, ↓seq_cont, ↓turn_next, ↓turn_cont, ↓turn_ret, ↓x_assign, ↓x_ite, ↓x_loop_loc, ↓x_loop_bcall, ↓x_loop_call, ↓x_loop_item, ↓x_loop_tup, ↓x_loop_zip, ↓x_while, ↓x_ret, ↓x_cont, ↓x_expr, ↓x_raise, ↓e_none, ↓e_bool, ↓e_int, ↓e_str, ↓e_neg, ↓e_loc, ↓e_glob, ↓e_bin, ↓e_not, ↓e_and, ↓e_or, ↓e_cmp, ↓e_call, ↓e_bcall, ↓e_meth, ↓e_item, ↓e_slice, ↓e_tup, ↓e_list, ↓e_comp, ↓es_nil, ↓es_cons, ↓b_one, ↓b_and, ↓b_or, ↓a_nil, ↓a_and, ↓a_or, ↓cs_nil, ↓cs_cons, ↓c_one, ↓c_two, ↓t_not, ↓t_and, ↓t_or, ↓t_cmp, ↓t_call, ↓t_bcall, ↓t_loc, ↓tr_bool, ↓as_name, ↓as_2, ↓as_3, ↓sets_nil, ↓sets_cons, ↓ret_ret, ↓ret_next, ↓br_true, ↓br_false, ↓br_not, ↓rd_set, ↓rdi_0, ↓rdi_1, ↓g_len, ↓g_isinstance, ↓g_range, ↓g_int, ↓g_tuple, ↓g_list, ↓g_dict, ↓g_min, ↓g_all, ↓mt_count, ↓it_tup, ↓it_put, ↓bin_add, ↓bin_sub, ↓bin_mul, ↓bin_mod, ↓bin_div, ↓bin_tup, ↓cm_eq, ↓cm_ne, ↓cm_lt, ↓cm_le, ↓cm_gt, ↓cm_ge, ↓cm_in, ↓cm_nin, ↓eq_str, ↓eq_int, ↓in_strs, ↓bc_len_1, ↓bc_len_2, ↓lit_10, ↓lit_20, ↓lit_11, ↓lit_22, ↓mk_put, ↓g_append, ↓g_extend, ↓g_count, ↓ma_append, ↓len_put, ↓sl_take, ↓sl_drop, ↓x_app, ↓bc_range, ↓bc_int, ↓is_int_int, ↓is_int_bool, ↓is_str_str, ↓is_tup_tup, ↓is_bool_bool, ↓is_bool_int, ↓reduceIte, String.reduceEq, ↓b_law_stuck, ↓p_law_stuck, ↓standD, ↓bc_len_t (show (st.map Spot.d).length < 2 ^ 62 by omega), ↓need_of (show (0 : Int) ≤ (st.map Spot.d).length ∧ ((st.map Spot.d).length : Int) < 2 ^ 62 by omega)]))
  rw [Int.toNat_natCast, hsl]
  refine range_of (fun i ρ' σ' => Ext σ σ' ∧ ρ' "_law_lane" = some (.ref a) ∧ ρ' "_law_ways" = some (.ref b) ∧ ρ' "_law_stand" = some (.tup (st.map Spot.d))) (le_line h6) ⟨Ext.refl _, rfl, rfl, rfl⟩ (fun i ρ' σ' hi e => ?_) (fun ρ' σ' e => ?_)
  · obtain ⟨hE, q1, q2, q3⟩ := e
    have hw := way_at hi
    have hs := getD_at (xs := st) (d := .out) (by omega : i < st.length)
    have hf := G.fits _ (List.mem_of_getElem? hs)
    have hs' := at_map (f := Spot.d) hs
    have ha' := hE _ _ ha
    have hb' := hE _ _ hb
    have hw' := way_of hi
    have hst := fun p => stuck_at G hm (t := i) (p := p)
    generalize ways.getD i true = w at hw hw' hst
    generalize st.getD i .out = s at hs hf hs'
    have goal_in : ∀ p, p < lane.length → ahead lane.length w p ≠ .out → ahead lane.length w p ∈ st → ∃ q : Nat, (p : Int) + (if w then 1 else -1) = (q : Int) ∧ Spot.lane q ∈ st := by
      intro p hp h1 h2
      unfold ahead at h1 h2
      cases w
      · simp only [Bool.false_eq_true, if_false] at h1 h2 ⊢
        split at h1
        · exact absurd rfl h1
        · rename_i q; rw [if_neg q] at h2; exact ⟨p - 1, by omega, h2⟩
      · simp only [if_true] at h1 h2 ⊢
        split at h1
        · rename_i q; rw [if_pos q] at h2; exact ⟨p + 1, by omega, h2⟩
        · exact absurd rfl h1
    cases s with
    | out =>
      (repeat (first | refine seqN ?_ | simp only [↓x_nil, ↓x_cons, ↓seq_ret, ↓seq_cont, ↓turn_next, ↓turn_cont, ↓turn_ret, ↓x_assign, ↓x_ite, ↓x_loop_loc, ↓x_loop_bcall, ↓x_loop_call, ↓x_loop_item, ↓x_loop_tup, ↓x_loop_zip, ↓x_while, ↓x_ret, ↓x_cont, ↓x_expr, ↓x_raise, ↓e_none, ↓e_bool, ↓e_int, ↓e_str, ↓e_neg, ↓e_loc, ↓e_glob, ↓e_bin, ↓e_not, ↓e_and, ↓e_or, ↓e_cmp, ↓e_call, ↓e_bcall, ↓e_meth, ↓e_item, ↓e_slice, ↓e_tup, ↓e_list, ↓e_comp, ↓es_nil, ↓es_cons, ↓b_one, ↓b_and, ↓b_or, ↓a_nil, ↓a_and, ↓a_or, ↓cs_nil, ↓cs_cons, ↓c_one, ↓c_two, ↓t_not, ↓t_and, ↓t_or, ↓t_cmp, ↓t_call, ↓t_bcall, ↓t_loc, ↓tr_bool, ↓as_name, ↓as_2, ↓as_3, ↓sets_nil, ↓sets_cons, ↓ret_ret, ↓ret_next, ↓br_true, ↓br_false, ↓br_not, ↓rd_set, ↓rdi_0, ↓rdi_1, ↓g_len, ↓g_isinstance, ↓g_range, ↓g_int, ↓g_tuple, ↓g_list, ↓g_dict, ↓g_min, ↓g_all, ↓mt_count, ↓it_tup, ↓it_put, ↓bin_add, ↓bin_sub, ↓bin_mul, ↓bin_mod, ↓bin_div, ↓bin_tup, ↓cm_eq, ↓cm_ne, ↓cm_lt, ↓cm_le, ↓cm_gt, ↓cm_ge, ↓cm_in, ↓cm_nin, ↓eq_str, ↓eq_int, ↓in_strs, ↓bc_len_1, ↓bc_len_2, ↓lit_10, ↓lit_20, ↓lit_11, ↓lit_22, ↓mk_put, ↓g_append, ↓g_extend, ↓g_count, ↓ma_append, ↓len_put, ↓sl_take, ↓sl_drop, ↓x_app, ↓bc_range, ↓bc_int, ↓is_int_int, ↓is_int_bool, ↓is_str_str, ↓is_tup_tup, ↓is_bool_bool, ↓is_bool_int, ↓reduceIte, String.reduceEq, ↓rd_of q1, ↓rd_of q2, ↓rd_of q3, ↓rdi_of hs' (lt63 hi h6), ↓Spot.d]))
      exact ⟨hE, q1, q2, q3⟩
    | lane p =>
      simp only [Spot.fits] at hf
      obtain ⟨⟨h1, h2⟩, h3⟩ := hst p (.inl hs)
      obtain ⟨q, e1, e2⟩ := goal_in p hf h1 h2
      have h3 := h3 hs
      (repeat (first | refine seqN ?_ | simp only [↓x_nil, ↓x_cons, ↓seq_ret, ↓seq_cont, ↓turn_next, ↓turn_cont, ↓turn_ret, ↓x_assign, ↓x_ite, ↓x_loop_loc, ↓x_loop_bcall, ↓x_loop_call, ↓x_loop_item, ↓x_loop_tup, ↓x_loop_zip, ↓x_while, ↓x_ret, ↓x_cont, ↓x_expr, ↓x_raise, ↓e_none, ↓e_bool, ↓e_int, ↓e_str, ↓e_neg, ↓e_loc, ↓e_glob, ↓e_bin, ↓e_not, ↓e_and, ↓e_or, ↓e_cmp, ↓e_call, ↓e_bcall, ↓e_meth, ↓e_item, ↓e_slice, ↓e_tup, ↓e_list, ↓e_comp, ↓es_nil, ↓es_cons, ↓b_one, ↓b_and, ↓b_or, ↓a_nil, ↓a_and, ↓a_or, ↓cs_nil, ↓cs_cons, ↓c_one, ↓c_two, ↓t_not, ↓t_and, ↓t_or, ↓t_cmp, ↓t_call, ↓t_bcall, ↓t_loc, ↓tr_bool, ↓as_name, ↓as_2, ↓as_3, ↓sets_nil, ↓sets_cons, ↓ret_ret, ↓ret_next, ↓br_true, ↓br_false, ↓br_not, ↓rd_set, ↓rdi_0, ↓rdi_1, ↓g_len, ↓g_isinstance, ↓g_range, ↓g_int, ↓g_tuple, ↓g_list, ↓g_dict, ↓g_min, ↓g_all, ↓mt_count, ↓it_tup, ↓it_put, ↓bin_add, ↓bin_sub, ↓bin_mul, ↓bin_mod, ↓bin_div, ↓bin_tup, ↓cm_eq, ↓cm_ne, ↓cm_lt, ↓cm_le, ↓cm_gt, ↓cm_ge, ↓cm_in, ↓cm_nin, ↓eq_str, ↓eq_int, ↓in_strs, ↓bc_len_1, ↓bc_len_2, ↓lit_10, ↓lit_20, ↓lit_11, ↓lit_22, ↓mk_put, ↓g_append, ↓g_extend, ↓g_count, ↓ma_append, ↓len_put, ↓sl_take, ↓sl_drop, ↓x_app, ↓bc_range, ↓bc_int, ↓is_int_int, ↓is_int_bool, ↓is_str_str, ↓is_tup_tup, ↓is_bool_bool, ↓is_bool_int, ↓reduceIte, String.reduceEq, ↓rd_of q1, ↓rd_of q2, ↓rd_of q3, ↓rdi_of hs' (lt63 hi h6), ↓Spot.d]))
      intro r hr
      have ha2 := (Ext.put (c := .list [D.int (-1), D.int 1]) (Ext.refl _) hr) _ _ ha'
      have hb2 := (Ext.put (c := .list [D.int (-1), D.int 1]) (Ext.refl _) hr) _ _ hb'
      (repeat (first | refine seqN ?_ | simp only [↓x_nil, ↓x_cons, ↓seq_ret, ↓seq_cont, ↓turn_next, ↓turn_cont, ↓turn_ret, ↓x_assign, ↓x_ite, ↓x_loop_loc, ↓x_loop_bcall, ↓x_loop_call, ↓x_loop_item, ↓x_loop_tup, ↓x_loop_zip, ↓x_while, ↓x_ret, ↓x_cont, ↓x_expr, ↓x_raise, ↓e_none, ↓e_bool, ↓e_int, ↓e_str, ↓e_neg, ↓e_loc, ↓e_glob, ↓e_bin, ↓e_not, ↓e_and, ↓e_or, ↓e_cmp, ↓e_call, ↓e_bcall, ↓e_meth, ↓e_item, ↓e_slice, ↓e_tup, ↓e_list, ↓e_comp, ↓es_nil, ↓es_cons, ↓b_one, ↓b_and, ↓b_or, ↓a_nil, ↓a_and, ↓a_or, ↓cs_nil, ↓cs_cons, ↓c_one, ↓c_two, ↓t_not, ↓t_and, ↓t_or, ↓t_cmp, ↓t_call, ↓t_bcall, ↓t_loc, ↓tr_bool, ↓as_name, ↓as_2, ↓as_3, ↓sets_nil, ↓sets_cons, ↓ret_ret, ↓ret_next, ↓br_true, ↓br_false, ↓br_not, ↓rd_set, ↓rdi_0, ↓rdi_1, ↓g_len, ↓g_isinstance, ↓g_range, ↓g_int, ↓g_tuple, ↓g_list, ↓g_dict, ↓g_min, ↓g_all, ↓mt_count, ↓it_tup, ↓it_put, ↓bin_add, ↓bin_sub, ↓bin_mul, ↓bin_mod, ↓bin_div, ↓bin_tup, ↓cm_eq, ↓cm_ne, ↓cm_lt, ↓cm_le, ↓cm_gt, ↓cm_ge, ↓cm_in, ↓cm_nin, ↓eq_str, ↓eq_int, ↓in_strs, ↓bc_len_1, ↓bc_len_2, ↓lit_10, ↓lit_20, ↓lit_11, ↓lit_22, ↓mk_put, ↓g_append, ↓g_extend, ↓g_count, ↓ma_append, ↓len_put, ↓sl_take, ↓sl_drop, ↓x_app, ↓bc_range, ↓bc_int, ↓is_int_int, ↓is_int_bool, ↓is_str_str, ↓is_tup_tup, ↓is_bool_bool, ↓is_bool_int, ↓reduceIte, String.reduceEq, ↓rd_of q1, ↓rd_of q2, ↓rd_of q3, ↓it_l hb2, ↓rdi_of hw' (lt63 hi h6), ↓eq_way_r, ↓rdi_b2i']))
      rw [e1]
      (repeat (first | refine seqN ?_ | simp only [↓x_nil, ↓x_cons, ↓seq_ret, ↓seq_cont, ↓turn_next, ↓turn_cont, ↓turn_ret, ↓x_assign, ↓x_ite, ↓x_loop_loc, ↓x_loop_bcall, ↓x_loop_call, ↓x_loop_item, ↓x_loop_tup, ↓x_loop_zip, ↓x_while, ↓x_ret, ↓x_cont, ↓x_expr, ↓x_raise, ↓e_none, ↓e_bool, ↓e_int, ↓e_str, ↓e_neg, ↓e_loc, ↓e_glob, ↓e_bin, ↓e_not, ↓e_and, ↓e_or, ↓e_cmp, ↓e_call, ↓e_bcall, ↓e_meth, ↓e_item, ↓e_slice, ↓e_tup, ↓e_list, ↓e_comp, ↓es_nil, ↓es_cons, ↓b_one, ↓b_and, ↓b_or, ↓a_nil, ↓a_and, ↓a_or, ↓cs_nil, ↓cs_cons, ↓c_one, ↓c_two, ↓t_not, ↓t_and, ↓t_or, ↓t_cmp, ↓t_call, ↓t_bcall, ↓t_loc, ↓tr_bool, ↓as_name, ↓as_2, ↓as_3, ↓sets_nil, ↓sets_cons, ↓ret_ret, ↓ret_next, ↓br_true, ↓br_false, ↓br_not, ↓rd_set, ↓rdi_0, ↓rdi_1, ↓g_len, ↓g_isinstance, ↓g_range, ↓g_int, ↓g_tuple, ↓g_list, ↓g_dict, ↓g_min, ↓g_all, ↓mt_count, ↓it_tup, ↓it_put, ↓bin_add, ↓bin_sub, ↓bin_mul, ↓bin_mod, ↓bin_div, ↓bin_tup, ↓cm_eq, ↓cm_ne, ↓cm_lt, ↓cm_le, ↓cm_gt, ↓cm_ge, ↓cm_in, ↓cm_nin, ↓eq_str, ↓eq_int, ↓in_strs, ↓bc_len_1, ↓bc_len_2, ↓lit_10, ↓lit_20, ↓lit_11, ↓lit_22, ↓mk_put, ↓g_append, ↓g_extend, ↓g_count, ↓ma_append, ↓len_put, ↓sl_take, ↓sl_drop, ↓x_app, ↓bc_range, ↓bc_int, ↓is_int_int, ↓is_int_bool, ↓is_str_str, ↓is_tup_tup, ↓is_bool_bool, ↓is_bool_int, ↓reduceIte, String.reduceEq, ↓rd_of q1, ↓rd_of q2, ↓rd_of q3, ↓in_lane, ↓br_pos e2, ↓rdi_of hs' (lt63 hi h6), ↓Spot.d, ↓ma_side, ↓it_l ha2, ↓rdi_of (lane_of hf) (lt63 hf h8), ↓br_neg (show ¬ ((st.count (.side p) : Nat) : Int) < (lane.getD p 0 : Nat) by omega)]))
      exact ⟨Ext.put hE (hE.none hr), q1, q2, q3⟩
    | side p =>
      simp only [Spot.fits] at hf
      obtain ⟨⟨h1, h2⟩, h3⟩ := hst p (.inr hs)
      obtain ⟨q, e1, e2⟩ := goal_in p hf h1 h2
      (repeat (first | refine seqN ?_ | simp only [↓x_nil, ↓x_cons, ↓seq_ret, ↓seq_cont, ↓turn_next, ↓turn_cont, ↓turn_ret, ↓x_assign, ↓x_ite, ↓x_loop_loc, ↓x_loop_bcall, ↓x_loop_call, ↓x_loop_item, ↓x_loop_tup, ↓x_loop_zip, ↓x_while, ↓x_ret, ↓x_cont, ↓x_expr, ↓x_raise, ↓e_none, ↓e_bool, ↓e_int, ↓e_str, ↓e_neg, ↓e_loc, ↓e_glob, ↓e_bin, ↓e_not, ↓e_and, ↓e_or, ↓e_cmp, ↓e_call, ↓e_bcall, ↓e_meth, ↓e_item, ↓e_slice, ↓e_tup, ↓e_list, ↓e_comp, ↓es_nil, ↓es_cons, ↓b_one, ↓b_and, ↓b_or, ↓a_nil, ↓a_and, ↓a_or, ↓cs_nil, ↓cs_cons, ↓c_one, ↓c_two, ↓t_not, ↓t_and, ↓t_or, ↓t_cmp, ↓t_call, ↓t_bcall, ↓t_loc, ↓tr_bool, ↓as_name, ↓as_2, ↓as_3, ↓sets_nil, ↓sets_cons, ↓ret_ret, ↓ret_next, ↓br_true, ↓br_false, ↓br_not, ↓rd_set, ↓rdi_0, ↓rdi_1, ↓g_len, ↓g_isinstance, ↓g_range, ↓g_int, ↓g_tuple, ↓g_list, ↓g_dict, ↓g_min, ↓g_all, ↓mt_count, ↓it_tup, ↓it_put, ↓bin_add, ↓bin_sub, ↓bin_mul, ↓bin_mod, ↓bin_div, ↓bin_tup, ↓cm_eq, ↓cm_ne, ↓cm_lt, ↓cm_le, ↓cm_gt, ↓cm_ge, ↓cm_in, ↓cm_nin, ↓eq_str, ↓eq_int, ↓in_strs, ↓bc_len_1, ↓bc_len_2, ↓lit_10, ↓lit_20, ↓lit_11, ↓lit_22, ↓mk_put, ↓g_append, ↓g_extend, ↓g_count, ↓ma_append, ↓len_put, ↓sl_take, ↓sl_drop, ↓x_app, ↓bc_range, ↓bc_int, ↓is_int_int, ↓is_int_bool, ↓is_str_str, ↓is_tup_tup, ↓is_bool_bool, ↓is_bool_int, ↓reduceIte, String.reduceEq, ↓rd_of q1, ↓rd_of q2, ↓rd_of q3, ↓rdi_of hs' (lt63 hi h6), ↓Spot.d]))
      intro r hr
      have ha2 := (Ext.put (c := .list [D.int (-1), D.int 1]) (Ext.refl _) hr) _ _ ha'
      have hb2 := (Ext.put (c := .list [D.int (-1), D.int 1]) (Ext.refl _) hr) _ _ hb'
      (repeat (first | refine seqN ?_ | simp only [↓x_nil, ↓x_cons, ↓seq_ret, ↓seq_cont, ↓turn_next, ↓turn_cont, ↓turn_ret, ↓x_assign, ↓x_ite, ↓x_loop_loc, ↓x_loop_bcall, ↓x_loop_call, ↓x_loop_item, ↓x_loop_tup, ↓x_loop_zip, ↓x_while, ↓x_ret, ↓x_cont, ↓x_expr, ↓x_raise, ↓e_none, ↓e_bool, ↓e_int, ↓e_str, ↓e_neg, ↓e_loc, ↓e_glob, ↓e_bin, ↓e_not, ↓e_and, ↓e_or, ↓e_cmp, ↓e_call, ↓e_bcall, ↓e_meth, ↓e_item, ↓e_slice, ↓e_tup, ↓e_list, ↓e_comp, ↓es_nil, ↓es_cons, ↓b_one, ↓b_and, ↓b_or, ↓a_nil, ↓a_and, ↓a_or, ↓cs_nil, ↓cs_cons, ↓c_one, ↓c_two, ↓t_not, ↓t_and, ↓t_or, ↓t_cmp, ↓t_call, ↓t_bcall, ↓t_loc, ↓tr_bool, ↓as_name, ↓as_2, ↓as_3, ↓sets_nil, ↓sets_cons, ↓ret_ret, ↓ret_next, ↓br_true, ↓br_false, ↓br_not, ↓rd_set, ↓rdi_0, ↓rdi_1, ↓g_len, ↓g_isinstance, ↓g_range, ↓g_int, ↓g_tuple, ↓g_list, ↓g_dict, ↓g_min, ↓g_all, ↓mt_count, ↓it_tup, ↓it_put, ↓bin_add, ↓bin_sub, ↓bin_mul, ↓bin_mod, ↓bin_div, ↓bin_tup, ↓cm_eq, ↓cm_ne, ↓cm_lt, ↓cm_le, ↓cm_gt, ↓cm_ge, ↓cm_in, ↓cm_nin, ↓eq_str, ↓eq_int, ↓in_strs, ↓bc_len_1, ↓bc_len_2, ↓lit_10, ↓lit_20, ↓lit_11, ↓lit_22, ↓mk_put, ↓g_append, ↓g_extend, ↓g_count, ↓ma_append, ↓len_put, ↓sl_take, ↓sl_drop, ↓x_app, ↓bc_range, ↓bc_int, ↓is_int_int, ↓is_int_bool, ↓is_str_str, ↓is_tup_tup, ↓is_bool_bool, ↓is_bool_int, ↓reduceIte, String.reduceEq, ↓rd_of q1, ↓rd_of q2, ↓rd_of q3, ↓it_l hb2, ↓rdi_of hw' (lt63 hi h6), ↓eq_way_r, ↓rdi_b2i']))
      rw [e1]
      (repeat (first | refine seqN ?_ | simp only [↓x_nil, ↓x_cons, ↓seq_ret, ↓seq_cont, ↓turn_next, ↓turn_cont, ↓turn_ret, ↓x_assign, ↓x_ite, ↓x_loop_loc, ↓x_loop_bcall, ↓x_loop_call, ↓x_loop_item, ↓x_loop_tup, ↓x_loop_zip, ↓x_while, ↓x_ret, ↓x_cont, ↓x_expr, ↓x_raise, ↓e_none, ↓e_bool, ↓e_int, ↓e_str, ↓e_neg, ↓e_loc, ↓e_glob, ↓e_bin, ↓e_not, ↓e_and, ↓e_or, ↓e_cmp, ↓e_call, ↓e_bcall, ↓e_meth, ↓e_item, ↓e_slice, ↓e_tup, ↓e_list, ↓e_comp, ↓es_nil, ↓es_cons, ↓b_one, ↓b_and, ↓b_or, ↓a_nil, ↓a_and, ↓a_or, ↓cs_nil, ↓cs_cons, ↓c_one, ↓c_two, ↓t_not, ↓t_and, ↓t_or, ↓t_cmp, ↓t_call, ↓t_bcall, ↓t_loc, ↓tr_bool, ↓as_name, ↓as_2, ↓as_3, ↓sets_nil, ↓sets_cons, ↓ret_ret, ↓ret_next, ↓br_true, ↓br_false, ↓br_not, ↓rd_set, ↓rdi_0, ↓rdi_1, ↓g_len, ↓g_isinstance, ↓g_range, ↓g_int, ↓g_tuple, ↓g_list, ↓g_dict, ↓g_min, ↓g_all, ↓mt_count, ↓it_tup, ↓it_put, ↓bin_add, ↓bin_sub, ↓bin_mul, ↓bin_mod, ↓bin_div, ↓bin_tup, ↓cm_eq, ↓cm_ne, ↓cm_lt, ↓cm_le, ↓cm_gt, ↓cm_ge, ↓cm_in, ↓cm_nin, ↓eq_str, ↓eq_int, ↓in_strs, ↓bc_len_1, ↓bc_len_2, ↓lit_10, ↓lit_20, ↓lit_11, ↓lit_22, ↓mk_put, ↓g_append, ↓g_extend, ↓g_count, ↓ma_append, ↓len_put, ↓sl_take, ↓sl_drop, ↓x_app, ↓bc_range, ↓bc_int, ↓is_int_int, ↓is_int_bool, ↓is_str_str, ↓is_tup_tup, ↓is_bool_bool, ↓is_bool_int, ↓reduceIte, String.reduceEq, ↓rd_of q1, ↓rd_of q2, ↓rd_of q3, ↓in_lane, ↓br_pos e2, ↓rdi_of hs' (lt63 hi h6), ↓Spot.d]))
      exact ⟨Ext.put hE (hE.none hr), q1, q2, q3⟩
  · obtain ⟨hE, q1, q2, q3⟩ := e
    (repeat (first | refine seqN ?_ | simp only [↓x_nil, ↓x_cons, ↓seq_ret, ↓seq_cont, ↓turn_next, ↓turn_cont, ↓turn_ret, ↓x_assign, ↓x_ite, ↓x_loop_loc, ↓x_loop_bcall, ↓x_loop_call, ↓x_loop_item, ↓x_loop_tup, ↓x_loop_zip, ↓x_while, ↓x_ret, ↓x_cont, ↓x_expr, ↓x_raise, ↓e_none, ↓e_bool, ↓e_int, ↓e_str, ↓e_neg, ↓e_loc, ↓e_glob, ↓e_bin, ↓e_not, ↓e_and, ↓e_or, ↓e_cmp, ↓e_call, ↓e_bcall, ↓e_meth, ↓e_item, ↓e_slice, ↓e_tup, ↓e_list, ↓e_comp, ↓es_nil, ↓es_cons, ↓b_one, ↓b_and, ↓b_or, ↓a_nil, ↓a_and, ↓a_or, ↓cs_nil, ↓cs_cons, ↓c_one, ↓c_two, ↓t_not, ↓t_and, ↓t_or, ↓t_cmp, ↓t_call, ↓t_bcall, ↓t_loc, ↓tr_bool, ↓as_name, ↓as_2, ↓as_3, ↓sets_nil, ↓sets_cons, ↓ret_ret, ↓ret_next, ↓br_true, ↓br_false, ↓br_not, ↓rd_set, ↓rdi_0, ↓rdi_1, ↓g_len, ↓g_isinstance, ↓g_range, ↓g_int, ↓g_tuple, ↓g_list, ↓g_dict, ↓g_min, ↓g_all, ↓mt_count, ↓it_tup, ↓it_put, ↓bin_add, ↓bin_sub, ↓bin_mul, ↓bin_mod, ↓bin_div, ↓bin_tup, ↓cm_eq, ↓cm_ne, ↓cm_lt, ↓cm_le, ↓cm_gt, ↓cm_ge, ↓cm_in, ↓cm_nin, ↓eq_str, ↓eq_int, ↓in_strs, ↓bc_len_1, ↓bc_len_2, ↓lit_10, ↓lit_20, ↓lit_11, ↓lit_22, ↓mk_put, ↓g_append, ↓g_extend, ↓g_count, ↓ma_append, ↓len_put, ↓sl_take, ↓sl_drop, ↓x_app, ↓bc_range, ↓bc_int, ↓is_int_int, ↓is_int_bool, ↓is_str_str, ↓is_tup_tup, ↓is_bool_bool, ↓is_bool_int, ↓reduceIte, String.reduceEq]))
    exact h σ' hE
set_option maxRecDepth 20000 in
theorem c_law (H : L03 K) {l : Addr} {lo : Obj} {ns : List Int} (hl : σ l = some (.rl lo (ns.map D.int))) (hn : ns.length ≤ 63) (h : ∀ σ', Ext σ σ' → Q (.bool true) σ') : (K (n + 5)).call "law" [.ref l] σ Q := by
  have H0 := H.toCore
  refine H.law.run _ _ _ _ rfl ?_
  (repeat (first | refine seqN ?_ | simp only [↓x_nil, ↓x_cons, ↓seq_ret, ↓seq_cont, ↓turn_next, ↓turn_cont, ↓turn_ret, ↓x_assign, ↓x_ite, ↓x_loop_loc, ↓x_loop_bcall, ↓x_loop_call, ↓x_loop_item, ↓x_loop_tup, ↓x_loop_zip, ↓x_while, ↓x_ret, ↓x_cont, ↓x_expr, ↓x_raise, ↓e_none, ↓e_bool, ↓e_int, ↓e_str, ↓e_neg, ↓e_loc, ↓e_glob, ↓e_bin, ↓e_not, ↓e_and, ↓e_or, ↓e_cmp, ↓e_call, ↓e_bcall, ↓e_meth, ↓e_item, ↓e_slice, ↓e_tup, ↓e_list, ↓e_comp, ↓es_nil, ↓es_cons, ↓b_one, ↓b_and, ↓b_or, ↓a_nil, ↓a_and, ↓a_or, ↓cs_nil, ↓cs_cons, ↓c_one, ↓c_two, ↓t_not, ↓t_and, ↓t_or, ↓t_cmp, ↓t_call, ↓t_bcall, ↓t_loc, ↓tr_bool, ↓as_name, ↓as_2, ↓as_3, ↓sets_nil, ↓sets_cons, ↓ret_ret, ↓ret_next, ↓br_true, ↓br_false, ↓br_not, ↓rd_set, ↓rdi_0, ↓rdi_1, ↓g_len, ↓g_isinstance, ↓g_range, ↓g_int, ↓g_tuple, ↓g_list, ↓g_dict, ↓g_min, ↓g_all, ↓mt_count, ↓it_tup, ↓it_put, ↓bin_add, ↓bin_sub, ↓bin_mul, ↓bin_mod, ↓bin_div, ↓bin_tup, ↓cm_eq, ↓cm_ne, ↓cm_lt, ↓cm_le, ↓cm_gt, ↓cm_ge, ↓cm_in, ↓cm_nin, ↓eq_str, ↓eq_int, ↓in_strs, ↓bc_len_1, ↓bc_len_2, ↓lit_10, ↓lit_20, ↓lit_11, ↓lit_22, ↓mk_put, ↓g_append, ↓g_extend, ↓g_count, ↓ma_append, ↓len_put, ↓sl_take, ↓sl_drop, ↓x_app, ↓bc_range, ↓bc_int, ↓is_int_int, ↓is_int_bool, ↓is_str_str, ↓is_tup_tup, ↓is_bool_bool, ↓is_bool_int, ↓reduceIte, String.reduceEq, ↓b_law, ↓p_law, ↓H0.built.gate, ↓H.left.gate, ↓H.left_to_go.gate, ↓H.whole.gate, ↓H.allowed.gate]))
  refine c_built H0 hl hn fun a b lane ways st σ1 hE1 ha hb hab G hS => ?_
  (repeat (first | refine seqN ?_ | simp only [↓x_nil, ↓x_cons, ↓seq_ret, ↓seq_cont, ↓turn_next, ↓turn_cont, ↓turn_ret, ↓x_assign, ↓x_ite, ↓x_loop_loc, ↓x_loop_bcall, ↓x_loop_call, ↓x_loop_item, ↓x_loop_tup, ↓x_loop_zip, ↓x_while, ↓x_ret, ↓x_cont, ↓x_expr, ↓x_raise, ↓e_none, ↓e_bool, ↓e_int, ↓e_str, ↓e_neg, ↓e_loc, ↓e_glob, ↓e_bin, ↓e_not, ↓e_and, ↓e_or, ↓e_cmp, ↓e_call, ↓e_bcall, ↓e_meth, ↓e_item, ↓e_slice, ↓e_tup, ↓e_list, ↓e_comp, ↓es_nil, ↓es_cons, ↓b_one, ↓b_and, ↓b_or, ↓a_nil, ↓a_and, ↓a_or, ↓cs_nil, ↓cs_cons, ↓c_one, ↓c_two, ↓t_not, ↓t_and, ↓t_or, ↓t_cmp, ↓t_call, ↓t_bcall, ↓t_loc, ↓tr_bool, ↓as_name, ↓as_2, ↓as_3, ↓sets_nil, ↓sets_cons, ↓ret_ret, ↓ret_next, ↓br_true, ↓br_false, ↓br_not, ↓rd_set, ↓rdi_0, ↓rdi_1, ↓g_len, ↓g_isinstance, ↓g_range, ↓g_int, ↓g_tuple, ↓g_list, ↓g_dict, ↓g_min, ↓g_all, ↓mt_count, ↓it_tup, ↓it_put, ↓bin_add, ↓bin_sub, ↓bin_mul, ↓bin_mod, ↓bin_div, ↓bin_tup, ↓cm_eq, ↓cm_ne, ↓cm_lt, ↓cm_le, ↓cm_gt, ↓cm_ge, ↓cm_in, ↓cm_nin, ↓eq_str, ↓eq_int, ↓in_strs, ↓bc_len_1, ↓bc_len_2, ↓lit_10, ↓lit_20, ↓lit_11, ↓lit_22, ↓mk_put, ↓g_append, ↓g_extend, ↓g_count, ↓ma_append, ↓len_put, ↓sl_take, ↓sl_drop, ↓x_app, ↓bc_range, ↓bc_int, ↓is_int_int, ↓is_int_bool, ↓is_str_str, ↓is_tup_tup, ↓is_bool_bool, ↓is_bool_int, ↓reduceIte, String.reduceEq, ↓H.left.gate]))
  refine c_left H0 H.left ha hb G fun σ2 hE2 => ?_
  (repeat (first | refine seqN ?_ | simp only [↓x_nil, ↓x_cons, ↓seq_ret, ↓seq_cont, ↓turn_next, ↓turn_cont, ↓turn_ret, ↓x_assign, ↓x_ite, ↓x_loop_loc, ↓x_loop_bcall, ↓x_loop_call, ↓x_loop_item, ↓x_loop_tup, ↓x_loop_zip, ↓x_while, ↓x_ret, ↓x_cont, ↓x_expr, ↓x_raise, ↓e_none, ↓e_bool, ↓e_int, ↓e_str, ↓e_neg, ↓e_loc, ↓e_glob, ↓e_bin, ↓e_not, ↓e_and, ↓e_or, ↓e_cmp, ↓e_call, ↓e_bcall, ↓e_meth, ↓e_item, ↓e_slice, ↓e_tup, ↓e_list, ↓e_comp, ↓es_nil, ↓es_cons, ↓b_one, ↓b_and, ↓b_or, ↓a_nil, ↓a_and, ↓a_or, ↓cs_nil, ↓cs_cons, ↓c_one, ↓c_two, ↓t_not, ↓t_and, ↓t_or, ↓t_cmp, ↓t_call, ↓t_bcall, ↓t_loc, ↓tr_bool, ↓as_name, ↓as_2, ↓as_3, ↓sets_nil, ↓sets_cons, ↓ret_ret, ↓ret_next, ↓br_true, ↓br_false, ↓br_not, ↓rd_set, ↓rdi_0, ↓rdi_1, ↓g_len, ↓g_isinstance, ↓g_range, ↓g_int, ↓g_tuple, ↓g_list, ↓g_dict, ↓g_min, ↓g_all, ↓mt_count, ↓it_tup, ↓it_put, ↓bin_add, ↓bin_sub, ↓bin_mul, ↓bin_mod, ↓bin_div, ↓bin_tup, ↓cm_eq, ↓cm_ne, ↓cm_lt, ↓cm_le, ↓cm_gt, ↓cm_ge, ↓cm_in, ↓cm_nin, ↓eq_str, ↓eq_int, ↓in_strs, ↓bc_len_1, ↓bc_len_2, ↓lit_10, ↓lit_20, ↓lit_11, ↓lit_22, ↓mk_put, ↓g_append, ↓g_extend, ↓g_count, ↓ma_append, ↓len_put, ↓sl_take, ↓sl_drop, ↓x_app, ↓bc_range, ↓bc_int, ↓is_int_int, ↓is_int_bool, ↓is_str_str, ↓is_tup_tup, ↓is_bool_bool, ↓is_bool_int, ↓reduceIte, String.reduceEq, ↓H.left_to_go.gate, ↓H.whole.gate]))
  refine c_left_to_go H0 H.left_to_go (hE2 _ _ ha) (hE2 _ _ hb) G ?_
  refine c_whole H0 H.whole ?_
  (repeat (first | refine seqN ?_ | simp only [↓x_nil, ↓x_cons, ↓seq_ret, ↓seq_cont, ↓turn_next, ↓turn_cont, ↓turn_ret, ↓x_assign, ↓x_ite, ↓x_loop_loc, ↓x_loop_bcall, ↓x_loop_call, ↓x_loop_item, ↓x_loop_tup, ↓x_loop_zip, ↓x_while, ↓x_ret, ↓x_cont, ↓x_expr, ↓x_raise, ↓e_none, ↓e_bool, ↓e_int, ↓e_str, ↓e_neg, ↓e_loc, ↓e_glob, ↓e_bin, ↓e_not, ↓e_and, ↓e_or, ↓e_cmp, ↓e_call, ↓e_bcall, ↓e_meth, ↓e_item, ↓e_slice, ↓e_tup, ↓e_list, ↓e_comp, ↓es_nil, ↓es_cons, ↓b_one, ↓b_and, ↓b_or, ↓a_nil, ↓a_and, ↓a_or, ↓cs_nil, ↓cs_cons, ↓c_one, ↓c_two, ↓t_not, ↓t_and, ↓t_or, ↓t_cmp, ↓t_call, ↓t_bcall, ↓t_loc, ↓tr_bool, ↓as_name, ↓as_2, ↓as_3, ↓sets_nil, ↓sets_cons, ↓ret_ret, ↓ret_next, ↓br_true, ↓br_false, ↓br_not, ↓rd_set, ↓rdi_0, ↓rdi_1, ↓g_len, ↓g_isinstance, ↓g_range, ↓g_int, ↓g_tuple, ↓g_list, ↓g_dict, ↓g_min, ↓g_all, ↓mt_count, ↓it_tup, ↓it_put, ↓bin_add, ↓bin_sub, ↓bin_mul, ↓bin_mod, ↓bin_div, ↓bin_tup, ↓cm_eq, ↓cm_ne, ↓cm_lt, ↓cm_le, ↓cm_gt, ↓cm_ge, ↓cm_in, ↓cm_nin, ↓eq_str, ↓eq_int, ↓in_strs, ↓bc_len_1, ↓bc_len_2, ↓lit_10, ↓lit_20, ↓lit_11, ↓lit_22, ↓mk_put, ↓g_append, ↓g_extend, ↓g_count, ↓ma_append, ↓len_put, ↓sl_take, ↓sl_drop, ↓x_app, ↓bc_range, ↓bc_int, ↓is_int_int, ↓is_int_bool, ↓is_str_str, ↓is_tup_tup, ↓is_bool_bool, ↓is_bool_int, ↓reduceIte, String.reduceEq, ↓H.left_to_go.gate]))
  refine c_left_to_go H0 H.left_to_go (hE2 _ _ ha) (hE2 _ _ hb) G ?_
  (repeat (first | refine seqN ?_ | simp only [↓x_nil, ↓x_cons, ↓seq_ret, ↓seq_cont, ↓turn_next, ↓turn_cont, ↓turn_ret, ↓x_assign, ↓x_ite, ↓x_loop_loc, ↓x_loop_bcall, ↓x_loop_call, ↓x_loop_item, ↓x_loop_tup, ↓x_loop_zip, ↓x_while, ↓x_ret, ↓x_cont, ↓x_expr, ↓x_raise, ↓e_none, ↓e_bool, ↓e_int, ↓e_str, ↓e_neg, ↓e_loc, ↓e_glob, ↓e_bin, ↓e_not, ↓e_and, ↓e_or, ↓e_cmp, ↓e_call, ↓e_bcall, ↓e_meth, ↓e_item, ↓e_slice, ↓e_tup, ↓e_list, ↓e_comp, ↓es_nil, ↓es_cons, ↓b_one, ↓b_and, ↓b_or, ↓a_nil, ↓a_and, ↓a_or, ↓cs_nil, ↓cs_cons, ↓c_one, ↓c_two, ↓t_not, ↓t_and, ↓t_or, ↓t_cmp, ↓t_call, ↓t_bcall, ↓t_loc, ↓tr_bool, ↓as_name, ↓as_2, ↓as_3, ↓sets_nil, ↓sets_cons, ↓ret_ret, ↓ret_next, ↓br_true, ↓br_false, ↓br_not, ↓rd_set, ↓rdi_0, ↓rdi_1, ↓g_len, ↓g_isinstance, ↓g_range, ↓g_int, ↓g_tuple, ↓g_list, ↓g_dict, ↓g_min, ↓g_all, ↓mt_count, ↓it_tup, ↓it_put, ↓bin_add, ↓bin_sub, ↓bin_mul, ↓bin_mod, ↓bin_div, ↓bin_tup, ↓cm_eq, ↓cm_ne, ↓cm_lt, ↓cm_le, ↓cm_gt, ↓cm_ge, ↓cm_in, ↓cm_nin, ↓eq_str, ↓eq_int, ↓in_strs, ↓bc_len_1, ↓bc_len_2, ↓lit_10, ↓lit_20, ↓lit_11, ↓lit_22, ↓mk_put, ↓g_append, ↓g_extend, ↓g_count, ↓ma_append, ↓len_put, ↓sl_take, ↓sl_drop, ↓x_app, ↓bc_range, ↓bc_int, ↓is_int_int, ↓is_int_bool, ↓is_str_str, ↓is_tup_tup, ↓is_bool_bool, ↓is_bool_int, ↓reduceIte, String.reduceEq, ↓H.allowed.gate, ↓br_pos (rfl : ((leftOf lane.length ways st : Nat) : Int) = (leftOf lane.length ways st : Nat))]))
  refine c_allowed H0 H.allowed (hE2 _ _ ha) (hE2 _ _ hb) G fun r σ3 hE3 h3 hr3 => ?_
  have hE03 : Ext σ σ3 := (hE1.trans hE2).trans hE3
  have ha3 := hE3 _ _ (hE2 _ _ ha)
  have hb3 := hE3 _ _ (hE2 _ _ hb)
  generalize hB : leftOf lane.length ways st = B
  (repeat (first | refine seqN ?_ | simp only [↓x_nil, ↓x_cons, ↓seq_ret, ↓seq_cont, ↓turn_next, ↓turn_cont, ↓turn_ret, ↓x_assign, ↓x_ite, ↓x_loop_loc, ↓x_loop_bcall, ↓x_loop_call, ↓x_loop_item, ↓x_loop_tup, ↓x_loop_zip, ↓x_while, ↓x_ret, ↓x_cont, ↓x_expr, ↓x_raise, ↓e_none, ↓e_bool, ↓e_int, ↓e_str, ↓e_neg, ↓e_loc, ↓e_glob, ↓e_bin, ↓e_not, ↓e_and, ↓e_or, ↓e_cmp, ↓e_call, ↓e_bcall, ↓e_meth, ↓e_item, ↓e_slice, ↓e_tup, ↓e_list, ↓e_comp, ↓es_nil, ↓es_cons, ↓b_one, ↓b_and, ↓b_or, ↓a_nil, ↓a_and, ↓a_or, ↓cs_nil, ↓cs_cons, ↓c_one, ↓c_two, ↓t_not, ↓t_and, ↓t_or, ↓t_cmp, ↓t_call, ↓t_bcall, ↓t_loc, ↓tr_bool, ↓as_name, ↓as_2, ↓as_3, ↓sets_nil, ↓sets_cons, ↓ret_ret, ↓ret_next, ↓br_true, ↓br_false, ↓br_not, ↓rd_set, ↓rdi_0, ↓rdi_1, ↓g_len, ↓g_isinstance, ↓g_range, ↓g_int, ↓g_tuple, ↓g_list, ↓g_dict, ↓g_min, ↓g_all, ↓mt_count, ↓it_tup, ↓it_put, ↓bin_add, ↓bin_sub, ↓bin_mul, ↓bin_mod, ↓bin_div, ↓bin_tup, ↓cm_eq, ↓cm_ne, ↓cm_lt, ↓cm_le, ↓cm_gt, ↓cm_ge, ↓cm_in, ↓cm_nin, ↓eq_str, ↓eq_int, ↓in_strs, ↓bc_len_1, ↓bc_len_2, ↓lit_10, ↓lit_20, ↓lit_11, ↓lit_22, ↓mk_put, ↓g_append, ↓g_extend, ↓g_count, ↓ma_append, ↓len_put, ↓sl_take, ↓sl_drop, ↓x_app, ↓bc_range, ↓bc_int, ↓is_int_int, ↓is_int_bool, ↓is_str_str, ↓is_tup_tup, ↓is_bool_bool, ↓is_bool_int, ↓reduceIte, String.reduceEq]))
  refine while_of (fun m ρ' σ' => ∃ (st : List Spot) (A T : Nat) (r : Addr), Good lane ways st ∧ Ext σ3 σ' ∧ ρ' "_law_script" = some (.ref l) ∧ ρ' "_law_lane" = some (.ref a) ∧ ρ' "_law_ways" = some (.ref b) ∧ ρ' "_law_stand" = some (standD st) ∧
    ρ' "_law_left_here" = some (.int (leftOf lane.length ways st : Nat)) ∧ ρ' "_law_begun" = some (.int B) ∧ ρ' "_law_asides" = some (.int A) ∧ ρ' "_law_turn" = some (.int T) ∧ ρ' "_law_some" = some (.ref r) ∧
    σ' r = some (.list ((allMoves lane ways st).map moveD)) ∧ (T : Int) = B - leftOf lane.length ways st + A ∧ m = pot lane.length ways st ∧ T + m ≤ 96) _
    ⟨st, 0, 0, r, G, Ext.refl _, rfl, rfl, rfl, rfl, by rw [← hB]; rfl, rfl, rfl, rfl, rfl, hr3, by rw [hB]; omega, rfl, by have := pot_le G; omega⟩ ?_
  rintro m ρ' σ' ⟨st, A, T, r, G, hE, q1, q2, q3, q4, q5, q6, q7, q8, q9, hr, hT, rfl, hm⟩
  have ha' := hE _ _ ha3
  have hb' := hE _ _ hb3
  (repeat (first | refine seqN ?_ | simp only [↓x_nil, ↓x_cons, ↓seq_ret, ↓seq_cont, ↓turn_next, ↓turn_cont, ↓turn_ret, ↓x_assign, ↓x_ite, ↓x_loop_loc, ↓x_loop_bcall, ↓x_loop_call, ↓x_loop_item, ↓x_loop_tup, ↓x_loop_zip, ↓x_while, ↓x_ret, ↓x_cont, ↓x_expr, ↓x_raise, ↓e_none, ↓e_bool, ↓e_int, ↓e_str, ↓e_neg, ↓e_loc, ↓e_glob, ↓e_bin, ↓e_not, ↓e_and, ↓e_or, ↓e_cmp, ↓e_call, ↓e_bcall, ↓e_meth, ↓e_item, ↓e_slice, ↓e_tup, ↓e_list, ↓e_comp, ↓es_nil, ↓es_cons, ↓b_one, ↓b_and, ↓b_or, ↓a_nil, ↓a_and, ↓a_or, ↓cs_nil, ↓cs_cons, ↓c_one, ↓c_two, ↓t_not, ↓t_and, ↓t_or, ↓t_cmp, ↓t_call, ↓t_bcall, ↓t_loc, ↓tr_bool, ↓as_name, ↓as_2, ↓as_3, ↓sets_nil, ↓sets_cons, ↓ret_ret, ↓ret_next, ↓br_true, ↓br_false, ↓br_not, ↓rd_set, ↓rdi_0, ↓rdi_1, ↓g_len, ↓g_isinstance, ↓g_range, ↓g_int, ↓g_tuple, ↓g_list, ↓g_dict, ↓g_min, ↓g_all, ↓mt_count, ↓it_tup, ↓it_put, ↓bin_add, ↓bin_sub, ↓bin_mul, ↓bin_mod, ↓bin_div, ↓bin_tup, ↓cm_eq, ↓cm_ne, ↓cm_lt, ↓cm_le, ↓cm_gt, ↓cm_ge, ↓cm_in, ↓cm_nin, ↓eq_str, ↓eq_int, ↓in_strs, ↓bc_len_1, ↓bc_len_2, ↓lit_10, ↓lit_20, ↓lit_11, ↓lit_22, ↓mk_put, ↓g_append, ↓g_extend, ↓g_count, ↓ma_append, ↓len_put, ↓sl_take, ↓sl_drop, ↓x_app, ↓bc_range, ↓bc_int, ↓is_int_int, ↓is_int_bool, ↓is_str_str, ↓is_tup_tup, ↓is_bool_bool, ↓is_bool_int, ↓reduceIte, String.reduceEq, ↓rd_of q9]))
  intro r0 hr0
  refine eq_nil ((Ext.put (Ext.refl _) hr0) _ _ hr) put_at (moves_pure _) ?_
  have hE0 : ∀ c, Ext σ' (σ'.put r0 c) := fun c => Ext.put (Ext.refl _) hr0
  have hES : ∀ c, Ext σ (σ'.put r0 c) := fun c => (hE03.trans hE).trans (hE0 c)
  by_cases hM : allMoves lane ways st = []
  · rw [show (List.map moveD (allMoves lane ways st)).isEmpty = true by rw [hM]; rfl]
    (repeat (first | refine seqN ?_ | simp only [↓x_nil, ↓x_cons, ↓seq_ret, ↓seq_cont, ↓turn_next, ↓turn_cont, ↓turn_ret, ↓x_assign, ↓x_ite, ↓x_loop_loc, ↓x_loop_bcall, ↓x_loop_call, ↓x_loop_item, ↓x_loop_tup, ↓x_loop_zip, ↓x_while, ↓x_ret, ↓x_cont, ↓x_expr, ↓x_raise, ↓e_none, ↓e_bool, ↓e_int, ↓e_str, ↓e_neg, ↓e_loc, ↓e_glob, ↓e_bin, ↓e_not, ↓e_and, ↓e_or, ↓e_cmp, ↓e_call, ↓e_bcall, ↓e_meth, ↓e_item, ↓e_slice, ↓e_tup, ↓e_list, ↓e_comp, ↓es_nil, ↓es_cons, ↓b_one, ↓b_and, ↓b_or, ↓a_nil, ↓a_and, ↓a_or, ↓cs_nil, ↓cs_cons, ↓c_one, ↓c_two, ↓t_not, ↓t_and, ↓t_or, ↓t_cmp, ↓t_call, ↓t_bcall, ↓t_loc, ↓tr_bool, ↓as_name, ↓as_2, ↓as_3, ↓sets_nil, ↓sets_cons, ↓ret_ret, ↓ret_next, ↓br_true, ↓br_false, ↓br_not, ↓rd_set, ↓rdi_0, ↓rdi_1, ↓g_len, ↓g_isinstance, ↓g_range, ↓g_int, ↓g_tuple, ↓g_list, ↓g_dict, ↓g_min, ↓g_all, ↓mt_count, ↓it_tup, ↓it_put, ↓bin_add, ↓bin_sub, ↓bin_mul, ↓bin_mod, ↓bin_div, ↓bin_tup, ↓cm_eq, ↓cm_ne, ↓cm_lt, ↓cm_le, ↓cm_gt, ↓cm_ge, ↓cm_in, ↓cm_nin, ↓eq_str, ↓eq_int, ↓in_strs, ↓bc_len_1, ↓bc_len_2, ↓lit_10, ↓lit_20, ↓lit_11, ↓lit_22, ↓mk_put, ↓g_append, ↓g_extend, ↓g_count, ↓ma_append, ↓len_put, ↓sl_take, ↓sl_drop, ↓x_app, ↓bc_range, ↓bc_int, ↓is_int_int, ↓is_int_bool, ↓is_str_str, ↓is_tup_tup, ↓is_bool_bool, ↓is_bool_int, ↓reduceIte, String.reduceEq, ↓rd_of q2, ↓rd_of q3, ↓rd_of q4, ↓rd_of q5, ↓rd_of q6, ↓rd_of q7, ↓rd_of q8, ↓rd_of q9, ↓br_pos hT]))
    intro r1 hr1
    refine eq_nil ((Ext.put (Ext.refl _) hr1) _ _ (hE0 _ _ _ hr)) put_at (moves_pure _) ?_
    rw [show (List.map moveD (allMoves lane ways st)).isEmpty = true by rw [hM]; rfl]
    have hE1 := (Ext.put (c := .list []) (Ext.refl _) hr1)
    (repeat (first | refine seqN ?_ | simp only [↓x_nil, ↓x_cons, ↓seq_ret, ↓seq_cont, ↓turn_next, ↓turn_cont, ↓turn_ret, ↓x_assign, ↓x_ite, ↓x_loop_loc, ↓x_loop_bcall, ↓x_loop_call, ↓x_loop_item, ↓x_loop_tup, ↓x_loop_zip, ↓x_while, ↓x_ret, ↓x_cont, ↓x_expr, ↓x_raise, ↓e_none, ↓e_bool, ↓e_int, ↓e_str, ↓e_neg, ↓e_loc, ↓e_glob, ↓e_bin, ↓e_not, ↓e_and, ↓e_or, ↓e_cmp, ↓e_call, ↓e_bcall, ↓e_meth, ↓e_item, ↓e_slice, ↓e_tup, ↓e_list, ↓e_comp, ↓es_nil, ↓es_cons, ↓b_one, ↓b_and, ↓b_or, ↓a_nil, ↓a_and, ↓a_or, ↓cs_nil, ↓cs_cons, ↓c_one, ↓c_two, ↓t_not, ↓t_and, ↓t_or, ↓t_cmp, ↓t_call, ↓t_bcall, ↓t_loc, ↓tr_bool, ↓as_name, ↓as_2, ↓as_3, ↓sets_nil, ↓sets_cons, ↓ret_ret, ↓ret_next, ↓br_true, ↓br_false, ↓br_not, ↓rd_set, ↓rdi_0, ↓rdi_1, ↓g_len, ↓g_isinstance, ↓g_range, ↓g_int, ↓g_tuple, ↓g_list, ↓g_dict, ↓g_min, ↓g_all, ↓mt_count, ↓it_tup, ↓it_put, ↓bin_add, ↓bin_sub, ↓bin_mul, ↓bin_mod, ↓bin_div, ↓bin_tup, ↓cm_eq, ↓cm_ne, ↓cm_lt, ↓cm_le, ↓cm_gt, ↓cm_ge, ↓cm_in, ↓cm_nin, ↓eq_str, ↓eq_int, ↓in_strs, ↓bc_len_1, ↓bc_len_2, ↓lit_10, ↓lit_20, ↓lit_11, ↓lit_22, ↓mk_put, ↓g_append, ↓g_extend, ↓g_count, ↓ma_append, ↓len_put, ↓sl_take, ↓sl_drop, ↓x_app, ↓bc_range, ↓bc_int, ↓is_int_int, ↓is_int_bool, ↓is_str_str, ↓is_tup_tup, ↓is_bool_bool, ↓is_bool_int, ↓reduceIte, String.reduceEq, ↓H.stuck.gate, ↓rd_of q2, ↓rd_of q3, ↓rd_of q4]))
    refine c_stuck H0 H.stuck (hE1 _ _ (hE0 _ _ _ ha')) (hE1 _ _ (hE0 _ _ _ hb')) G hM fun σ5 hE5 => ?_
    exact h _ (((hES _).trans hE1).trans hE5)
  · have hne : (List.map moveD (allMoves lane ways st)).isEmpty = false := by
      cases e : allMoves lane ways st with
      | nil => exact absurd e hM
      | cons x xs => rfl
    rw [hne]
    generalize hσ4 : σ'.put r0 (.list []) = σ4
    have hE4 : Ext σ' σ4 := by rw [← hσ4]; exact hE0 _
    (repeat (first | refine seqN ?_ | simp only [↓x_nil, ↓x_cons, ↓seq_ret, ↓seq_cont, ↓turn_next, ↓turn_cont, ↓turn_ret, ↓x_assign, ↓x_ite, ↓x_loop_loc, ↓x_loop_bcall, ↓x_loop_call, ↓x_loop_item, ↓x_loop_tup, ↓x_loop_zip, ↓x_while, ↓x_ret, ↓x_cont, ↓x_expr, ↓x_raise, ↓e_none, ↓e_bool, ↓e_int, ↓e_str, ↓e_neg, ↓e_loc, ↓e_glob, ↓e_bin, ↓e_not, ↓e_and, ↓e_or, ↓e_cmp, ↓e_call, ↓e_bcall, ↓e_meth, ↓e_item, ↓e_slice, ↓e_tup, ↓e_list, ↓e_comp, ↓es_nil, ↓es_cons, ↓b_one, ↓b_and, ↓b_or, ↓a_nil, ↓a_and, ↓a_or, ↓cs_nil, ↓cs_cons, ↓c_one, ↓c_two, ↓t_not, ↓t_and, ↓t_or, ↓t_cmp, ↓t_call, ↓t_bcall, ↓t_loc, ↓tr_bool, ↓as_name, ↓as_2, ↓as_3, ↓sets_nil, ↓sets_cons, ↓ret_ret, ↓ret_next, ↓br_true, ↓br_false, ↓br_not, ↓rd_set, ↓rdi_0, ↓rdi_1, ↓g_len, ↓g_isinstance, ↓g_range, ↓g_int, ↓g_tuple, ↓g_list, ↓g_dict, ↓g_min, ↓g_all, ↓mt_count, ↓it_tup, ↓it_put, ↓bin_add, ↓bin_sub, ↓bin_mul, ↓bin_mod, ↓bin_div, ↓bin_tup, ↓cm_eq, ↓cm_ne, ↓cm_lt, ↓cm_le, ↓cm_gt, ↓cm_ge, ↓cm_in, ↓cm_nin, ↓eq_str, ↓eq_int, ↓in_strs, ↓bc_len_1, ↓bc_len_2, ↓lit_10, ↓lit_20, ↓lit_11, ↓lit_22, ↓mk_put, ↓g_append, ↓g_extend, ↓g_count, ↓ma_append, ↓len_put, ↓sl_take, ↓sl_drop, ↓x_app, ↓bc_range, ↓bc_int, ↓is_int_int, ↓is_int_bool, ↓is_str_str, ↓is_tup_tup, ↓is_bool_bool, ↓is_bool_int, ↓reduceIte, String.reduceEq, ↓H0.cell_at.gate, ↓rd_of q1, ↓rd_of q2, ↓rd_of q3, ↓rd_of q4, ↓rd_of q5, ↓rd_of q6, ↓rd_of q7, ↓rd_of q8, ↓br_pos (show (T : Int) < 200 by omega), ↓need_of (show (0 : Int) < 9 by decide)]))
    refine c_cell_at H0 (hE4 _ _ (hE _ _ (hE03 _ _ hl))) hn (by omega) ?_
    have hr4 := hE4 _ _ hr
    have hpos : (0 : Int) < (List.map moveD (allMoves lane ways st)).length := by
      cases e : allMoves lane ways st with
      | nil => exact absurd e hM
      | cons x xs => simp
    have hle : (List.map moveD (allMoves lane ways st)).length ≤ 12 := by
      have := moves_le lane ways st ways.length
      have := G.w6
      rw [List.length_map]; unfold allMoves; omega
    generalize hc : cellAt ns (16 + (T : Int) % 9) = c
    (repeat (first | refine seqN ?_ | simp only [↓x_nil, ↓x_cons, ↓seq_ret, ↓seq_cont, ↓turn_next, ↓turn_cont, ↓turn_ret, ↓x_assign, ↓x_ite, ↓x_loop_loc, ↓x_loop_bcall, ↓x_loop_call, ↓x_loop_item, ↓x_loop_tup, ↓x_loop_zip, ↓x_while, ↓x_ret, ↓x_cont, ↓x_expr, ↓x_raise, ↓e_none, ↓e_bool, ↓e_int, ↓e_str, ↓e_neg, ↓e_loc, ↓e_glob, ↓e_bin, ↓e_not, ↓e_and, ↓e_or, ↓e_cmp, ↓e_call, ↓e_bcall, ↓e_meth, ↓e_item, ↓e_slice, ↓e_tup, ↓e_list, ↓e_comp, ↓es_nil, ↓es_cons, ↓b_one, ↓b_and, ↓b_or, ↓a_nil, ↓a_and, ↓a_or, ↓cs_nil, ↓cs_cons, ↓c_one, ↓c_two, ↓t_not, ↓t_and, ↓t_or, ↓t_cmp, ↓t_call, ↓t_bcall, ↓t_loc, ↓tr_bool, ↓as_name, ↓as_2, ↓as_3, ↓sets_nil, ↓sets_cons, ↓ret_ret, ↓ret_next, ↓br_true, ↓br_false, ↓br_not, ↓rd_set, ↓rdi_0, ↓rdi_1, ↓g_len, ↓g_isinstance, ↓g_range, ↓g_int, ↓g_tuple, ↓g_list, ↓g_dict, ↓g_min, ↓g_all, ↓mt_count, ↓it_tup, ↓it_put, ↓bin_add, ↓bin_sub, ↓bin_mul, ↓bin_mod, ↓bin_div, ↓bin_tup, ↓cm_eq, ↓cm_ne, ↓cm_lt, ↓cm_le, ↓cm_gt, ↓cm_ge, ↓cm_in, ↓cm_nin, ↓eq_str, ↓eq_int, ↓in_strs, ↓bc_len_1, ↓bc_len_2, ↓lit_10, ↓lit_20, ↓lit_11, ↓lit_22, ↓mk_put, ↓g_append, ↓g_extend, ↓g_count, ↓ma_append, ↓len_put, ↓sl_take, ↓sl_drop, ↓x_app, ↓bc_range, ↓bc_int, ↓is_int_int, ↓is_int_bool, ↓is_str_str, ↓is_tup_tup, ↓is_bool_bool, ↓is_bool_int, ↓reduceIte, String.reduceEq, ↓rd_of q8, ↓need_of (show (3 : Int).natAbs < 2 ^ 64 ∨ (T : Int).natAbs < 2 ^ 64 by left; decide), ↓bc_len hr4 (by omega), ↓need_of hpos, ↓it_l hr4]))
    have hm0 := Int.emod_nonneg (c + 3 * T) (Int.ne_of_gt hpos)
    have hm1 := Int.emod_lt_of_pos (c + 3 * T) hpos
    refine rdi_in hm0 (by omega) (by omega) fun d hd => ?_
    obtain ⟨mv, hmv, rfl⟩ := of_at_map hd
    have hmem := List.mem_of_getElem? hmv
    (repeat (first | refine seqN ?_ | simp only [↓x_nil, ↓x_cons, ↓seq_ret, ↓seq_cont, ↓turn_next, ↓turn_cont, ↓turn_ret, ↓x_assign, ↓x_ite, ↓x_loop_loc, ↓x_loop_bcall, ↓x_loop_call, ↓x_loop_item, ↓x_loop_tup, ↓x_loop_zip, ↓x_while, ↓x_ret, ↓x_cont, ↓x_expr, ↓x_raise, ↓e_none, ↓e_bool, ↓e_int, ↓e_str, ↓e_neg, ↓e_loc, ↓e_glob, ↓e_bin, ↓e_not, ↓e_and, ↓e_or, ↓e_cmp, ↓e_call, ↓e_bcall, ↓e_meth, ↓e_item, ↓e_slice, ↓e_tup, ↓e_list, ↓e_comp, ↓es_nil, ↓es_cons, ↓b_one, ↓b_and, ↓b_or, ↓a_nil, ↓a_and, ↓a_or, ↓cs_nil, ↓cs_cons, ↓c_one, ↓c_two, ↓t_not, ↓t_and, ↓t_or, ↓t_cmp, ↓t_call, ↓t_bcall, ↓t_loc, ↓tr_bool, ↓as_name, ↓as_2, ↓as_3, ↓sets_nil, ↓sets_cons, ↓ret_ret, ↓ret_next, ↓br_true, ↓br_false, ↓br_not, ↓rd_set, ↓rdi_0, ↓rdi_1, ↓g_len, ↓g_isinstance, ↓g_range, ↓g_int, ↓g_tuple, ↓g_list, ↓g_dict, ↓g_min, ↓g_all, ↓mt_count, ↓it_tup, ↓it_put, ↓bin_add, ↓bin_sub, ↓bin_mul, ↓bin_mod, ↓bin_div, ↓bin_tup, ↓cm_eq, ↓cm_ne, ↓cm_lt, ↓cm_le, ↓cm_gt, ↓cm_ge, ↓cm_in, ↓cm_nin, ↓eq_str, ↓eq_int, ↓in_strs, ↓bc_len_1, ↓bc_len_2, ↓lit_10, ↓lit_20, ↓lit_11, ↓lit_22, ↓mk_put, ↓g_append, ↓g_extend, ↓g_count, ↓ma_append, ↓len_put, ↓sl_take, ↓sl_drop, ↓x_app, ↓bc_range, ↓bc_int, ↓is_int_int, ↓is_int_bool, ↓is_str_str, ↓is_tup_tup, ↓is_bool_bool, ↓is_bool_int, ↓reduceIte, String.reduceEq, ↓H.behind.gate, ↓rd_of q2, ↓rd_of q3, ↓rd_of q4]))
    refine c_behind H0 H.behind H.is_form (hE4 _ _ ha') (hE4 _ _ hb') G hmem fun σ5 hE5 => ?_
    have G' := good_after G hmem
    have hla := left_after G hmem
    have hpa := pot_after G hmem
    generalize afterOf lane ways st mv = st' at G' hla hpa
    have ha5 := hE5 _ _ (hE4 _ _ ha')
    have hb5 := hE5 _ _ (hE4 _ _ hb')
    obtain ⟨w, t⟩ := mv
    have hw : ∃ A' : Nat, (leftOf lane.length ways st : Int) - b2i (!decide (w = Word.aside)) = (leftOf lane.length ways st' : Nat) ∧ (A : Int) + b2i (decide (w = Word.aside)) = (A' : Nat) ∧ ((T + 1 : Nat) : Int) = B - leftOf lane.length ways st' + A' := by
      by_cases e : w = .aside
      · subst e; refine ⟨A + 1, ?_⟩; simp [b2i] at hla ⊢; omega
      · refine ⟨A, ?_⟩; simp [b2i, e] at hla ⊢; omega
    obtain ⟨A', e1, e2, e3⟩ := hw
    (repeat (first | refine seqN ?_ | simp only [↓x_nil, ↓x_cons, ↓seq_ret, ↓seq_cont, ↓turn_next, ↓turn_cont, ↓turn_ret, ↓x_assign, ↓x_ite, ↓x_loop_loc, ↓x_loop_bcall, ↓x_loop_call, ↓x_loop_item, ↓x_loop_tup, ↓x_loop_zip, ↓x_while, ↓x_ret, ↓x_cont, ↓x_expr, ↓x_raise, ↓e_none, ↓e_bool, ↓e_int, ↓e_str, ↓e_neg, ↓e_loc, ↓e_glob, ↓e_bin, ↓e_not, ↓e_and, ↓e_or, ↓e_cmp, ↓e_call, ↓e_bcall, ↓e_meth, ↓e_item, ↓e_slice, ↓e_tup, ↓e_list, ↓e_comp, ↓es_nil, ↓es_cons, ↓b_one, ↓b_and, ↓b_or, ↓a_nil, ↓a_and, ↓a_or, ↓cs_nil, ↓cs_cons, ↓c_one, ↓c_two, ↓t_not, ↓t_and, ↓t_or, ↓t_cmp, ↓t_call, ↓t_bcall, ↓t_loc, ↓tr_bool, ↓as_name, ↓as_2, ↓as_3, ↓sets_nil, ↓sets_cons, ↓ret_ret, ↓ret_next, ↓br_true, ↓br_false, ↓br_not, ↓rd_set, ↓rdi_0, ↓rdi_1, ↓g_len, ↓g_isinstance, ↓g_range, ↓g_int, ↓g_tuple, ↓g_list, ↓g_dict, ↓g_min, ↓g_all, ↓mt_count, ↓it_tup, ↓it_put, ↓bin_add, ↓bin_sub, ↓bin_mul, ↓bin_mod, ↓bin_div, ↓bin_tup, ↓cm_eq, ↓cm_ne, ↓cm_lt, ↓cm_le, ↓cm_gt, ↓cm_ge, ↓cm_in, ↓cm_nin, ↓eq_str, ↓eq_int, ↓in_strs, ↓bc_len_1, ↓bc_len_2, ↓lit_10, ↓lit_20, ↓lit_11, ↓lit_22, ↓mk_put, ↓g_append, ↓g_extend, ↓g_count, ↓ma_append, ↓len_put, ↓sl_take, ↓sl_drop, ↓x_app, ↓bc_range, ↓bc_int, ↓is_int_int, ↓is_int_bool, ↓is_str_str, ↓is_tup_tup, ↓is_bool_bool, ↓is_bool_int, ↓reduceIte, String.reduceEq, ↓rd_of q2, ↓rd_of q3, ↓rd_of q4, ↓rd_of q5, ↓rd_of q6, ↓rd_of q7, ↓rd_of q8, ↓moveD, ↓eq_aside, ↓H.left_to_go.gate]))
    rw [e1]
    refine c_left_to_go H0 H.left_to_go ha5 hb5 G' ?_
    (repeat (first | refine seqN ?_ | simp only [↓x_nil, ↓x_cons, ↓seq_ret, ↓seq_cont, ↓turn_next, ↓turn_cont, ↓turn_ret, ↓x_assign, ↓x_ite, ↓x_loop_loc, ↓x_loop_bcall, ↓x_loop_call, ↓x_loop_item, ↓x_loop_tup, ↓x_loop_zip, ↓x_while, ↓x_ret, ↓x_cont, ↓x_expr, ↓x_raise, ↓e_none, ↓e_bool, ↓e_int, ↓e_str, ↓e_neg, ↓e_loc, ↓e_glob, ↓e_bin, ↓e_not, ↓e_and, ↓e_or, ↓e_cmp, ↓e_call, ↓e_bcall, ↓e_meth, ↓e_item, ↓e_slice, ↓e_tup, ↓e_list, ↓e_comp, ↓es_nil, ↓es_cons, ↓b_one, ↓b_and, ↓b_or, ↓a_nil, ↓a_and, ↓a_or, ↓cs_nil, ↓cs_cons, ↓c_one, ↓c_two, ↓t_not, ↓t_and, ↓t_or, ↓t_cmp, ↓t_call, ↓t_bcall, ↓t_loc, ↓tr_bool, ↓as_name, ↓as_2, ↓as_3, ↓sets_nil, ↓sets_cons, ↓ret_ret, ↓ret_next, ↓br_true, ↓br_false, ↓br_not, ↓rd_set, ↓rdi_0, ↓rdi_1, ↓g_len, ↓g_isinstance, ↓g_range, ↓g_int, ↓g_tuple, ↓g_list, ↓g_dict, ↓g_min, ↓g_all, ↓mt_count, ↓it_tup, ↓it_put, ↓bin_add, ↓bin_sub, ↓bin_mul, ↓bin_mod, ↓bin_div, ↓bin_tup, ↓cm_eq, ↓cm_ne, ↓cm_lt, ↓cm_le, ↓cm_gt, ↓cm_ge, ↓cm_in, ↓cm_nin, ↓eq_str, ↓eq_int, ↓in_strs, ↓bc_len_1, ↓bc_len_2, ↓lit_10, ↓lit_20, ↓lit_11, ↓lit_22, ↓mk_put, ↓g_append, ↓g_extend, ↓g_count, ↓ma_append, ↓len_put, ↓sl_take, ↓sl_drop, ↓x_app, ↓bc_range, ↓bc_int, ↓is_int_int, ↓is_int_bool, ↓is_str_str, ↓is_tup_tup, ↓is_bool_bool, ↓is_bool_int, ↓reduceIte, String.reduceEq, ↓H.left.gate, ↓rd_of q2, ↓rd_of q3, ↓br_pos (rfl : ((leftOf lane.length ways st' : Nat) : Int) = (leftOf lane.length ways st' : Nat))]))
    refine c_left H0 H.left ha5 hb5 G' fun σ6 hE6 => ?_
    (repeat (first | refine seqN ?_ | simp only [↓x_nil, ↓x_cons, ↓seq_ret, ↓seq_cont, ↓turn_next, ↓turn_cont, ↓turn_ret, ↓x_assign, ↓x_ite, ↓x_loop_loc, ↓x_loop_bcall, ↓x_loop_call, ↓x_loop_item, ↓x_loop_tup, ↓x_loop_zip, ↓x_while, ↓x_ret, ↓x_cont, ↓x_expr, ↓x_raise, ↓e_none, ↓e_bool, ↓e_int, ↓e_str, ↓e_neg, ↓e_loc, ↓e_glob, ↓e_bin, ↓e_not, ↓e_and, ↓e_or, ↓e_cmp, ↓e_call, ↓e_bcall, ↓e_meth, ↓e_item, ↓e_slice, ↓e_tup, ↓e_list, ↓e_comp, ↓es_nil, ↓es_cons, ↓b_one, ↓b_and, ↓b_or, ↓a_nil, ↓a_and, ↓a_or, ↓cs_nil, ↓cs_cons, ↓c_one, ↓c_two, ↓t_not, ↓t_and, ↓t_or, ↓t_cmp, ↓t_call, ↓t_bcall, ↓t_loc, ↓tr_bool, ↓as_name, ↓as_2, ↓as_3, ↓sets_nil, ↓sets_cons, ↓ret_ret, ↓ret_next, ↓br_true, ↓br_false, ↓br_not, ↓rd_set, ↓rdi_0, ↓rdi_1, ↓g_len, ↓g_isinstance, ↓g_range, ↓g_int, ↓g_tuple, ↓g_list, ↓g_dict, ↓g_min, ↓g_all, ↓mt_count, ↓it_tup, ↓it_put, ↓bin_add, ↓bin_sub, ↓bin_mul, ↓bin_mod, ↓bin_div, ↓bin_tup, ↓cm_eq, ↓cm_ne, ↓cm_lt, ↓cm_le, ↓cm_gt, ↓cm_ge, ↓cm_in, ↓cm_nin, ↓eq_str, ↓eq_int, ↓in_strs, ↓bc_len_1, ↓bc_len_2, ↓lit_10, ↓lit_20, ↓lit_11, ↓lit_22, ↓mk_put, ↓g_append, ↓g_extend, ↓g_count, ↓ma_append, ↓len_put, ↓sl_take, ↓sl_drop, ↓x_app, ↓bc_range, ↓bc_int, ↓is_int_int, ↓is_int_bool, ↓is_str_str, ↓is_tup_tup, ↓is_bool_bool, ↓is_bool_int, ↓reduceIte, String.reduceEq, ↓H.allowed.gate, ↓rd_of q2, ↓rd_of q3, ↓br_pos (rfl : ((leftOf lane.length ways st' : Nat) : Int) = (leftOf lane.length ways st' : Nat))]))
    refine c_allowed H0 H.allowed (hE6 _ _ ha5) (hE6 _ _ hb5) G' fun r7 σ7 hE7 h7 hr7 => ?_
    (repeat (first | refine seqN ?_ | simp only [↓x_nil, ↓x_cons, ↓seq_ret, ↓seq_cont, ↓turn_next, ↓turn_cont, ↓turn_ret, ↓x_assign, ↓x_ite, ↓x_loop_loc, ↓x_loop_bcall, ↓x_loop_call, ↓x_loop_item, ↓x_loop_tup, ↓x_loop_zip, ↓x_while, ↓x_ret, ↓x_cont, ↓x_expr, ↓x_raise, ↓e_none, ↓e_bool, ↓e_int, ↓e_str, ↓e_neg, ↓e_loc, ↓e_glob, ↓e_bin, ↓e_not, ↓e_and, ↓e_or, ↓e_cmp, ↓e_call, ↓e_bcall, ↓e_meth, ↓e_item, ↓e_slice, ↓e_tup, ↓e_list, ↓e_comp, ↓es_nil, ↓es_cons, ↓b_one, ↓b_and, ↓b_or, ↓a_nil, ↓a_and, ↓a_or, ↓cs_nil, ↓cs_cons, ↓c_one, ↓c_two, ↓t_not, ↓t_and, ↓t_or, ↓t_cmp, ↓t_call, ↓t_bcall, ↓t_loc, ↓tr_bool, ↓as_name, ↓as_2, ↓as_3, ↓sets_nil, ↓sets_cons, ↓ret_ret, ↓ret_next, ↓br_true, ↓br_false, ↓br_not, ↓rd_set, ↓rdi_0, ↓rdi_1, ↓g_len, ↓g_isinstance, ↓g_range, ↓g_int, ↓g_tuple, ↓g_list, ↓g_dict, ↓g_min, ↓g_all, ↓mt_count, ↓it_tup, ↓it_put, ↓bin_add, ↓bin_sub, ↓bin_mul, ↓bin_mod, ↓bin_div, ↓bin_tup, ↓cm_eq, ↓cm_ne, ↓cm_lt, ↓cm_le, ↓cm_gt, ↓cm_ge, ↓cm_in, ↓cm_nin, ↓eq_str, ↓eq_int, ↓in_strs, ↓bc_len_1, ↓bc_len_2, ↓lit_10, ↓lit_20, ↓lit_11, ↓lit_22, ↓mk_put, ↓g_append, ↓g_extend, ↓g_count, ↓ma_append, ↓len_put, ↓sl_take, ↓sl_drop, ↓x_app, ↓bc_range, ↓bc_int, ↓is_int_int, ↓is_int_bool, ↓is_str_str, ↓is_tup_tup, ↓is_bool_bool, ↓is_bool_int, ↓reduceIte, String.reduceEq]))
    refine ⟨_, hpa, st', A', T + 1, r7, G', (((hE.trans hE4).trans hE5).trans hE6).trans hE7, q1, q2, q3, rfl, rfl, q6, ?_, ?_, rfl, hr7, e3, rfl, by omega⟩
    · rw [← e2]; rfl
    · rw [Int.natCast_add]; rfl
end
end
end Mine

/-! LP9 -/
open PySem
set_option Elab.async false
set_option autoImplicit false
set_option linter.unusedVariables false
namespace Mine
noncomputable section
theorem fn_of {g : Gx} (O : GOk g) {f : String} {ps : List String} {xs : List Sx} (h : ∃ a, g.addr f = some a ∧ FnOk g a ps xs) : Fn g.kx f ps xs where
  is := fun n => by obtain ⟨a, ha, _⟩ := h; show (g.addr f).isSome = true; rw [ha]; rfl
  run := fun n ds σ Q hl q a' e => by
    obtain ⟨a, ha, F⟩ := h
    rw [ha] at e; cases e
    exact fn_sound O F hl q
end
end Mine

/-! LF03 -/
open PySem PySem.W PyProof.Rows
set_option Elab.async false
namespace Mine
noncomputable section
def lawNames : List String := ["is_count", "need_lane", "need_ways", "is_spot", "need_stand", "ahead_of", "is_clear", "moves_of", "all_moves", "after", "_law_cell_at", "_law_mixed", "_law_spot", "_law_built", "left_to_go", "allowed", "is_form", "behind", "_law_whole", "_law_left", "_law_stuck", "law"]
def lawConsts : List (String × Int) := [("MOST_PLACES", 8), ("MOST_HELD", 4), ("MOST_TRAINS", 6)]
def lawChecks (q : Program) (loose : List Str) : Bool := importsNone q && defsIn q lawNames && constsIn q lawConsts && bltsIn q loose &&
  fnIs q "is_count" p_is_count b_is_count &&
  fnIs q "need_lane" p_need_lane b_need_lane &&
  fnIs q "need_ways" p_need_ways b_need_ways &&
  fnIs q "is_spot" p_is_spot b_is_spot &&
  fnIs q "need_stand" p_need_stand b_need_stand &&
  fnIs q "ahead_of" p_ahead_of b_ahead_of &&
  fnIs q "is_clear" p_is_clear b_is_clear &&
  fnIs q "moves_of" p_moves_of b_moves_of &&
  fnIs q "all_moves" p_all_moves b_all_moves &&
  fnIs q "after" p_after b_after &&
  fnIs q "_law_cell_at" p_law_cell_at b_law_cell_at &&
  fnIs q "_law_mixed" p_law_mixed b_law_mixed &&
  fnIs q "_law_spot" p_law_spot b_law_spot &&
  fnIs q "_law_built" p_law_built b_law_built &&
  fnIs q "left_to_go" p_left_to_go b_left_to_go &&
  fnIs q "allowed" p_allowed b_allowed &&
  fnIs q "is_form" p_is_form b_is_form &&
  fnIs q "behind" p_behind b_behind &&
  fnIs q "_law_whole" p_law_whole b_law_whole &&
  fnIs q "_law_left" p_law_left b_law_left &&
  fnIs q "_law_stuck" p_law_stuck b_law_stuck &&
  fnIs q "law" p_law b_law
theorem law_defs {C : Cx} {q : Program} {loose : List Str} {mean : ExcName → Option Value} {h : Heap} {mg mb : Str → Option Value} {l : Addr} (c : lawChecks q loose = true) (H : HeadIs q loose mean h mg mb l) : L03 (Gx.kx ⟨C, gOf h l, addrOf mg lawNames, globOf lawConsts⟩) := by
  obtain ⟨c, c_law⟩ := an c
  obtain ⟨c, c_stuck⟩ := an c
  obtain ⟨c, c_left⟩ := an c
  obtain ⟨c, c_whole⟩ := an c
  obtain ⟨c, c_behind⟩ := an c
  obtain ⟨c, c_is_form⟩ := an c
  obtain ⟨c, c_allowed⟩ := an c
  obtain ⟨c, c_left_to_go⟩ := an c
  obtain ⟨c, c_built⟩ := an c
  obtain ⟨c, c_spot⟩ := an c
  obtain ⟨c, c_mixed⟩ := an c
  obtain ⟨c, c_cell_at⟩ := an c
  obtain ⟨c, c_after⟩ := an c
  obtain ⟨c, c_all_moves⟩ := an c
  obtain ⟨c, c_moves_of⟩ := an c
  obtain ⟨c, c_is_clear⟩ := an c
  obtain ⟨c, c_ahead_of⟩ := an c
  obtain ⟨c, c_need_stand⟩ := an c
  obtain ⟨c, c_is_spot⟩ := an c
  obtain ⟨c, c_need_ways⟩ := an c
  obtain ⟨c, c_need_lane⟩ := an c
  obtain ⟨c, c_is_count⟩ := an c
  obtain ⟨c, cb⟩ := an c; obtain ⟨c, cc⟩ := an c; obtain ⟨c, ca⟩ := an c
  have O := gok_of (C := C) (names := lawNames) (consts := lawConsts) H ca cc cb
  exact {
    gint := fun _ => rfl, gbool := fun _ => rfl, gstr := fun _ => rfl, gtuple := fun _ => rfl, glist := fun _ => rfl, g8 := fun _ => rfl, g4 := fun _ => rfl, g6 := fun _ => rfl
    is_count := fn_of O (fnok_of (C := C) (names := lawNames) (glob := globOf lawConsts) H (by decide) c_is_count)
    need_lane := fn_of O (fnok_of (C := C) (names := lawNames) (glob := globOf lawConsts) H (by decide) c_need_lane)
    need_ways := fn_of O (fnok_of (C := C) (names := lawNames) (glob := globOf lawConsts) H (by decide) c_need_ways)
    is_spot := fn_of O (fnok_of (C := C) (names := lawNames) (glob := globOf lawConsts) H (by decide) c_is_spot)
    need_stand := fn_of O (fnok_of (C := C) (names := lawNames) (glob := globOf lawConsts) H (by decide) c_need_stand)
    ahead_of := fn_of O (fnok_of (C := C) (names := lawNames) (glob := globOf lawConsts) H (by decide) c_ahead_of)
    is_clear := fn_of O (fnok_of (C := C) (names := lawNames) (glob := globOf lawConsts) H (by decide) c_is_clear)
    moves_of := fn_of O (fnok_of (C := C) (names := lawNames) (glob := globOf lawConsts) H (by decide) c_moves_of)
    all_moves := fn_of O (fnok_of (C := C) (names := lawNames) (glob := globOf lawConsts) H (by decide) c_all_moves)
    after := fn_of O (fnok_of (C := C) (names := lawNames) (glob := globOf lawConsts) H (by decide) c_after)
    cell_at := fn_of O (fnok_of (C := C) (names := lawNames) (glob := globOf lawConsts) H (by decide) c_cell_at)
    mixed := fn_of O (fnok_of (C := C) (names := lawNames) (glob := globOf lawConsts) H (by decide) c_mixed)
    spot := fn_of O (fnok_of (C := C) (names := lawNames) (glob := globOf lawConsts) H (by decide) c_spot)
    built := fn_of O (fnok_of (C := C) (names := lawNames) (glob := globOf lawConsts) H (by decide) c_built)
    left_to_go := fn_of O (fnok_of (C := C) (names := lawNames) (glob := globOf lawConsts) H (by decide) c_left_to_go)
    allowed := fn_of O (fnok_of (C := C) (names := lawNames) (glob := globOf lawConsts) H (by decide) c_allowed)
    is_form := fn_of O (fnok_of (C := C) (names := lawNames) (glob := globOf lawConsts) H (by decide) c_is_form)
    behind := fn_of O (fnok_of (C := C) (names := lawNames) (glob := globOf lawConsts) H (by decide) c_behind)
    whole := fn_of O (fnok_of (C := C) (names := lawNames) (glob := globOf lawConsts) H (by decide) c_whole)
    left := fn_of O (fnok_of (C := C) (names := lawNames) (glob := globOf lawConsts) H (by decide) c_left)
    stuck := fn_of O (fnok_of (C := C) (names := lawNames) (glob := globOf lawConsts) H (by decide) c_stuck)
    law := fn_of O (fnok_of (C := C) (names := lawNames) (glob := globOf lawConsts) H (by decide) c_law) }
theorem checks_of {q : Program} {loose : List Str} {mean : ExcName → Option Value} {h : Heap} {mg mb : Str → Option Value} (T : Top q loose mean mg mb h) (c : lawChecks q loose = true) : lawChecks q loose = true := c
theorem law_seer {q : Program} {loose : List Str} (c : lawChecks q loose = true) : importsNone q = true := by
  replace c := (an c).1
  replace c := (an c).1
  replace c := (an c).1
  replace c := (an c).1
  replace c := (an c).1
  replace c := (an c).1
  replace c := (an c).1
  replace c := (an c).1
  replace c := (an c).1
  replace c := (an c).1
  replace c := (an c).1
  replace c := (an c).1
  replace c := (an c).1
  replace c := (an c).1
  replace c := (an c).1
  replace c := (an c).1
  replace c := (an c).1
  replace c := (an c).1
  replace c := (an c).1
  replace c := (an c).1
  replace c := (an c).1
  replace c := (an c).1
  exact (an (an (an c).1).1).1
end
end Mine
set_option maxRecDepth 100000 in
set_option maxHeartbeats 8000000 in
theorem PySem.Challenge.cw_uf040030_03_holds : PySem.Challenge.rw_uf040030_03.Holds := by
  w_on
  o_law
  o_head Hook.none
  case hw => w_witness2
  intro w s₀ s₁ mg mb G Y fa o pm cd doc dV kV ho hd hcd hD hmg hg args vals as hpre hlay hrd hwl hlo
  refine Ground.open G ?_
  intro T B D TE TW
  clear B D TE TW hcd hD hd ho
  wrow_args hpre hlay hrd hwl hlo
  rename_i ns _ _ _ _ _ _ _ l vs _ hL _ _ _ hI _ hn _
  obtain ⟨lo, h1, h2, m, h3⟩ := hL
  have hck := Mine.checks_of T (by kernel_rfl)
  obtain ⟨mm, ⟨om, es, ep, e1, e2, _⟩, _⟩ := (T.seer (Mine.law_seer hck)).mods
  have H : Mine.HeadIs _ _ _ s₁.heap mg mb l := ⟨T, ⟨_, e1⟩, ⟨lo, _, m, h1, h3⟩, by rintro rfl; rw [h1] at e1; cases e1; rw [h3] at e2; cases e2⟩
  have L := Mine.law_defs (C := ⟨PySem.Challenge.rw_uf040030_03.row.prog, w, s₁.os⟩) hck H
  have hS := Mine.c_law (n := 0) (l := l) (lo := lo) (ns := ns) L (σ := Mine.σ₀ l lo ns) (Q := fun d σ' => d = .bool true ∧ σ' l = some (.rl lo (ns.map Mine.D.int))) (by unfold Mine.σ₀; exact if_pos rfl) (by omega) (fun σ' hE => ⟨rfl, hE _ _ (by unfold Mine.σ₀; exact if_pos rfl)⟩)
  have hfa : Mine.addrOf mg Mine.lawNames "law" = some fa := by
    have hmg' : mg (Str.ofString "law") = some (.ref fa) := hmg
    unfold Mine.addrOf; rw [if_pos (show Mine.lawNames.contains "law" = true by decide), hmg']
  refine wpAny_mono (Mine.law_runs (n := 5) (C := ⟨PySem.Challenge.rw_uf040030_03.row.prog, w, s₁.os⟩) ⟨rfl, by decide, by decide⟩ h1 h2 h3 hI hg rfl (hS fa hfa)) (fun v s' h => ?_) (fun _ _ x => x)
  obtain ⟨rfl, hk, hos, hgs⟩ := h
  exact GoodW.toG ⟨.inl ⟨.bool true, .bool true, [], rfl, raisesW_false (by wrow_none_raised), .bool true, by wrow_post, fun _ => ⟨List.nodup_nil, by simp⟩⟩, hk, hos, hgs⟩
