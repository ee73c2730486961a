import PyProof.Rows.All
import HandS.ForMost
import HandS.ForExc
import HandS.Deep
import HandS.IsInst
import HandS.TupAny
import HandS.Conv
import HandS.TupMul
import HandS.SortInts
import PyProof.P3In
import KE.SortData
import HandS.SetFor
import HandS.Strs
import PyProof.ReprRoads
import PySem.Challenge.RW_boxkinds_k54_whole_sets_that_stay
set_option Elab.async false
set_option linter.all false
set_option maxRecDepth 100000

/-! DL1: the data layer: deep data in the heap, a frame's state, readings by meaning. -/
namespace DL
open PySem PySem.Spec L2
open PyProof.Rows hiding St

/-! ### data in the heap -/
mutual
inductive Df (K : PySem.W.Frag) (H : Hp) (g : Addr → Prop) : V → PyData → Prop
  | non : Df K H g .non .none
  | bl (b : Bool) : Df K H g (.bl b) (.bool b)
  | int (i : Int) : Df K H g (.int i) (.int i)
  | str (x : Str) : Df K H g (.str x) (.str x)
  | lst {a : Addr} {xs : List V} {ds : List PyData} : g a → H a = some (.lst xs) → xs.length ≤ sizeLine → DfAll K H g xs ds → Df K H g (.ref a) (.list ds)
  | tup {a : Addr} {xs : List V} {ds : List PyData} : SqT K H a xs → xs.length ≤ sizeLine → DfAll K H g xs ds → Df K H g (.ref a) (.tuple ds)
inductive DfAll (K : PySem.W.Frag) (H : Hp) (g : Addr → Prop) : List V → List PyData → Prop
  | nil : DfAll K H g [] []
  | cons {v : V} {vs : List V} {d : PyData} {ds : List PyData} : Df K H g v d → DfAll K H g vs ds → DfAll K H g (v :: vs) (d :: ds)
end

section
variable {K : PySem.W.Frag} {H H' : Hp} {g g' : Addr → Prop}
theorem DfAll.length {g : Addr → Prop} : ∀ {vs : List V} {ds : List PyData}, DfAll K H g vs ds → vs.length = ds.length
  | _, _, .nil => rfl
  | _, _, .cons _ t => by rw [List.length_cons, List.length_cons, DfAll.length t]
mutual
theorem Df.mono (hl : ∀ a u, g a → H a = some (.lst u) → g' a ∧ H' a = some (.lst u)) (ht : ∀ a u, SqT K H a u → SqT K H' a u) : ∀ {d : PyData} {v : V}, Df K H g v d → Df K H' g' v d
  | _, _, .non => .non
  | _, _, .bl b => .bl b
  | _, _, .int i => .int i
  | _, _, .str x => .str x
  | _, _, .lst h1 h2 h3 h4 => .lst (hl _ _ h1 h2).1 (hl _ _ h1 h2).2 h3 (DfAll.mono hl ht h4)
  | _, _, .tup h1 h2 h3 => .tup (ht _ _ h1) h2 (DfAll.mono hl ht h3)
theorem DfAll.mono (hl : ∀ a u, g a → H a = some (.lst u) → g' a ∧ H' a = some (.lst u)) (ht : ∀ a u, SqT K H a u → SqT K H' a u) : ∀ {ds : List PyData} {vs : List V}, DfAll K H g vs ds → DfAll K H' g' vs ds
  | _, _, .nil => .nil
  | _, _, .cons h1 h2 => .cons (Df.mono hl ht h1) (DfAll.mono hl ht h2)
end
mutual
theorem Df.dp : ∀ {d : PyData} {v : V}, Df K H g v d → Dp K H v d
  | _, _, .non => .non
  | _, _, .bl b => .bl b
  | _, _, .int i => .int i
  | _, _, .str x => .str x
  | _, _, .lst _ h2 _ h4 => .lst (.inl (.inl h2)) (DfAll.dp h4)
  | _, _, .tup h1 _ h3 => .tup h1 (DfAll.dp h3)
theorem DfAll.dp : ∀ {ds : List PyData} {vs : List V}, DfAll K H g vs ds → DpAll K H vs ds
  | _, _, .nil => .nil
  | _, _, .cons h1 h2 => .cons (Df.dp h1) (DfAll.dp h2)
end
theorem Df.avoid {p : Addr} (h : H p = none) {v : V} {d : PyData} (x : Df K H g v d) : Df K H (fun a => g a ∧ a ≠ p) v d := x.mono (fun a u q e => ⟨⟨q, ne_of_none e h⟩, e⟩) fun _ _ q => q
theorem DfAll.avoid {p : Addr} (h : H p = none) {v : List V} {d : List PyData} (x : DfAll K H g v d) : DfAll K H (fun a => g a ∧ a ≠ p) v d := x.mono (fun a u q e => ⟨⟨q, ne_of_none e h⟩, e⟩) fun _ _ q => q
theorem DfAll.unavoid {p : Addr} {v : List V} {d : List PyData} (x : DfAll K H (fun a => g a ∧ a ≠ p) v d) : DfAll K H g v d := x.mono (fun a u q e => ⟨q.1, e⟩) fun _ _ q => q
theorem DfAll.get : ∀ {vs : List V} {ds : List PyData} {i : Nat} {d : PyData}, DfAll K H g vs ds → ds[i]? = some d → ∃ v, vs[i]? = some v ∧ Df K H g v d
  | _, _, _, _, .nil, e => by simp at e
  | _, _, 0, _, .cons h _, e => by simp at e; subst e; exact ⟨_, rfl, h⟩
  | _, _, i + 1, d, .cons _ t, e => by
    obtain ⟨v, h1, h2⟩ := DfAll.get (i := i) (d := d) t (by simpa using e)
    exact ⟨v, by simpa using h1, h2⟩
theorem DfAll.getV : ∀ {vs : List V} {ds : List PyData} {i : Nat} {v : V}, DfAll K H g vs ds → vs[i]? = some v → ∃ d, ds[i]? = some d ∧ Df K H g v d
  | _, _, _, _, .nil, e => by simp at e
  | _, _, 0, _, .cons h _, e => by simp at e; subst e; exact ⟨_, rfl, h⟩
  | _, _, i + 1, d, .cons _ t, e => by
    obtain ⟨v, h1, h2⟩ := DfAll.getV (i := i) (v := d) t (by simpa using e)
    exact ⟨v, by simpa using h1, h2⟩
theorem DfAll.append : ∀ {vs us : List V} {ds es : List PyData}, DfAll K H g vs ds → DfAll K H g us es → DfAll K H g (vs ++ us) (ds ++ es)
  | _, _, _, _, .nil, s => s
  | _, _, _, _, .cons h t, s => .cons h (DfAll.append t s)
theorem DfAll.take : ∀ {vs : List V} {ds : List PyData} (n : Nat), DfAll K H g vs ds → DfAll K H g (vs.take n) (ds.take n)
  | _, _, 0, _ => .nil
  | _, _, _ + 1, .nil => .nil
  | _, _, n + 1, .cons h t => .cons h (DfAll.take n t)
theorem DfAll.drop : ∀ {vs : List V} {ds : List PyData} (n : Nat), DfAll K H g vs ds → DfAll K H g (vs.drop n) (ds.drop n)
  | _, _, 0, h => h
  | _, _, _ + 1, .nil => .nil
  | _, _, n + 1, .cons _ t => DfAll.drop n t
theorem DfAll.set : ∀ {vs : List V} {ds : List PyData} {v : V} {d : PyData} (n : Nat), DfAll K H g vs ds → Df K H g v d → DfAll K H g (vs.set n v) (ds.set n d)
  | _, _, _, _, _, .nil, _ => .nil
  | _, _, _, _, 0, .cons _ t, h => .cons h t
  | _, _, _, _, n + 1, .cons h t, q => .cons h (DfAll.set n t q)
theorem DfAll.of_ints : ∀ ns : List Int, DfAll K H g (ns.map V.int) (ns.map PyData.int)
  | [] => .nil
  | n :: r => .cons (.int n) (DfAll.of_ints r)
theorem DfAll.ints_inv : ∀ {ns : List Int} {vs : List V}, DfAll K H g vs (ns.map PyData.int) → vs = ns.map V.int
  | [], _, .nil => rfl
  | n :: r, _, .cons (.int _) t => by rw [DfAll.ints_inv t]; rfl
theorem DfAll.bls_inv : ∀ {ns : List Bool} {vs : List V}, DfAll K H g vs (ns.map PyData.bool) → vs = ns.map V.bl
  | [], _, .nil => rfl
  | n :: r, _, .cons (.bl _) t => by rw [DfAll.bls_inv t]; rfl
end

/-! ### the state of a def that runs -/
/-- the errors of the program -/
inductive Exn where
  | malformed
  | refused (r : Str)
  | noText (at_ : Int)
/-- what stands in a slot: nothing told, data, a list of one's own, one that is walked, the draw -/
inductive Sl where
  | un
  | d (x : PyData)
  | l (xs : List PyData)
  | lk (xs : List PyData)
  | drw
  | scr (ns : List Int)
/-- the draw: the cells, then the place, the cell that is used up, the seed -/
structure DSt where
  cells : List Int
  place : Int
  cur : Int
  seed : Int
abbrev DS := Option DSt
inductive Out (α : Type) where
  | ok (a : α)
  | exc (x : Exn)
abbrev Ev := List Sl
abbrev Rz (α : Type) := Option (Out α × DS)
abbrev ME (α : Type) := Ev → DS → Rz α
def Rz.bind {α β : Type} (a : Rz α) (f : α → DS → Rz β) : Rz β :=
  match a with
  | some (.ok x, ds) => f x ds
  | some (.exc e, ds) => some (.exc e, ds)
  | none => none
def ME.bind {α β : Type} (a : ME α) (f : α → ME β) : ME β := fun env ds => (a env ds).bind fun x ds' => f x env ds'
def ME.pure {α : Type} (x : α) : ME α := fun _ ds => some (.ok x, ds)
def ME.lift {α : Type} (x : Option α) : ME α := fun _ ds => match x with
  | some a => some (.ok a, ds)
  | none => none

/-- the addresses of the errors' classes -/
structure Exs where
  m : Addr
  r : Addr
  n : Addr
def ExR (C : Exs) (x : Exn) (cls : Value) (d : Option Addr) (H : Hp) : Prop :=
  match x with
  | .malformed => cls = .ref C.m ∧ d = none
  | .refused r => cls = .ref C.r ∧ ∃ a, d = some a ∧ H a = some (.xd [("reason", .str r)])
  | .noText i => cls = .ref C.n ∧ ∃ a, d = some a ∧ H a = some (.xd [("at", .int i)])

/-- a frame's fixed things: the good addresses, the heap at the entry, the draw's list and that of its cells, the slots whose lists are walked -/
structure Gm where
  ok : Addr → Prop
  H0 : Hp
  dr : Option (Addr × Addr)
  lk : List (Nat × Addr)
def Gm.nd (Γ : Gm) (a : Addr) : Prop := ∀ p, Γ.dr = some p → a ≠ p.1
def Sl.own : Sl → Bool
  | .l _ => true
  | .lk _ => true
  | _ => false
def owned (σ : St) (env : Ev) (a : Addr) : Prop := ∃ (i : Nat) (x : Sl), env[i]? = some x ∧ x.own = true ∧ σ[i]? = some (some (V.ref a))
def gd (Γ : Gm) (σ : St) (env : Ev) (a : Addr) : Prop := Γ.ok a ∧ ¬ owned σ env a ∧ Γ.nd a
/-- all but the draw is as it was -/
def Ext (Γ : Gm) (H H' : Hp) : Prop := ∀ a o, Γ.nd a → H a = some o → H' a = some o
def DrR (K : PySem.W.Frag) (Γ : Gm) (H : Hp) (ds : DS) : Prop :=
  match Γ.dr, ds with
  | none, none => True
  | some p, some s => H p.1 = some (.lst [.ref p.2, .int s.place, .int s.cur, .int s.seed]) ∧ H p.2 = some (.lst (s.cells.map V.int)) ∧ s.cells.length ≤ sizeLine ∧ p.2 ≠ p.1 ∧ Γ.ok p.2
  | _, _ => False
/-- the script stands at a -/
def ScrAt (K : PySem.W.Frag) (H : Hp) (a : Addr) (xs : List V) : Prop :=
  (∃ o, H a = some (.frz o (.lst xs))) ∨ ∃ (o : Obj) (its : Array Value) (n : Nat), K.lookup a = some o ∧ o.cls = .type "list" ∧ o.dict = none ∧ o.data = .seq its n ∧ its.size ≤ sizeLine ∧ Vals xs its.toList
theorem ScrAt.sq {K : PySem.W.Frag} {H : Hp} {a : Addr} {xs : List V} (h : ScrAt K H a xs) : SqL K H a xs := by
  rcases h with ⟨o, h⟩ | h
  · exact .inl (.inr ⟨o, h⟩)
  · exact .inr h
def SlR (K : PySem.W.Frag) (Γ : Gm) (H : Hp) (g : Addr → Prop) (v : Option (Option V)) : Sl → Prop
  | .un => True
  | .d x => ∃ u, v = some (some u) ∧ Df K H g u x
  | .l xs => ∃ a us, v = some (some (.ref a)) ∧ H a = some (.lst us) ∧ DfAll K H g us xs ∧ us.length ≤ sizeLine ∧ Γ.H0 a = none ∧ Γ.nd a
  | .lk xs => ∃ a us, v = some (some (.ref a)) ∧ H a = some (.lst us) ∧ DfAll K H g us xs ∧ us.length ≤ sizeLine ∧ Γ.H0 a = none ∧ Γ.nd a
  | .drw => ∃ p, Γ.dr = some p ∧ v = some (some (.ref p.1))
  | .scr ns => ∃ a, v = some (some (.ref a)) ∧ ScrAt K H a (ns.map V.int) ∧ ns.length ≤ 63
structure Rel (K : PySem.W.Frag) (Γ : Gm) (σ : St) (H : Hp) (env : Ev) (ds : DS) : Prop where
  len : σ.length = env.length
  slot : ∀ (i : Nat) (x : Sl), env[i]? = some x → SlR K Γ H (gd Γ σ env) σ[i]? x
  sep : ∀ (i j : Nat) (x y : Sl), i ≠ j → env[i]? = some x → env[j]? = some y → x.own = true → y.own = true → σ[i]? ≠ σ[j]?
  okf : ∀ a, Γ.H0 a = none → Γ.ok a
  ext : Ext Γ Γ.H0 H
  draw : DrR K Γ H ds
  drc : ∀ p, Γ.dr = some p → ¬ owned σ env p.2
  lkd : ∀ p ∈ Γ.lk, ∃ xs, env[p.1]? = some (.lk xs) ∧ σ[p.1]? = some (some (V.ref p.2))

section
variable {K : PySem.W.Frag} {Γ : Gm} {σ : St} {H H1 H2 : Hp} {env : Ev} {ds ds' : DS}
theorem Ext.refl : Ext Γ H H := fun _ _ _ h => h
theorem Ext.trans (a : Ext Γ H H1) (b : Ext Γ H1 H2) : Ext Γ H H2 := fun c o n h => b c o n (a c o n h)
theorem DrR.tracked (h : DrR K Γ H ds) {p : Addr × Addr} (e : Γ.dr = some p) : H p.1 ≠ none := by
  unfold DrR at h
  rw [e] at h
  cases ds with
  | none => exact h.elim
  | some s => intro z; rw [h.1] at z; cases z
theorem Rel.own_at (R : Rel K Γ σ H env ds) {a : Addr} (h : owned σ env a) : ∃ us, H a = some (.lst us) ∧ Γ.H0 a = none ∧ Γ.nd a := by
  obtain ⟨i, x, hx, ho, hs⟩ := h
  have q := R.slot i x hx
  cases x with
  | l xs =>
    obtain ⟨b, us, e, h1, _, _, h2, h3⟩ := q
    rw [hs] at e
    cases e
    exact ⟨us, h1, h2, h3⟩
  | lk xs =>
    obtain ⟨b, us, e, h1, _, _, h2, h3⟩ := q
    rw [hs] at e
    cases e
    exact ⟨us, h1, h2, h3⟩
  | un => cases ho
  | d x => cases ho
  | drw => cases ho
  | scr ns => cases ho
/-- a new address is good -/
theorem Rel.new_gd (R : Rel K Γ σ H env ds) {a : Addr} (h : H a = none) : gd Γ σ env a := by
  have n : Γ.nd a := fun p e z => R.draw.tracked e (by rw [← z]; exact h)
  refine ⟨R.okf a ?_, fun o => ?_, n⟩
  · cases q : Γ.H0 a with
    | none => rfl
    | some o =>
      have := R.ext a o n q
      rw [h] at this
      cases this
  · obtain ⟨us, e, _⟩ := R.own_at o
    rw [h] at e
    cases e
theorem sqT_ext (e : Ext Γ H H1) (d : DrR K Γ H ds) {a : Addr} {u : List V} (h : SqT K H a u) : SqT K H1 a u := by
  rcases h with (h | ⟨o, h⟩) | h
  · refine .inl (.inl (e _ _ (fun p z q => ?_) h))
    unfold DrR at d
    rw [z] at d
    cases ds with
    | none => exact d.elim
    | some s =>
      have := d.1
      rw [← q, h] at this
      cases this
  · refine .inl (.inr ⟨o, e _ _ (fun p z q => ?_) h⟩)
    unfold DrR at d
    rw [z] at d
    cases ds with
    | none => exact d.elim
    | some s =>
      have := d.1
      rw [← q, h] at this
      cases this
  · exact .inr h
theorem frz_ext (e : Ext Γ H H1) (d : DrR K Γ H ds) {a : Addr} {o : Obj} {u : HO} (h : H a = some (.frz o u)) : H1 a = some (.frz o u) := by
  refine e _ _ (fun p z q => ?_) h
  unfold DrR at d
  rw [z] at d
  cases ds with
  | none => exact d.elim
  | some s =>
    have := d.1
    rw [← q, h] at this
    cases this
theorem scr_ext (e : Ext Γ H H1) (d : DrR K Γ H ds) {a : Addr} {xs : List V} (h : ScrAt K H a xs) : ScrAt K H1 a xs := by
  rcases h with ⟨o, h⟩ | h
  · exact .inl ⟨o, frz_ext e d h⟩
  · exact .inr h
theorem Df.ext (e : Ext Γ H H1) (dr : DrR K Γ H ds) {v : V} {d : PyData} (h : Df K H (gd Γ σ env) v d) : Df K H1 (gd Γ σ env) v d :=
  h.mono (fun _ _ q r => ⟨q, e _ _ q.2.2 r⟩) fun _ _ q => sqT_ext e dr q
theorem DfAll.ext (e : Ext Γ H H1) (dr : DrR K Γ H ds) {v : List V} {d : List PyData} (h : DfAll K H (gd Γ σ env) v d) : DfAll K H1 (gd Γ σ env) v d :=
  h.mono (fun _ _ q r => ⟨q, e _ _ q.2.2 r⟩) fun _ _ q => sqT_ext e dr q
theorem Rel.go (R : Rel K Γ σ H env ds) (e : Ext Γ H H1) (d : DrR K Γ H1 ds') : Rel K Γ σ H1 env ds' where
  len := R.len
  slot := fun i x hx => by
    have q := R.slot i x hx
    cases x with
    | un => trivial
    | d y =>
      obtain ⟨u, e1, e2⟩ := q
      exact ⟨u, e1, e2.ext e R.draw⟩
    | l xs =>
      obtain ⟨a, us, e1, e2, e3, e4, e5, e6⟩ := q
      exact ⟨a, us, e1, e a _ e6 e2, e3.ext e R.draw, e4, e5, e6⟩
    | lk xs =>
      obtain ⟨a, us, e1, e2, e3, e4, e5, e6⟩ := q
      exact ⟨a, us, e1, e a _ e6 e2, e3.ext e R.draw, e4, e5, e6⟩
    | drw => exact q
    | scr ns =>
      obtain ⟨a, e1, e2, e3⟩ := q
      exact ⟨a, e1, scr_ext e R.draw e2, e3⟩
  sep := R.sep
  okf := R.okf
  ext := R.ext.trans e
  draw := d
  drc := R.drc
  lkd := R.lkd
/-- a new object laid -/
theorem ext_new {p : Addr} {o : HO} (h : H p = none) : Ext Γ H (upd H p o) := fun a u _ q => by
  rw [upd_ne (ne_of_none q h)]
  exact q
theorem DrR.new {p : Addr} {o : HO} (d : DrR K Γ H ds) (h : H p = none) : DrR K Γ (upd H p o) ds := by
  unfold DrR at d ⊢
  cases e : Γ.dr with
  | none =>
    rw [e] at d
    cases ds with
    | none => trivial
    | some s => exact d
  | some q =>
    rw [e] at d
    cases ds with
    | none => exact d
    | some s =>
      obtain ⟨d1, d2, d3⟩ := d
      refine ⟨?_, ?_, d3⟩
      · rw [upd_ne (ne_of_none d1 h)]; exact d1
      · rw [upd_ne (ne_of_none d2 h)]; exact d2
end

/-! ### readings by meaning -/
def Aft (K : PySem.W.Frag) (C : Exs) (W : WX) (Γ : Gm) (σ : St) (H : Hp) {α : Type} (r : Rz α) (P : α → DS → Hp → Prop) : Prop :=
  match r with
  | some (.ok a, ds') => ∀ H', Ext Γ H H' → DrR K Γ H' ds' → P a ds' H'
  | some (.exc x, ds') => ∀ cls d H', Ext Γ H H' → DrR K Γ H' ds' → ExR C x cls d H' → W cls d σ H'
  | none => False
section
variable {K : PySem.W.Frag} {C : Exs} {W : WX} {Γ : Gm} {σ : St} {H H1 : Hp} {α β : Type}
theorem Aft.bind {r : Rz α} {f : α → DS → Rz β} {P : β → DS → Hp → Prop} (h : Aft K C W Γ σ H (r.bind f) P) : Aft K C W Γ σ H r fun a ds1 H1 => Aft K C W Γ σ H1 (f a ds1) P := by
  unfold Rz.bind at h
  unfold Aft at h ⊢
  rcases r with _ | ⟨a | x, ds⟩
  · exact h
  · intro H1 e1 d1
    dsimp only at h ⊢
    revert h
    rcases f a ds with _ | ⟨b | y, ds2⟩
    · exact fun h => h
    · exact fun h H2 e2 d2 => h H2 (e1.trans e2) d2
    · exact fun h cls d H2 e2 d2 => h cls d H2 (e1.trans e2) d2
  · exact h
theorem Aft.imp {r : Rz α} {P P' : α → DS → Hp → Prop} (h : Aft K C W Γ σ H r P) (f : ∀ a ds1 H1, Ext Γ H H1 → DrR K Γ H1 ds1 → P a ds1 H1 → P' a ds1 H1) : Aft K C W Γ σ H r P' := by
  unfold Aft at h ⊢
  rcases r with _ | ⟨a | x, ds⟩
  · exact h
  · exact fun H1 e1 d1 => f a ds H1 e1 d1 (h H1 e1 d1)
  · exact h
theorem Aft.here {a : α} {ds : DS} {P : α → DS → Hp → Prop} (h : Aft K C W Γ σ H (some (.ok a, ds)) P) (d : DrR K Γ H ds) : P a ds H := h H Ext.refl d
end
/-- a manner of data: what is known of a value behind an expression -/
abbrev Md := PySem.W.Frag → Gm → St → Ev → Hp → V → PyData → Prop
def MD : Md := fun K Γ σ env H v d => Df K H (gd Γ σ env) v d
/-- data whose outermost list may be one's own -/
def MP : Md := fun K Γ σ env H v d =>
  Df K H (gd Γ σ env) v d ∨ ∃ a xs ds, v = .ref a ∧ d = .list ds ∧ H a = some (.lst xs) ∧ Γ.nd a ∧ xs.length ≤ sizeLine ∧ DfAll K H (gd Γ σ env) xs ds
/-- the reading of an expression that gives data -/
def rdG (M : Md) (K : PySem.W.Frag) (C : Exs) (W : WX) (m : ME PyData) : TE := fun σ H Q => ∃ Γ env ds, Rel K Γ σ H env ds ∧
  Aft K C W Γ σ H (m env ds) fun d _ H' => ∀ v, M K Γ σ env H' v d → Q v H'
/-- the good addresses but one -/
def gdx (Γ : Gm) (σ : St) (env : Ev) (p a : Addr) : Prop := gd Γ σ env a ∧ a ≠ p
/-- a new list -/
def rdF (K : PySem.W.Frag) (C : Exs) (W : WX) (m : ME (List PyData)) : TE := fun σ H Q => ∃ Γ env ds, Rel K Γ σ H env ds ∧
  Aft K C W Γ σ H (m env ds) fun xs _ H' => ∀ a us, H a = none → H' a = some (.lst us) → us.length ≤ sizeLine → DfAll K H' (gdx Γ σ env a) us xs → Q (.ref a) H'
/-- a test -/
def rdT (K : PySem.W.Frag) (C : Exs) (W : WX) (m : ME Bool) : TT := fun σ H Q => ∃ Γ env ds, Rel K Γ σ H env ds ∧
  Aft K C W Γ σ H (m env ds) fun b _ H' => Q b H'
/-- arguments -/
def rdA (K : PySem.W.Frag) (C : Exs) (W : WX) (m : ME (List PyData)) : TA := fun σ H Q => ∃ Γ env ds, Rel K Γ σ H env ds ∧
  Aft K C W Γ σ H (m env ds) fun xs _ H' => ∀ vs, DfAll K H' (gd Γ σ env) vs xs → Q vs H'
abbrev SE (X : Cx) (C : Exs) (W : WX) (e : Expr) (m : ME PyData) : Prop := PE X e (rdG MD X.K C W m)
abbrev SP (X : Cx) (C : Exs) (W : WX) (e : Expr) (m : ME PyData) : Prop := PE X e (rdG MP X.K C W m)
abbrev SF (X : Cx) (C : Exs) (W : WX) (e : Expr) (m : ME (List PyData)) : Prop := PE X e (rdF X.K C W m)
abbrev ST (X : Cx) (C : Exs) (W : WX) (e : Expr) (m : ME Bool) : Prop := PT X e (rdT X.K C W m)
abbrev SA (X : Cx) (C : Exs) (W : WX) (es : List Expr) (m : ME (List PyData)) : Prop := PA X es (rdA X.K C W m)
theorem PE.imp {X : Cx} {e : Expr} {t t' : TE} (h : PE X e t) (f : ∀ σ H Q, t' σ H Q → t σ H Q) : PE X e t' := ⟨fun pins s σ H Q I q => h.run pins s σ H Q I (f σ H Q q)⟩
theorem PT.imp {X : Cx} {e : Expr} {t t' : TT} (h : PT X e t) (f : ∀ σ H Q, t' σ H Q → t σ H Q) : PT X e t' := ⟨fun pins s σ H Q I q => h.run pins s σ H Q I (f σ H Q q)⟩
theorem PA.imp {X : Cx} {e : List Expr} {t t' : TA} (h : PA X e t) (f : ∀ σ H Q, t' σ H Q → t σ H Q) : PA X e t' := ⟨fun pos pins s σ H Q I q => h.run pos pins s σ H Q I (f σ H Q q)⟩
end DL

/-! DL2: expressions by their meaning. -/
namespace DL
open PySem PySem.Spec L2
open PyProof.Rows hiding St

section
variable {K : PySem.W.Frag} {Γ : Gm} {σ : St} {H H1 : Hp} {env : Ev} {ds : DS}
/-- what a manner bears -/
structure Pers (M : Md) : Prop where
  ext : ∀ {K : PySem.W.Frag} {Γ : Gm} {σ : St} {env : Ev} {H H1 : Hp} {ds : DS} {v : V} {d : PyData}, Ext Γ H H1 → DrR K Γ H ds → M K Γ σ env H v d → M K Γ σ env H1 v d
  dp : ∀ {K : PySem.W.Frag} {Γ : Gm} {σ : St} {env : Ev} {H : Hp} {v : V} {d : PyData}, M K Γ σ env H v d → Dp K H v d
  pk : ∀ {K : PySem.W.Frag} {Γ : Gm} {σ : St} {env : Ev} {H : Hp} {v : V} {d : PyData}, M K Γ σ env H v d → MP K Γ σ env H v d
theorem persD : Pers MD where
  ext := fun e d h => Df.ext e d h
  dp := fun h => Df.dp h
  pk := fun h => .inl h
theorem persP : Pers MP where
  ext := fun e d h => by
    rcases h with h | ⟨a, xs, ds, e1, e2, e3, e4, e5, e6⟩
    · exact .inl (h.ext e d)
    · exact .inr ⟨a, xs, ds, e1, e2, e _ _ e4 e3, e4, e5, e6.ext e d⟩
  dp := fun h => by
    rcases h with h | ⟨a, xs, ds, e1, e2, e3, e4, e5, e6⟩
    · exact h.dp
    · subst e1 e2
      exact .lst (.inl (.inl e3)) e6.dp
  pk := fun h => h
/-- what is known of a value of a form -/
theorem MP.list (h : MP K Γ σ env H v (.list ds')) : ∃ a xs, v = .ref a ∧ H a = some (.lst xs) ∧ xs.length ≤ sizeLine ∧ DfAll K H (gd Γ σ env) xs ds' := by
  rcases h with h | ⟨a, xs, ds, e1, e2, e3, e4, e5, e6⟩
  · cases h with
    | lst h1 h2 h3 h4 => exact ⟨_, _, rfl, h2, h3, h4⟩
  · cases e2
    exact ⟨a, xs, e1, e3, e5, e6⟩
theorem MP.tuple (h : MP K Γ σ env H v (.tuple ds')) : ∃ a xs, v = .ref a ∧ SqT K H a xs ∧ xs.length ≤ sizeLine ∧ DfAll K H (gd Γ σ env) xs ds' := by
  rcases h with h | ⟨a, xs, ds, e1, e2, e3, e4, e5, e6⟩
  · cases h with
    | tup h1 h2 h3 => exact ⟨_, _, rfl, h1, h2, h3⟩
  · cases e2
theorem MP.int {i : Int} (h : MP K Γ σ env H v (.int i)) : v = .int i := by
  rcases h with h | ⟨a, xs, ds, e1, e2, e3, e4, e5, e6⟩
  · cases h; rfl
  · cases e2
theorem MP.bool {i : Bool} (h : MP K Γ σ env H v (.bool i)) : v = .bl i := by
  rcases h with h | ⟨a, xs, ds, e1, e2, e3, e4, e5, e6⟩
  · cases h; rfl
  · cases e2
theorem MP.str {i : Str} (h : MP K Γ σ env H v (.str i)) : v = .str i := by
  rcases h with h | ⟨a, xs, ds, e1, e2, e3, e4, e5, e6⟩
  · cases h; rfl
  · cases e2
theorem MP.none (h : MP K Γ σ env H v .none) : v = .non := by
  rcases h with h | ⟨a, xs, ds, e1, e2, e3, e4, e5, e6⟩
  · cases h; rfl
  · cases e2
end

/-! ### the meanings -/
def mC (d : PyData) : ME PyData := ME.pure d
def mV (i : Nat) : ME PyData := fun env ds => match env[i]? with
  | some (.d x) => some (.ok x, ds)
  | _ => none
/-- a name read in passing -/
def mVp (i : Nat) : ME PyData := fun env ds => match env[i]? with
  | some (.d x) => some (.ok x, ds)
  | some (.l xs) => some (.ok (.list xs), ds)
  | some (.lk xs) => some (.ok (.list xs), ds)
  | _ => none
def mF (a : ME (List PyData)) : ME PyData := a.bind fun xs => ME.pure (.list xs)
def mOp (f : PyData → PyData → Option PyData) (a b : ME PyData) : ME PyData := a.bind fun x => b.bind fun y => ME.lift (f x y)
def mUn (f : PyData → Option PyData) (a : ME PyData) : ME PyData := a.bind fun x => ME.lift (f x)
def mTst (a : ME PyData) : ME Bool := a.bind fun x => ME.lift (match x with | .bool b => some b | _ => none)
def mB (a : ME Bool) : ME PyData := a.bind fun b => ME.pure (.bool b)
def mAnd (a b : ME Bool) : ME Bool := a.bind fun x => if x then b else ME.pure false
def mOr (a b : ME Bool) : ME Bool := a.bind fun x => if x then ME.pure true else b
def mNot (a : ME Bool) : ME Bool := a.bind fun x => ME.pure (!x)
def mIf {α : Type} (c : ME Bool) (a b : ME α) : ME α := c.bind fun x => if x then a else b
def mNil : ME (List PyData) := ME.pure []
def mCons (a : ME PyData) (b : ME (List PyData)) : ME (List PyData) := a.bind fun x => b.bind fun xs => ME.pure (x :: xs)
def short (n : Nat) : Bool := decide (n ≤ sizeLine)
def mTup (a : ME (List PyData)) : ME PyData := a.bind fun xs => ME.lift (if short xs.length then some (.tuple xs) else none)
def mLst (a : ME (List PyData)) : ME (List PyData) := a.bind fun xs => ME.lift (if short xs.length then some xs else none)

section
variable {X : Cx} {C : Exs} {W : WX} {e a b c : Expr} {ma mb mc : ME PyData} {M M1 M2 : Md} {pos : Pos}

theorem lift_some {K : PySem.W.Frag} {C : Exs} {W : WX} {Γ : Gm} {σ : St} {H : Hp} {α : Type} {x : Option α} {env : Ev} {ds : DS} {P : α → DS → Hp → Prop} (h : Aft K C W Γ σ H (ME.lift x env ds) P) : ∃ y, x = some y ∧ ∀ H', Ext Γ H H' → DrR K Γ H' ds → P y ds H' := by
  cases x with
  | none => exact h.elim
  | some y => exact ⟨y, rfl, h⟩

theorem se_var (i : Nat) {x : Str} {pos : Pos} (hN : X.N[i]? = some x := by rfl) (hv : Vis X.env.scope x := by first | exact Or.inl rfl | exact Or.inr (Or.inl rfl) | exact Or.inr (Or.inr rfl)) (hd : (x == ("__debug__" : Str)) = false := by decide)
    (hcd : (x == ("__classdict__" : Str)) = false := by decide) : SE X C W (.Name x pos) (mV i) := by
  refine PE.imp (pe_var hN hv hd hcd) fun σ H Q ⟨Γ, env, ds, R, h⟩ => ?_
  unfold mV at h
  cases q : env[i]? with
  | none => rw [q] at h; exact h.elim
  | some x =>
    rw [q] at h
    have s := R.slot i x q
    cases x with
    | d y =>
      obtain ⟨u, e1, e2⟩ := s
      exact ⟨u, e1, Aft.here h R.draw u e2⟩
    | _ => exact h.elim
theorem sp_var (i : Nat) {x : Str} {pos : Pos} (hN : X.N[i]? = some x := by rfl) (hv : Vis X.env.scope x := by first | exact Or.inl rfl | exact Or.inr (Or.inl rfl) | exact Or.inr (Or.inr rfl)) (hd : (x == ("__debug__" : Str)) = false := by decide)
    (hcd : (x == ("__classdict__" : Str)) = false := by decide) : SP X C W (.Name x pos) (mVp i) := by
  refine PE.imp (pe_var hN hv hd hcd) fun σ H Q ⟨Γ, env, ds, R, h⟩ => ?_
  unfold mVp at h
  cases q : env[i]? with
  | none => rw [q] at h; exact h.elim
  | some x =>
    rw [q] at h
    have s := R.slot i x q
    cases x with
    | d y =>
      obtain ⟨u, e1, e2⟩ := s
      exact ⟨u, e1, Aft.here h R.draw u (.inl e2)⟩
    | l xs =>
      obtain ⟨a, us, e1, e2, e3, e4, e5, e6⟩ := s
      exact ⟨_, e1, Aft.here h R.draw _ (.inr ⟨a, us, xs, rfl, rfl, e2, e6, e4, e3⟩)⟩
    | lk xs =>
      obtain ⟨a, us, e1, e2, e3, e4, e5, e6⟩ := s
      exact ⟨_, e1, Aft.here h R.draw _ (.inr ⟨a, us, xs, rfl, rfl, e2, e6, e4, e3⟩)⟩
    | _ => exact h.elim
/-- data is data in passing -/
theorem SE.sp (h : SE X C W e ma) : SP X C W e ma := PE.imp h fun σ H Q ⟨Γ, env, ds, R, h⟩ => ⟨Γ, env, ds, R, h.imp fun d ds1 H1 _ _ q v hv => q v (.inl hv)⟩
/-- a new list is data -/
theorem SF.se {m : ME (List PyData)} (h : SF X C W e m) : SE X C W e (mF m) := PE.imp h fun σ H Q ⟨Γ, env, ds, R, h⟩ => ⟨Γ, env, ds, R, h.bind.imp fun d ds1 H1 e1 d1 q a us ha h2 h3 h4 =>
  Aft.here q d1 _ (.lst (R.new_gd ha) h2 h3 h4.unavoid)⟩
theorem se_c {v : V} {d : PyData} (h : PE X e (tC v)) (hd : ∀ H g, Df X.K H g v d) : SE X C W e (mC d) := PE.imp h fun σ H Q ⟨Γ, env, ds, R, h⟩ => Aft.here h R.draw _ (hd _ _)
theorem se_int {i : Int} {j : Nat} : SE X C W (.Constant (.int i) j pos) (mC (.int i)) := se_c pe_int fun _ _ => .int i
theorem se_bl {i : Bool} {j : Nat} : SE X C W (.Constant (.bool i) j pos) (mC (.bool i)) := se_c pe_bl fun _ _ => .bl i
theorem se_str {i : Str} {j : Nat} : SE X C W (.Constant (.str i) j pos) (mC (.str i)) := se_c pe_str fun _ _ => .str i
theorem se_non {j : Nat} : SE X C W (.Constant .none j pos) (mC .none) := se_c pe_non fun _ _ => .non
/-- a constant of the module -/
theorem se_glob {x : Str} {v : V} {u : Value} {d : PyData} (hm : X.mg x = some u) (r : RelV v u) (hd : ∀ H g, Df X.K H g v d) (hg : Gl X x := by rfl) (hdb : (x == ("__debug__" : Str)) = false := by decide) : SE X C W (.Name x pos) (mC d) := se_c (pe_glob hg hm r hdb) hd

/-! operators by what their values ask -/
def Bin (K : PySem.W.Frag) (r : R2) (f : PyData → PyData → Option PyData) : Prop :=
  ∀ (Γ : Gm) (σ : St) (H : Hp) (env : Ev) (ds : DS), Rel K Γ σ H env ds → ∀ (x y : V) (d e z : PyData), MP K Γ σ env H x d → MP K Γ σ env H y e → f d e = some z →
    ∀ Q : VK, (∀ v H', Ext Γ H H' → DrR K Γ H' ds → Df K H' (gd Γ σ env) v z → Q v H') → r x y H Q
theorem Bin.same {K : PySem.W.Frag} {r : R2} {f : PyData → PyData → Option PyData}
    (h : ∀ (Γ : Gm) (σ : St) (H : Hp) (env : Ev) (ds : DS), Rel K Γ σ H env ds → ∀ (x y : V) (d e z : PyData), MP K Γ σ env H x d → MP K Γ σ env H y e → f d e = some z → ∀ Q : VK, (∀ v, Df K H (gd Γ σ env) v z → Q v H) → r x y H Q) : Bin K r f :=
  fun Γ σ H env ds R x y d e z hx hy hf Q q => h Γ σ H env ds R x y d e z hx hy hf Q fun v hv => q v H Ext.refl R.draw hv
theorem bin_rd {K : PySem.W.Frag} {r : R2} {f : PyData → PyData → Option PyData} (hr : Bin K r f) (p1 : Pers M1) (p2 : Pers M2) {σ : St} {H : Hp} {Q : VK} (h : rdG MD K C W (mOp f ma mb) σ H Q) :
    tOp r (rdG M1 K C W ma) (rdG M2 K C W mb) σ H Q := by
  obtain ⟨Γ, env, ds, R, h⟩ := h
  refine ⟨Γ, env, ds, R, h.bind.imp fun d ds1 H1 e1 d1 q x hx => ?_⟩
  have R1 := R.go e1 d1
  refine ⟨Γ, env, ds1, R1, q.bind.imp fun e' ds2 H2 e2 d2 q y hy => ?_⟩
  obtain ⟨z, hz, q⟩ := lift_some q
  exact hr Γ σ H2 env ds2 (R1.go e2 d2) x y d e' z (p1.pk (p1.ext e2 d1 hx)) (p2.pk hy) hz Q fun v H3 e3 d3 hv => q H3 e3 d3 v hv
theorem se_op {op : Operator} {r : R2} {f : PyData → PyData → Option PyData} (ho : OpR X (binaryOp op) r) (hr : Bin X.K r f) (p1 : Pers M1) (p2 : Pers M2) (ha : PE X a (rdG M1 X.K C W ma)) (hb : PE X b (rdG M2 X.K C W mb)) : SE X C W (.BinOp a op b pos) (mOp f ma mb) :=
  PE.imp (pe_op ho ha hb) fun _ _ _ h => bin_rd hr p1 p2 h
theorem se_cmp {op : CmpOp} {r : R2} {f : PyData → PyData → Option PyData} (ho : OpR X (compareOp op) r) (hr : Bin X.K r f) (p1 : Pers M1) (p2 : Pers M2) (ha : PE X a (rdG M1 X.K C W ma)) (hb : PE X b (rdG M2 X.K C W mb)) (hm : behindInMarks op b = false) : SE X C W (.Compare a [op] [b] pos) (mOp f ma mb) :=
  PE.imp (pe_cmpR ho ha hb hm) fun _ _ _ h => bin_rd hr p1 p2 h
theorem tst_rd {K : PySem.W.Frag} {t : TE} {m : ME PyData} (ht : ∀ σ H Q, rdG MD K C W m σ H Q → t σ H Q) {σ : St} {H : Hp} {Q : Bool → Hp → Prop} (h : rdT K C W (mTst m) σ H Q) : t σ H fun x H' => ∃ k, x = .bl k ∧ Q k H' := by
  obtain ⟨Γ, env, ds, R, h⟩ := h
  refine ht σ H _ ⟨Γ, env, ds, R, h.bind.imp fun d ds1 H1 e1 d1 q x hx => ?_⟩
  obtain ⟨z, hz, q⟩ := lift_some q
  cases d with
  | bool k =>
    cases hx
    cases hz
    exact ⟨_, rfl, q H1 Ext.refl d1⟩
  | _ => cases hz
/-- a value that is True or False, as a test -/
theorem st_val (h : SE X C W e ma) (he : ∀ whole, isTrue e X.env whole = (do let v ← whole; standAt e.pos; holding [v] (truthy v)) := by intro _; rfl) : ST X C W e (mTst ma) :=
  PT.imp (pt_val h he) fun σ H Q h => by
    obtain h := tst_rd (t := rdG MD X.K C W ma) (fun _ _ _ z => z) h
    exact h
theorem st_cmp {op : CmpOp} {r : R2} {f : PyData → PyData → Option PyData} (ho : OpR X (compareOp op) r) (hr : Bin X.K r f) (p1 : Pers M1) (p2 : Pers M2) (ha : PE X a (rdG M1 X.K C W ma)) (hb : PE X b (rdG M2 X.K C W mb)) (hm : behindInMarks op b = false) : ST X C W (.Compare a [op] [b] pos) (mTst (mOp f ma mb)) :=
  PT.imp (pt_cmpR ho ha hb hm) fun _ _ _ h => tst_rd (fun _ _ _ z => bin_rd hr p1 p2 z) h
/-- a < b < c -/
def mChain (f f' : PyData → PyData → Option PyData) (a b c : ME PyData) : ME PyData := a.bind fun x => b.bind fun y => (ME.lift (f x y)).bind fun z => match z with
  | .bool true => c.bind fun u => ME.lift (f' y u)
  | .bool false => ME.pure (.bool false)
  | _ => ME.lift none
theorem chain_rd {K : PySem.W.Frag} {r r' : R2} {f f' : PyData → PyData → Option PyData} (hr : Bin K r f) (hr' : Bin K r' f') {σ : St} {H : Hp} {Q : VK} (h : rdG MD K C W (mChain f f' ma mb mc) σ H Q) :
    tChain r r' (rdG MD K C W ma) (rdG MD K C W mb) (rdG MD K C W mc) σ H Q := by
  obtain ⟨Γ, env, ds, R, h⟩ := h
  refine ⟨Γ, env, ds, R, h.bind.imp fun d ds1 H1 e1 d1 q x hx => ?_⟩
  have R1 := R.go e1 d1
  refine ⟨Γ, env, ds1, R1, q.bind.imp fun e' ds2 H2 e2 d2 q y hy => ?_⟩
  have R2 := R1.go e2 d2
  obtain ⟨z, hz, q⟩ := lift_some (Aft.bind q)
  refine hr Γ σ H2 env ds2 R2 x y d e' z (.inl (hx.ext e2 d1)) (.inl hy) hz _ fun v H3 e3 d3 hv => ?_
  have q := q H3 e3 d3
  have R3 := R2.go e3 d3
  cases z with
  | bool k =>
    cases hv
    refine ⟨k, rfl, ?_⟩
    cases k with
    | true =>
      rw [if_pos rfl]
      refine ⟨Γ, env, ds2, R3, q.bind.imp fun u ds4 H4 e4 d4 q w hw => ?_⟩
      obtain ⟨z2, hz2, q⟩ := lift_some q
      exact hr' Γ σ H4 env ds4 (R3.go e4 d4) y w e' u z2 (.inl ((hy.ext e3 d2).ext e4 d3)) (.inl hw) hz2 Q fun v H5 e5 d5 hv => q H5 e5 d5 v hv
    | false =>
      rw [if_neg Bool.false_ne_true]
      exact Aft.here q d3 _ (.bl false)
  | _ => exact q.elim
theorem se_chain {op op' : CmpOp} {r r' : R2} {f f' : PyData → PyData → Option PyData} (ho : OpR X (compareOp op) r) (ho' : OpR X (compareOp op') r') (hr : Bin X.K r f) (hr' : Bin X.K r' f') (ha : SE X C W a ma) (hb : SE X C W b mb) (hc : SE X C W c mc) (hm : lastMarks [op, op'] [b, c] = false := by with_unfolding_all rfl) : SE X C W (.Compare a [op, op'] [b, c] pos) (mChain f f' ma mb mc) :=
  PE.imp (pe_chain ho ho' ha hb hc hm) fun _ _ _ h => chain_rd hr hr' h
theorem st_chain {op op' : CmpOp} {r r' : R2} {f f' : PyData → PyData → Option PyData} (ho : OpR X (compareOp op) r) (ho' : OpR X (compareOp op') r') (hr : Bin X.K r f) (hr' : Bin X.K r' f') (ha : SE X C W a ma) (hb : SE X C W b mb) (hc : SE X C W c mc) (hm : lastMarks [op, op'] [b, c] = false := by with_unfolding_all rfl) : ST X C W (.Compare a [op, op'] [b, c] pos) (mTst (mChain f f' ma mb mc)) :=
  PT.imp (pt_chain ho ho' ha hb hc hm) fun _ _ _ h => tst_rd (fun _ _ _ z => chain_rd hr hr' z) h
end
end DL

/-! DL3: operators, displays, subscripts, slices, tests, calls of built-ins. -/
namespace DL
open PySem PySem.Spec L2
open PyProof.Rows hiding St

/-! ### what the operators give -/
def fAdd : PyData → PyData → Option PyData
  | .int i, .int j => some (.int (i + j))
  | .tuple a, .tuple b => if short (a.length + b.length) then some (.tuple (a ++ b)) else none
  | .list a, .list b => if short (a.length + b.length) then some (.list (a ++ b)) else none
  | .str a, .str b => if short (a.length + b.length) then some (.str (a ++ b)) else none
  | _, _ => none
def fSub : PyData → PyData → Option PyData
  | .int i, .int j => some (.int (i - j))
  | _, _ => none
def fMul : PyData → PyData → Option PyData
  | .int i, .int j => if decide (-(2 ^ 64) < i ∧ i < 2 ^ 64) || decide (-(2 ^ 64) < j ∧ j < 2 ^ 64) then some (.int (i * j)) else none
  | .list a, .int k => if decide (k.natAbs ≤ 1000) && decide (a.length ≤ 1000) then some (.list (List.replicate k.toNat a).flatten) else none
  | .tuple a, .int k => if !a.isEmpty && decide (2 ≤ k ∧ k ≤ 1000) && decide (a.length ≤ 1000) then some (.tuple (List.replicate k.toNat a).flatten) else none
  | _, _ => none
def fFdiv : PyData → PyData → Option PyData
  | .int i, .int j => if decide (0 < j ∧ j < 1073741824) then some (.int (i / j)) else none
  | _, _ => none
def fMod : PyData → PyData → Option PyData
  | .int i, .int j => if decide (0 < j) then some (.int (i % j)) else none
  | _, _ => none
def fShl : PyData → PyData → Option PyData
  | .int i, .int j => if decide (0 ≤ j ∧ j ≤ 1000 ∧ i.natAbs < 2 ^ 64) then some (.int (i * 2 ^ j.toNat)) else none
  | _, _ => none
def fLt : PyData → PyData → Option PyData
  | .int i, .int j => some (.bool (decide (i < j)))
  | .str i, .str j => some (.bool (decide (i.cps.toList < j.cps.toList)))
  | _, _ => none
def fLe : PyData → PyData → Option PyData
  | .int i, .int j => some (.bool (decide (i ≤ j)))
  | .str i, .str j => some (.bool (!decide (j.cps.toList < i.cps.toList)))
  | _, _ => none
def fGt : PyData → PyData → Option PyData
  | .int i, .int j => some (.bool (decide (j < i)))
  | _, _ => none
def fGe : PyData → PyData → Option PyData
  | .int i, .int j => some (.bool (decide (j ≤ i)))
  | _, _ => none
def fEq (d e : PyData) : Option PyData := if SeqAt.shaped d && SeqAt.shaped e then some (.bool (PyData.eqv d e)) else none
def fNe (d e : PyData) : Option PyData := if SeqAt.shaped d && SeqAt.shaped e then some (.bool (!PyData.eqv d e)) else none
def fIn (d e : PyData) : Option PyData := match e with
  | .list ds => if SeqAt.shaped d && SeqAt.shaped (.list ds) then some (.bool (ds.any fun z => PyData.eqv z d)) else none
  | .tuple ds => if SeqAt.shaped d && SeqAt.shaped (.tuple ds) then some (.bool (ds.any fun z => PyData.eqv z d)) else none
  | _ => none
def fNotIn (d e : PyData) : Option PyData := match e with
  | .list ds => if SeqAt.shaped d && SeqAt.shaped (.list ds) then some (.bool (!ds.any fun z => PyData.eqv z d)) else none
  | .tuple ds => if SeqAt.shaped d && SeqAt.shaped (.tuple ds) then some (.bool (!ds.any fun z => PyData.eqv z d)) else none
  | _ => none
def isNone : PyData → Bool
  | .none => true
  | _ => false
def fIs (d e : PyData) : Option PyData := match e with
  | .none => some (.bool (isNone d))
  | _ => none
def fIsNot (d e : PyData) : Option PyData := match e with
  | .none => some (.bool (!isNone d))
  | _ => none
def fIx : PyData → PyData → Option PyData
  | .tuple xs, .int i => atI xs i
  | .list xs, .int i => atI xs i
  | .str z, .int i => if short z.length then (atI z.cps.toList i).map fun c => .str ⟨#[c]⟩ else none
  | _, _ => none
def fNeg : PyData → Option PyData
  | .int i => some (.int (-i))
  | _ => none

section
variable {X : Cx} {C : Exs} {W : WX} {K : PySem.W.Frag}
/-- a new tuple, a new list of data -/
theorem new_tup {Γ : Gm} {σ : St} {H : Hp} {env : Ev} {ds : DS} {us : List V} {xs : List PyData} (R : Rel K Γ σ H env ds) (h : DfAll K H (gd Γ σ env) us xs) (hl : us.length ≤ sizeLine) {p : Addr} (hp : H p = none) :
    Ext Γ H (upd H p (.tup us)) ∧ DrR K Γ (upd H p (.tup us)) ds ∧ Df K (upd H p (.tup us)) (gd Γ σ env) (.ref p) (.tuple xs) :=
  ⟨ext_new hp, R.draw.new hp, .tup (.inl (.inl upd_same)) hl (h.ext (ext_new hp) R.draw)⟩
theorem new_lst {Γ : Gm} {σ : St} {H : Hp} {env : Ev} {ds : DS} {us : List V} {xs : List PyData} (R : Rel K Γ σ H env ds) (h : DfAll K H (gd Γ σ env) us xs) (hl : us.length ≤ sizeLine) {p : Addr} (hp : H p = none) :
    Ext Γ H (upd H p (.lst us)) ∧ DrR K Γ (upd H p (.lst us)) ds ∧ Df K (upd H p (.lst us)) (gd Γ σ env) (.ref p) (.list xs) :=
  ⟨ext_new hp, R.draw.new hp, .lst (R.new_gd hp) upd_same hl (h.ext (ext_new hp) R.draw)⟩

theorem len_eq {H : Hp} {g : Addr → Prop} {us : List V} {xs : List PyData} (h : DfAll K H g us xs) : us.length = xs.length := h.length
theorem short_iff {n : Nat} (h : short n = true) : n ≤ sizeLine := of_decide_eq_true h

def rAddA (K : PySem.W.Frag) : R2 := fun x y H Q => (rI0 fun i j => .int (i + j)) x y H Q ∨ rCatA K x y H Q ∨ (∃ i j, x = .str i ∧ y = .str j ∧ i.length + j.length ≤ sizeLine ∧ Q (.str (i ++ j)) H) ∨ rCat x y H Q
theorem op_addA : OpR X (binaryOp .Add) (rAddA X.K) := .or op_add (.or op_catA (.or op_add_str op_cat))
theorem bin_add : Bin K (rAddA K) fAdd := by
  intro Γ σ H env ds R x y d e z hx hy hf Q q
  unfold fAdd at hf
  split at hf
  · obtain rfl := hx.int
    obtain rfl := hy.int
    cases hf
    exact .inl ⟨_, _, rfl, rfl, q _ H Ext.refl R.draw (.int _)⟩
  · obtain ⟨a, us, rfl, hS, hl, hA⟩ := hx.tuple
    obtain ⟨b, ws, rfl, hS2, hl2, hA2⟩ := hy.tuple
    split at hf
    · rename_i hs
      cases hf
      have hs := short_iff hs
      rw [← hA.length, ← hA2.length] at hs
      refine .inr (.inl ⟨a, b, us, ws, rfl, rfl, hS, hS2, hs, fun z => ?_, fun _ z => ?_, fun _ _ p hp => ?_⟩)
      · subst z
        cases hA
        exact q _ H Ext.refl R.draw (.tup hS2 hl2 hA2)
      · subst z
        cases hA2
        rw [List.append_nil] at q
        exact q _ H Ext.refl R.draw (.tup hS hl hA)
      · obtain ⟨e1, d1, h1⟩ := new_tup R (hA.append hA2) (by rw [List.length_append]; exact hs) hp
        exact q _ _ e1 d1 h1
    · cases hf
  · obtain ⟨a, us, rfl, hS, hl, hA⟩ := hx.list
    obtain ⟨b, ws, rfl, hS2, hl2, hA2⟩ := hy.list
    split at hf
    · rename_i hs
      cases hf
      have hs := short_iff hs
      rw [← hA.length, ← hA2.length] at hs
      refine .inr (.inr (.inr ⟨a, b, us, ws, rfl, rfl, hS, hS2, hs, fun p hp => ?_⟩))
      obtain ⟨e1, d1, h1⟩ := new_lst R (hA.append hA2) (by rw [List.length_append]; exact hs) hp
      exact q _ _ e1 d1 h1
    · cases hf
  · obtain rfl := hx.str
    obtain rfl := hy.str
    split at hf
    · rename_i hs
      cases hf
      exact .inr (.inr (.inl ⟨_, _, rfl, rfl, short_iff hs, q _ H Ext.refl R.draw (.str _)⟩))
    · cases hf
  · cases hf
theorem bin_sub : Bin K (rI0 fun i j => .int (i - j)) fSub := Bin.same fun Γ σ H env ds R x y d e z hx hy hf Q q => by
  unfold fSub at hf
  split at hf
  · obtain rfl := hx.int
    obtain rfl := hy.int
    cases hf
    exact ⟨_, _, rfl, rfl, q _ (.int _)⟩
  · cases hf
theorem DfAll.rep {H : Hp} {g : Addr → Prop} {us : List V} {xs : List PyData} (h : DfAll K H g us xs) : ∀ n : Nat, DfAll K H g (List.replicate n us).flatten (List.replicate n xs).flatten
  | 0 => .nil
  | n + 1 => by
    rw [List.replicate_succ, List.replicate_succ, List.flatten_cons, List.flatten_cons]
    exact h.append (DfAll.rep h n)
def rMulA (K : PySem.W.Frag) : R2 := fun x y H Q => (rI CMul fun i j => .int (i * j)) x y H Q ∨ rRep x y H Q ∨ rRepT K x y H Q
theorem op_mulA : OpR X (binaryOp .Mult) (rMulA X.K) := .or op_mul (.or op_rep op_repT)
theorem rep_short {us : List V} {k : Int} (h1 : k.natAbs ≤ 1000) (h2 : us.length ≤ 1000) : us.length * k.toNat ≤ sizeLine := by
  have h3 : k.toNat ≤ 1000 := by omega
  have h4 : us.length * k.toNat ≤ 1000 * 1000 := Nat.mul_le_mul h2 h3
  have h5 : (1000 * 1000 : Nat) ≤ sizeLine := by decide
  omega
theorem absLe {k : Int} (h : 2 ≤ k ∧ k ≤ 1000) : k.natAbs ≤ 1000 := by omega
theorem bin_mul : Bin K (rMulA K) fMul := by
  intro Γ σ H env ds R x y d e z hx hy hf Q q
  unfold fMul at hf
  split at hf
  · obtain rfl := hx.int
    obtain rfl := hy.int
    split at hf
    · rename_i hc
      cases hf
      rw [Bool.or_eq_true] at hc
      refine .inl ⟨_, _, rfl, rfl, ?_, q _ H Ext.refl R.draw (.int _)⟩
      rcases hc with hc | hc
      · exact .inl (of_decide_eq_true hc)
      · exact .inr (of_decide_eq_true hc)
    · cases hf
  · obtain ⟨a, us, rfl, hS, hl, hA⟩ := hx.list
    obtain rfl := hy.int
    split at hf
    · rename_i hc
      cases hf
      rw [Bool.and_eq_true] at hc
      have h1 := of_decide_eq_true hc.1
      have h2 := of_decide_eq_true hc.2
      rw [← hA.length] at h2
      have h3 := rep_short h1 h2
      refine .inr (.inl ⟨a, _, us, rfl, rfl, hS, by omega, by omega, h3, fun p hp => ?_⟩)
      obtain ⟨e1, d1, q1⟩ := new_lst R (hA.rep _) (by rw [PyProof.Rows.lm_len_rep_flat, Nat.mul_comm]; exact h3) hp
      exact q _ _ e1 d1 q1
    · cases hf
  · obtain ⟨a, us, rfl, hS, hl, hA⟩ := hx.tuple
    obtain rfl := hy.int
    split at hf
    · rename_i hc
      cases hf
      rw [Bool.and_eq_true, Bool.and_eq_true] at hc
      have h1 := of_decide_eq_true hc.1.2
      have h2 := of_decide_eq_true hc.2
      have hne : us ≠ [] := fun z => by
        subst z
        cases hA
        exact absurd hc.1.1 (by decide)
      rw [← hA.length] at h2
      have h4 := absLe h1
      refine .inr (.inr ⟨a, _, us, rfl, rfl, hS, hne, h1.1, h1.2, h2, fun p hp => ?_⟩)
      obtain ⟨e1, d1, q1⟩ := new_tup R (hA.rep _) (by rw [PyProof.Rows.lm_len_rep_flat, Nat.mul_comm]; exact rep_short h4 h2) hp
      exact q _ _ e1 d1 q1
    · cases hf
  · cases hf
theorem bin_fdiv : Bin K (rI CDiv fun i j => .int (i / j)) fFdiv := Bin.same fun Γ σ H env ds R x y d e z hx hy hf Q q => by
  unfold fFdiv at hf
  split at hf
  · obtain rfl := hx.int
    obtain rfl := hy.int
    split at hf
    · rename_i hc
      cases hf
      have hd := of_decide_eq_true hc
      exact ⟨_, _, rfl, rfl, hd, q _ (.int _)⟩
    · cases hf
  · cases hf
theorem bin_mod : Bin K (rI (fun _ j => 0 < j) fun i j => .int (i % j)) fMod := Bin.same fun Γ σ H env ds R x y d e z hx hy hf Q q => by
  unfold fMod at hf
  split at hf
  · obtain rfl := hx.int
    obtain rfl := hy.int
    split at hf
    · rename_i hc
      cases hf
      exact ⟨_, _, rfl, rfl, of_decide_eq_true hc, q _ (.int _)⟩
    · cases hf
  · cases hf
theorem bin_shl : Bin K (rI CPow fun i j => .int (i * 2 ^ j.toNat)) fShl := Bin.same fun Γ σ H env ds R x y d e z hx hy hf Q q => by
  unfold fShl at hf
  split at hf
  · obtain rfl := hx.int
    obtain rfl := hy.int
    split at hf
    · rename_i hc
      cases hf
      have h := of_decide_eq_true hc
      exact ⟨_, _, rfl, rfl, ⟨h.1, by omega, h.2.2⟩, q _ (.int _)⟩
    · cases hf
  · cases hf
def rLtA : R2 := fun x y H Q => (rI0 fun i j => .bl (decide (i < j))) x y H Q ∨ (∃ i j, x = .str i ∧ y = .str j ∧ Q (.bl (decide (i.cps.toList < j.cps.toList))) H)
theorem op_ltA : OpR X (compareOp .Lt) rLtA := .or op_lt op_lt_str
theorem bin_lt : Bin K rLtA fLt := Bin.same fun Γ σ H env ds R x y d e z hx hy hf Q q => by
  unfold fLt at hf
  split at hf
  · obtain rfl := hx.int
    obtain rfl := hy.int
    cases hf
    exact .inl ⟨_, _, rfl, rfl, q _ (.bl _)⟩
  · obtain rfl := hx.str
    obtain rfl := hy.str
    cases hf
    exact .inr ⟨_, _, rfl, rfl, q _ (.bl _)⟩
  · cases hf
def rLeA : R2 := fun x y H Q => (rI0 fun i j => .bl (decide (i ≤ j))) x y H Q ∨ (∃ i j, x = .str i ∧ y = .str j ∧ Q (.bl (!decide (j.cps.toList < i.cps.toList))) H)
theorem op_leA : OpR X (compareOp .LtE) rLeA := .or op_le op_le_str
theorem bin_le : Bin K rLeA fLe := Bin.same fun Γ σ H env ds R x y d e z hx hy hf Q q => by
  unfold fLe at hf
  split at hf
  · obtain rfl := hx.int
    obtain rfl := hy.int
    cases hf
    exact .inl ⟨_, _, rfl, rfl, q _ (.bl _)⟩
  · obtain rfl := hx.str
    obtain rfl := hy.str
    cases hf
    exact .inr ⟨_, _, rfl, rfl, q _ (.bl _)⟩
  · cases hf
theorem bin_gt : Bin K (rI0 fun i j => .bl (decide (j < i))) fGt := Bin.same fun Γ σ H env ds R x y d e z hx hy hf Q q => by
  unfold fGt at hf
  split at hf
  · obtain rfl := hx.int
    obtain rfl := hy.int
    cases hf
    exact ⟨_, _, rfl, rfl, q _ (.bl _)⟩
  · cases hf
theorem bin_ge : Bin K (rI0 fun i j => .bl (decide (j ≤ i))) fGe := Bin.same fun Γ σ H env ds R x y d e z hx hy hf Q q => by
  unfold fGe at hf
  split at hf
  · obtain rfl := hx.int
    obtain rfl := hy.int
    cases hf
    exact ⟨_, _, rfl, rfl, q _ (.bl _)⟩
  · cases hf
theorem bin_eq : Bin K (rEqD K) fEq := Bin.same fun Γ σ H env ds R x y d e z hx hy hf Q q => by
  unfold fEq at hf
  split at hf
  · rename_i hc
    cases hf
    rw [Bool.and_eq_true] at hc
    exact ⟨d, e, persP.dp hx, persP.dp hy, hc.1, hc.2, q _ (.bl _)⟩
  · cases hf
theorem bin_ne : Bin K (rNeD K) fNe := Bin.same fun Γ σ H env ds R x y d e z hx hy hf Q q => by
  unfold fNe at hf
  split at hf
  · rename_i hc
    cases hf
    rw [Bool.and_eq_true] at hc
    exact ⟨d, e, persP.dp hx, persP.dp hy, hc.1, hc.2, q _ (.bl _)⟩
  · cases hf
/-- x in a tuple -/
def rInTu (K : PySem.W.Frag) (b : Bool) : R2 := fun x y H Q => ∃ d ds, Dp K H x d ∧ Dp K H y (.tuple ds) ∧ SeqAt.shaped d = true ∧ SeqAt.shaped (.tuple ds) = true ∧ Q (.bl (if b then !ds.any fun z => PyData.eqv z d else ds.any fun z => PyData.eqv z d)) H
theorem op_inTu (hu : X.A.units + 65 < cLine) : OpR X (compareOp .In) (rInTu X.K false) := fun pins s σ H x y v u Q I rx ry h => by
  obtain ⟨d, ds, hd, he, sd, se, q⟩ := h
  obtain ⟨as, r1⟩ := Dp.reads I d x v hd rx
  obtain ⟨bs, r2⟩ := Dp.reads I (.tuple ds) y u he ry
  have room : X.A.units + 1 + min (PyData.depthAll ds) d.depth < cLine := by
    have := SeqAt.depth_of_shaped sd
    omega
  exact SeqAt.in_tuple_reads r2 r1 (SeqAt.canLay_of_shaped se) (SeqAt.canLay_of_shaped sd) room ⟨.bl _, H, I, rfl, q⟩
theorem op_notInTu (hu : X.A.units + 65 < cLine) : OpR X (compareOp .NotIn) (rInTu X.K true) := fun pins s σ H x y v u Q I rx ry h => by
  obtain ⟨d, ds, hd, he, sd, se, q⟩ := h
  obtain ⟨as, r1⟩ := Dp.reads I d x v hd rx
  obtain ⟨bs, r2⟩ := Dp.reads I (.tuple ds) y u he ry
  have room : X.A.units + 1 + min (PyData.depthAll ds) d.depth < cLine := by
    have := SeqAt.depth_of_shaped sd
    omega
  exact SeqAt.notIn_tuple_reads r2 r1 (SeqAt.canLay_of_shaped se) (SeqAt.canLay_of_shaped sd) room ⟨.bl _, H, I, rfl, q⟩
def rInA (K : PySem.W.Frag) : R2 := fun x y H Q => rInD K x y H Q ∨ rInTu K false x y H Q
theorem op_inA (hu : X.A.units + 65 < cLine) : OpR X (compareOp .In) (rInA X.K) := .or (op_inD hu) (op_inTu hu)
def rNotInA (K : PySem.W.Frag) : R2 := fun x y H Q => rNotInD K x y H Q ∨ rInTu K true x y H Q
theorem op_notInA (hu : X.A.units + 65 < cLine) : OpR X (compareOp .NotIn) (rNotInA X.K) := .or (op_notInD hu) (op_notInTu hu)
theorem bin_in : Bin K (rInA K) fIn := Bin.same fun Γ σ H env ds R x y d e z hx hy hf Q q => by
  unfold fIn at hf
  split at hf
  · split at hf
    · rename_i hc
      cases hf
      rw [Bool.and_eq_true] at hc
      exact .inl ⟨d, _, persP.dp hx, persP.dp hy, hc.1, hc.2, q _ (.bl _)⟩
    · cases hf
  · split at hf
    · rename_i hc
      cases hf
      rw [Bool.and_eq_true] at hc
      exact .inr ⟨d, _, persP.dp hx, persP.dp hy, hc.1, hc.2, q _ (.bl _)⟩
    · cases hf
  · cases hf
theorem bin_notIn : Bin K (rNotInA K) fNotIn := Bin.same fun Γ σ H env ds R x y d e z hx hy hf Q q => by
  unfold fNotIn at hf
  split at hf
  · split at hf
    · rename_i hc
      cases hf
      rw [Bool.and_eq_true] at hc
      exact .inl ⟨d, _, persP.dp hx, persP.dp hy, hc.1, hc.2, q _ (.bl _)⟩
    · cases hf
  · split at hf
    · rename_i hc
      cases hf
      rw [Bool.and_eq_true] at hc
      exact .inr ⟨d, _, persP.dp hx, persP.dp hy, hc.1, hc.2, q _ (.bl _)⟩
    · cases hf
  · cases hf
theorem MP.isNone {Γ : Gm} {σ : St} {env : Ev} {H : Hp} {x : V} {d : PyData} (h : MP K Γ σ env H x d) : decide (x = .non) = isNone d := by
  rcases h with h | ⟨a, xs, ds, e1, e2, e3, e4, e5, e6⟩
  · cases h <;> rfl
  · subst e1 e2
    rfl
theorem bin_is : Bin K (fun x y H Q => y = .non ∧ Q (.bl (decide (x = .non))) H) fIs := Bin.same fun Γ σ H env ds R x y d e z hx hy hf Q q => by
  unfold fIs at hf
  split at hf
  · cases hf
    refine ⟨hy.none, ?_⟩
    rw [hx.isNone]
    exact q _ (.bl _)
  · cases hf
theorem bin_isNot : Bin K (fun x y H Q => y = .non ∧ Q (.bl (!decide (x = .non))) H) fIsNot := Bin.same fun Γ σ H env ds R x y d e z hx hy hf Q q => by
  unfold fIsNot at hf
  split at hf
  · cases hf
    refine ⟨hy.none, ?_⟩
    rw [hx.isNone]
    exact q _ (.bl _)
  · cases hf

/-! ### subscripts and slices -/
theorem atI_get {α : Type} {xs : List α} {i : Int} {z : α} (h : atI xs i = some z) : ∃ j, ixN xs.length i = some j ∧ xs[j]? = some z := by
  unfold atI at h
  cases q : ixN xs.length i with
  | none => rw [q] at h; cases h
  | some j => rw [q] at h; exact ⟨j, rfl, h⟩
theorem atI_df {H : Hp} {g : Addr → Prop} {us : List V} {xs : List PyData} {i : Int} {z : PyData} (h : DfAll K H g us xs) (e : atI xs i = some z) : ∃ v, atI us i = some v ∧ Df K H g v z := by
  obtain ⟨j, e1, e2⟩ := atI_get e
  obtain ⟨v, e3, e4⟩ := h.get e2
  refine ⟨v, ?_, e4⟩
  unfold atI
  rw [h.length, e1]
  exact e3
theorem bin_ix : Bin K (rIx K) fIx := Bin.same fun Γ σ H env ds R x y d e z hx hy hf Q q => by
  unfold fIx at hf
  split at hf
  · obtain ⟨a, us, rfl, hS, hl, hA⟩ := hx.tuple
    obtain rfl := hy.int
    obtain ⟨v, e1, e2⟩ := atI_df hA hf
    exact .inr (.inl ⟨a, us, _, v, rfl, rfl, hS, e1, q v e2⟩)
  · obtain ⟨a, us, rfl, hS, hl, hA⟩ := hx.list
    obtain rfl := hy.int
    obtain ⟨v, e1, e2⟩ := atI_df hA hf
    exact .inl ⟨a, us, _, v, rfl, rfl, SqL.of hS, e1, q v e2⟩
  · obtain rfl := hx.str
    obtain rfl := hy.int
    split at hf
    · rename_i hs
      cases e1 : atI (Str.cps (by assumption)).toList (by assumption) with
      | none => rw [e1] at hf; cases hf
      | some c =>
        rw [e1] at hf
        cases hf
        exact .inr (.inr ⟨_, _, c, rfl, rfl, short_iff hs, e1, q _ (.str _)⟩)
    · cases hf
  · cases hf
variable {a b c : Expr} {ma mb mc : ME PyData} {M M1 M2 : Md} {pos p2 : Pos}
theorem se_ix (p1 : Pers M1) (p2 : Pers M2) (ha : PE X a (rdG M1 X.K C W ma)) (hb : PE X b (rdG M2 X.K C W mb)) (hs : PlainIx b := by exact fun _ _ => rfl) : SE X C W (.Subscript a b pos) (mOp fIx ma mb) :=
  PE.imp (pe_ix ix_seq ha hb hs) fun _ _ _ h => bin_rd bin_ix p1 p2 h
theorem se_un {op : UnaryOp} {r : V → Hp → VK → Prop} {f : PyData → Option PyData} (ho : UnR X (unaryOp op) r) (hr : ∀ (Γ : Gm) (σ : St) (H : Hp) (env : Ev) (x : V) (d z : PyData), MP X.K Γ σ env H x d → f d = some z → ∀ Q : VK, (∀ v, Df X.K H (gd Γ σ env) v z → Q v H) → r x H Q)
    (p1 : Pers M1) (ha : PE X a (rdG M1 X.K C W ma)) : SE X C W (.UnaryOp op a pos) (mUn f ma) :=
  PE.imp (pe_un ho ha) fun σ H Q ⟨Γ, env, ds, R, h⟩ => ⟨Γ, env, ds, R, h.bind.imp fun d ds1 H1 e1 d1 q x hx => by
    obtain ⟨z, hz, q⟩ := lift_some q
    exact hr Γ σ H1 env x d z (p1.pk hx) hz Q fun v hv => q H1 Ext.refl d1 v hv⟩
theorem se_neg (ha : SE X C W a ma) : SE X C W (.UnaryOp .USub a pos) (mUn fNeg ma) := se_un un_neg (fun Γ σ H env x d z hx hf Q q => by
  unfold fNeg at hf
  split at hf
  · obtain rfl := hx.int
    cases hf
    exact ⟨_, rfl, q _ (.int _)⟩
  · cases hf) persD ha

/-! ### tests -/
theorem st_not (h : ST X C W a m) : ST X C W (.UnaryOp .Not a pos) (mNot m) := PT.imp (pt_not h) fun σ H Q ⟨Γ, env, ds, R, h⟩ => ⟨Γ, env, ds, R, h.bind.imp fun d ds1 H1 e1 d1 q => Aft.here q d1⟩
abbrev SW (X : Cx) (C : Exs) (W : WX) (e : Expr) (m : ME Bool) : Prop := PW X e (rdT X.K C W m)
variable {rest : List Expr} {m m1 m2 : ME Bool}
theorem PW.imp {X : Cx} {e : Expr} {t t' : TT} (h : PW X e t) (f : ∀ σ H Q, t' σ H Q → t σ H Q) : PW X e t' := ⟨fun wh pins s σ H Q I q => h.run wh pins s σ H Q I (f σ H Q q)⟩
theorem sw_and1 (ha : ST X C W a m) : SW X C W (.BoolOp .And [a] pos) m := pw_and1 ha
theorem sw_or1 (ha : ST X C W a m) : SW X C W (.BoolOp .Or [a] pos) m := pw_or1 ha
theorem and_rd {K : PySem.W.Frag} {σ : St} {H : Hp} {Q : Bool → Hp → Prop} (h : rdT K C W (mAnd m1 m2) σ H Q) : tAnd (rdT K C W m1) (rdT K C W m2) σ H Q := by
  obtain ⟨Γ, env, ds, R, h⟩ := h
  refine ⟨Γ, env, ds, R, h.bind.imp fun d ds1 H1 e1 d1 q => ?_⟩
  cases d with
  | true =>
    rw [if_pos rfl]
    exact ⟨Γ, env, ds1, R.go e1 d1, q⟩
  | false =>
    rw [if_neg Bool.false_ne_true]
    exact Aft.here q d1
theorem or_rd {K : PySem.W.Frag} {σ : St} {H : Hp} {Q : Bool → Hp → Prop} (h : rdT K C W (mOr m1 m2) σ H Q) : tOr (rdT K C W m1) (rdT K C W m2) σ H Q := by
  obtain ⟨Γ, env, ds, R, h⟩ := h
  refine ⟨Γ, env, ds, R, h.bind.imp fun d ds1 H1 e1 d1 q => ?_⟩
  cases d with
  | true =>
    rw [if_pos rfl]
    exact Aft.here q d1
  | false =>
    rw [if_neg Bool.false_ne_true]
    exact ⟨Γ, env, ds1, R.go e1 d1, q⟩
theorem sw_and (ha : ST X C W a m1) (hb : SW X C W (.BoolOp .And (b :: rest) pos) m2) : SW X C W (.BoolOp .And (a :: b :: rest) pos) (mAnd m1 m2) := PW.imp (pw_and ha hb) fun _ _ _ h => and_rd h
theorem sw_or (ha : ST X C W a m1) (hb : SW X C W (.BoolOp .Or (b :: rest) pos) m2) : SW X C W (.BoolOp .Or (a :: b :: rest) pos) (mOr m1 m2) := PW.imp (pw_or ha hb) fun _ _ _ h => or_rd h
/-- and, or, not of truth values, as a value -/
def mAndV (a b : ME PyData) : ME PyData := a.bind fun x => match x with
  | .bool true => b
  | .bool false => ME.pure (.bool false)
  | _ => ME.lift none
def mOrV (a b : ME PyData) : ME PyData := a.bind fun x => match x with
  | .bool true => ME.pure (.bool true)
  | .bool false => b
  | _ => ME.lift none
def fNot : PyData → Option PyData
  | .bool b => some (.bool (!b))
  | _ => none
theorem se_one {op} (h : SE X C W a ma) : SE X C W (.BoolOp op [a] pos) ma := pe_one h
theorem se_and (ha : SE X C W a ma) (hb : SE X C W (.BoolOp .And (b :: rest) pos) mb) : SE X C W (.BoolOp .And (a :: b :: rest) pos) (mAndV ma mb) :=
  PE.imp (pe_and ha hb) fun σ H Q ⟨Γ, env, ds, R, h⟩ => ⟨Γ, env, ds, R, h.bind.imp fun d ds1 H1 e1 d1 q x hx => by
    cases d with
    | bool k =>
      cases hx
      refine ⟨_, rfl, ?_⟩
      cases k with
      | true =>
        rw [if_pos rfl]
        exact ⟨Γ, env, ds1, R.go e1 d1, q⟩
      | false =>
        rw [if_neg Bool.false_ne_true]
        exact Aft.here q d1 _ (.bl false)
    | _ => exact q.elim⟩
theorem se_or (ha : SE X C W a ma) (hb : SE X C W (.BoolOp .Or (b :: rest) pos) mb) : SE X C W (.BoolOp .Or (a :: b :: rest) pos) (mOrV ma mb) :=
  PE.imp (pe_or ha hb) fun σ H Q ⟨Γ, env, ds, R, h⟩ => ⟨Γ, env, ds, R, h.bind.imp fun d ds1 H1 e1 d1 q x hx => by
    cases d with
    | bool k =>
      cases hx
      refine ⟨_, rfl, ?_⟩
      cases k with
      | true =>
        rw [if_pos rfl]
        exact Aft.here q d1 _ (.bl true)
      | false =>
        rw [if_neg Bool.false_ne_true]
        exact ⟨Γ, env, ds1, R.go e1 d1, q⟩
    | _ => exact q.elim⟩
theorem se_not (ha : SE X C W a ma) : SE X C W (.UnaryOp .Not a pos) (mUn fNot ma) :=
  PE.imp (pe_not ha) fun σ H Q ⟨Γ, env, ds, R, h⟩ => ⟨Γ, env, ds, R, h.bind.imp fun d ds1 H1 e1 d1 q x hx => by
    obtain ⟨z, hz, q⟩ := lift_some q
    cases d with
    | bool k =>
      cases hx
      cases hz
      exact ⟨_, rfl, q H1 Ext.refl d1 _ (.bl _)⟩
    | _ => cases hz⟩
/-- a if c else b -/
theorem se_if (hc : ST X C W c m) (ha : SE X C W a ma) (hb : SE X C W b mb) : SE X C W (.IfExp c a b pos) (mIf m ma mb) :=
  PE.imp (pe_ifExp hc ha hb) fun σ H Q ⟨Γ, env, ds, R, h⟩ => ⟨Γ, env, ds, R, h.bind.imp fun d ds1 H1 e1 d1 q => by
    cases d with
    | true =>
      rw [if_pos rfl]
      exact ⟨Γ, env, ds1, R.go e1 d1, q⟩
    | false =>
      rw [if_neg Bool.false_ne_true]
      exact ⟨Γ, env, ds1, R.go e1 d1, q⟩⟩

/-! ### argument lists, displays -/
variable {e : Expr} {es : List Expr} {me : ME PyData} {ms : ME (List PyData)}
theorem sa_nil : SA X C W [] mNil := PA.imp pa_nil fun σ H Q ⟨Γ, env, ds, R, h⟩ => Aft.here h R.draw _ .nil
theorem sa_cons (he : SE X C W e me) (hr : SA X C W es ms) (hs : starEach (e :: es) X.env = (false, eval e X.env) :: starEach es X.env := by rfl) : SA X C W (e :: es) (mCons me ms) :=
  PA.imp (pa_cons he hr hs) fun σ H Q ⟨Γ, env, ds, R, h⟩ => ⟨Γ, env, ds, R, h.bind.imp fun d ds1 H1 e1 d1 q x hx => ⟨Γ, env, ds1, R.go e1 d1, q.bind.imp fun xs ds2 H2 e2 d2 q vs hv =>
    Aft.here q d2 _ (.cons (Df.ext e2 d1 hx) hv)⟩⟩
theorem se_tup {n : Nat} (h : SA X C W es ms) : SE X C W (.Tuple es n pos) (mTup ms) :=
  PE.imp (pe_tup h) fun σ H Q ⟨Γ, env, ds, R, h⟩ => ⟨Γ, env, ds, R, h.bind.imp fun xs ds1 H1 e1 d1 q vs hv => by
    obtain ⟨z, hz, q⟩ := lift_some q
    split at hz
    · rename_i hs
      cases hz
      have hs := short_iff hs
      rw [← hv.length] at hs
      refine ⟨hs, fun p hp => ?_⟩
      obtain ⟨e2, d2, h2⟩ := new_tup (R.go e1 d1) hv hs hp
      exact q _ e2 d2 _ h2
    · cases hz⟩
theorem sf_lst (h : SA X C W es ms) : SF X C W (.List es pos) (mLst ms) :=
  PE.imp (pe_lst h) fun σ H Q ⟨Γ, env, ds, R, h⟩ => ⟨Γ, env, ds, R, h.bind.imp fun xs ds1 H1 e1 d1 q vs hv => by
    obtain ⟨z, hz, q⟩ := lift_some q
    split at hz
    · rename_i hs
      cases hz
      have hs := short_iff hs
      rw [← hv.length] at hs
      refine ⟨hs, fun p hp => ?_⟩
      refine q _ (ext_new hp) (d1.new hp) p vs ?_ upd_same hs ((hv.avoid hp).mono (fun a u q e => ⟨q, ext_new (Γ := Γ) hp a _ q.1.2.2 e⟩) fun _ _ q => sqT_ext (ext_new hp) d1 q)
      cases k : H p with
      | none => rfl
      | some o =>
        have := e1 p o ((R.go e1 d1).new_gd hp).2.2 k
        rw [hp] at this
        cases this
    · cases hz⟩
end
end DL

/-! DL4: calls of built-ins, slices. -/
namespace DL
open PySem PySem.Spec L2
open PyProof.Rows hiding St

theorem CallR.or {X : Cx} {f : Value} {r r' : List V → Hp → VK → Prop} (h : CallR X f r) (h' : CallR X f r') : CallR X f fun xs H Q => r xs H Q ∨ r' xs H Q := by
  intro pins s σ H xs us Q I rx q
  rcases q with q | q
  · exact h pins s σ H xs us Q I rx q
  · exact h' pins s σ H xs us Q I rx q

section
variable {X : Cx} {C : Exs} {W : WX} {K : PySem.W.Frag} {a b : Expr} {ma mb : ME PyData} {M M1 M2 : Md} {pos p2 p : Pos} {x : Str} {bid T : String}
/-- a call of one argument, by values -/
def Un1 (K : PySem.W.Frag) (r : List V → Hp → VK → Prop) (f : PyData → Option PyData) : Prop :=
  ∀ (Γ : Gm) (σ : St) (H : Hp) (env : Ev) (ds : DS), Rel K Γ σ H env ds → ∀ (x : V) (d z : PyData), MP K Γ σ env H x d → f d = some z →
    ∀ Q : VK, (∀ v H', Ext Γ H H' → DrR K Γ H' ds → Df K H' (gd Γ σ env) v z → Q v H') → r [x] H Q
theorem Un1.same {r : List V → Hp → VK → Prop} {f : PyData → Option PyData} (h : ∀ (Γ : Gm) (σ : St) (H : Hp) (env : Ev) (x : V) (d z : PyData), MP K Γ σ env H x d → f d = some z → ∀ Q : VK, (∀ v, Df K H (gd Γ σ env) v z → Q v H) → r [x] H Q) : Un1 K r f :=
  fun Γ σ H env ds R x d z hx hf Q q => h Γ σ H env x d z hx hf Q fun v hv => q v H Ext.refl R.draw hv
theorem un1_rd {r : List V → Hp → VK → Prop} {f : PyData → Option PyData} (hr : Un1 K r f) (p1 : Pers M) {σ : St} {H : Hp} {Q : VK} (h : rdG MD K C W (mUn f ma) σ H Q) : tCB r (tCons (rdG M K C W ma) tNil) σ H Q := by
  obtain ⟨Γ, env, ds, R, h⟩ := h
  refine ⟨Γ, env, ds, R, h.bind.imp fun d ds1 H1 e1 d1 q x hx => ?_⟩
  obtain ⟨z, hz, q⟩ := lift_some q
  exact hr Γ σ H1 env ds1 (R.go e1 d1) x d z (p1.pk hx) hz Q fun v H3 e3 d3 hv => q H3 e3 d3 v hv
theorem se_callB {r : List V → Hp → VK → Prop} {f : PyData → Option PyData} (hc : CallR X (.builtin bid) r) (hr : Un1 X.K r f) (p1 : Pers M) (hm : X.mg x = none) (hv : bootBuiltins x = some (.builtin bid)) (ha : PE X a (rdG M X.K C W ma)) (hg : Gl X x := by rfl)
    (hn : x ≠ "__name__" := by decide) (hdb : (x == ("__debug__" : Str)) = false := by decide) (he : starEach (a :: []) X.env = (false, eval a X.env) :: starEach [] X.env := by rfl) (hpl : (backTo pos (starEach [] X.env)).any (·.1) = false := by rfl) : SE X C W (.Call (.Name x p) [a] [] pos) (mUn f ma) :=
  PE.imp (pe_callB hc hg hm hv (pa_cons ha pa_nil he) hn hdb he hpl) fun _ _ _ h => un1_rd hr p1 h
theorem se_callTy {r : List V → Hp → VK → Prop} {f : PyData → Option PyData} (hc : CallR X (.type T) r) (hr : Un1 X.K r f) (p1 : Pers M) (hm : X.mg x = none) (hv : bootBuiltins x = some (.type T)) (ha : PE X a (rdG M X.K C W ma)) (hg : Gl X x := by rfl)
    (hn : x ≠ "__name__" := by decide) (hdb : (x == ("__debug__" : Str)) = false := by decide) (he : starEach (a :: []) X.env = (false, eval a X.env) :: starEach [] X.env := by rfl) (hpl : (backTo pos (starEach [] X.env)).any (·.1) = false := by rfl) : SE X C W (.Call (.Name x p) [a] [] pos) (mUn f ma) :=
  PE.imp (pe_callTy hc hg hm hv (pa_cons ha pa_nil he) hn hdb he hpl) fun _ _ _ h => un1_rd hr p1 h
/-- .. that gives a new list -/
def mUnF (f : PyData → Option (List PyData)) (a : ME PyData) : ME (List PyData) := a.bind fun x => ME.lift (f x)
def Un1F (K : PySem.W.Frag) (r : List V → Hp → VK → Prop) (f : PyData → Option (List PyData)) : Prop :=
  ∀ (Γ : Gm) (σ : St) (H : Hp) (env : Ev) (ds : DS), Rel K Γ σ H env ds → ∀ (x : V) (d : PyData) (z : List PyData), MP K Γ σ env H x d → f d = some z →
    ∀ Q : VK, (∀ p us, H p = none → us.length ≤ sizeLine → DfAll K H (gd Γ σ env) us z → Q (.ref p) (upd H p (.lst us))) → r [x] H Q
theorem Rel.none_back {Γ : Gm} {σ : St} {H H1 : Hp} {env : Ev} {ds ds1 : DS} (R : Rel K Γ σ H env ds) (e : Ext Γ H H1) (d : DrR K Γ H1 ds1) {p : Addr} (h : H1 p = none) : H p = none := by
  cases k : H p with
  | none => rfl
  | some o =>
    have := e p o ((R.go e d).new_gd h).2.2 k
    rw [h] at this
    cases this
theorem DfAll.newx {Γ : Gm} {σ : St} {env : Ev} {H : Hp} {ds : DS} {p : Addr} {o : HO} {us : List V} {xs : List PyData} (h : DfAll K H (gd Γ σ env) us xs) (hp : H p = none) (d : DrR K Γ H ds) : DfAll K (upd H p o) (gdx Γ σ env p) us xs :=
  (h.avoid hp).mono (fun a u q e => ⟨q, ext_new (Γ := Γ) hp a _ q.1.2.2 e⟩) fun _ _ q => sqT_ext (ext_new hp) d q
theorem un1F_rd {r : List V → Hp → VK → Prop} {f : PyData → Option (List PyData)} (hr : Un1F K r f) (p1 : Pers M) {σ : St} {H : Hp} {Q : VK} (h : rdF K C W (mUnF f ma) σ H Q) : tCB r (tCons (rdG M K C W ma) tNil) σ H Q := by
  obtain ⟨Γ, env, ds, R, h⟩ := h
  refine ⟨Γ, env, ds, R, h.bind.imp fun d ds1 H1 e1 d1 q x hx => ?_⟩
  obtain ⟨z, hz, q⟩ := lift_some q
  exact hr Γ σ H1 env ds1 (R.go e1 d1) x d z (p1.pk hx) hz Q fun p us hp hl hA => q _ (ext_new hp) (d1.new hp) p us (R.none_back e1 d1 hp) upd_same hl (hA.newx hp d1)
theorem sf_callB {r : List V → Hp → VK → Prop} {f : PyData → Option (List PyData)} (hc : CallR X (.builtin bid) r) (hr : Un1F X.K r f) (p1 : Pers M) (hm : X.mg x = none) (hv : bootBuiltins x = some (.builtin bid)) (ha : PE X a (rdG M X.K C W ma)) (hg : Gl X x := by rfl)
    (hn : x ≠ "__name__" := by decide) (hdb : (x == ("__debug__" : Str)) = false := by decide) (he : starEach (a :: []) X.env = (false, eval a X.env) :: starEach [] X.env := by rfl) (hpl : (backTo pos (starEach [] X.env)).any (·.1) = false := by rfl) : SF X C W (.Call (.Name x p) [a] [] pos) (mUnF f ma) :=
  PE.imp (pe_callB hc hg hm hv (pa_cons ha pa_nil he) hn hdb he hpl) fun _ _ _ h => un1F_rd hr p1 h
theorem sf_callTy {r : List V → Hp → VK → Prop} {f : PyData → Option (List PyData)} (hc : CallR X (.type T) r) (hr : Un1F X.K r f) (p1 : Pers M) (hm : X.mg x = none) (hv : bootBuiltins x = some (.type T)) (ha : PE X a (rdG M X.K C W ma)) (hg : Gl X x := by rfl)
    (hn : x ≠ "__name__" := by decide) (hdb : (x == ("__debug__" : Str)) = false := by decide) (he : starEach (a :: []) X.env = (false, eval a X.env) :: starEach [] X.env := by rfl) (hpl : (backTo pos (starEach [] X.env)).any (·.1) = false := by rfl) : SF X C W (.Call (.Name x p) [a] [] pos) (mUnF f ma) :=
  PE.imp (pe_callTy hc hg hm hv (pa_cons ha pa_nil he) hn hdb he hpl) fun _ _ _ h => un1F_rd hr p1 h

/-! the built-ins -/
def fLen : PyData → Option PyData
  | .list xs => some (.int xs.length)
  | .tuple xs => some (.int xs.length)
  | .str z => if short z.length then some (.int z.length) else none
  | _ => none
theorem un_len : Un1 K (fun xs H Q => (∃ p ys, xs = [.ref p] ∧ (SqL K H p ys ∨ SqT K H p ys) ∧ Q (.int ys.length) H) ∨ ∃ z, xs = [.str z] ∧ z.length ≤ sizeLine ∧ Q (.int z.length) H) fLen := Un1.same fun Γ σ H env x d z hx hf Q q => by
  unfold fLen at hf
  split at hf
  · obtain ⟨a, us, rfl, hS, hl, hA⟩ := hx.list
    cases hf
    refine .inl ⟨a, us, rfl, .inl (SqL.of hS), ?_⟩
    rw [hA.length]
    exact q _ (.int _)
  · obtain ⟨a, us, rfl, hS, hl, hA⟩ := hx.tuple
    cases hf
    refine .inl ⟨a, us, rfl, .inr hS, ?_⟩
    rw [hA.length]
    exact q _ (.int _)
  · obtain rfl := hx.str
    split at hf
    · rename_i hs
      cases hf
      exact .inr ⟨_, rfl, short_iff hs, q _ (.int _)⟩
    · cases hf
  · cases hf
theorem call_lenA : CallR X (.builtin "len") (fun xs H Q => (∃ p ys, xs = [.ref p] ∧ (SqL X.K H p ys ∨ SqT X.K H p ys) ∧ Q (.int ys.length) H) ∨ ∃ z, xs = [.str z] ∧ z.length ≤ sizeLine ∧ Q (.int z.length) H) := .or call_len_seq call_len_str
def fTuple : PyData → Option PyData
  | .list xs => some (.tuple xs)
  | .tuple xs => some (.tuple xs)
  | _ => none
theorem un_tuple : Un1 K (fun xs H Q => ∃ p ys, xs = [.ref p] ∧ ((SqL K H p ys ∧ ∀ l, H l = none → Q (.ref l) (upd H l (.tup ys))) ∨ (SqT K H p ys ∧ Q (.ref p) H))) fTuple := fun Γ σ H env ds R x d z hx hf Q q => by
  unfold fTuple at hf
  split at hf
  · obtain ⟨a, us, rfl, hS, hl, hA⟩ := hx.list
    cases hf
    refine ⟨a, us, rfl, .inl ⟨SqL.of hS, fun p hp => ?_⟩⟩
    obtain ⟨e1, d1, h1⟩ := new_tup R hA hl hp
    exact q _ _ e1 d1 h1
  · obtain ⟨a, us, rfl, hS, hl, hA⟩ := hx.tuple
    cases hf
    exact ⟨a, us, rfl, .inr ⟨hS, q _ H Ext.refl R.draw (.tup hS hl hA)⟩⟩
  · cases hf
def fList : PyData → Option (List PyData)
  | .list xs => some xs
  | .tuple xs => some xs
  | _ => none
theorem un_list : Un1F K (fun xs H Q => ∃ p ys, xs = [.ref p] ∧ (SqL K H p ys ∨ SqT K H p ys) ∧ ∀ l, H l = none → Q (.ref l) (upd H l (.lst ys))) fList := fun Γ σ H env ds R x d z hx hf Q q => by
  unfold fList at hf
  split at hf
  · obtain ⟨a, us, rfl, hS, hl, hA⟩ := hx.list
    cases hf
    exact ⟨a, us, rfl, .inl (SqL.of hS), fun p hp => q p us hp hl hA⟩
  · obtain ⟨a, us, rfl, hS, hl, hA⟩ := hx.tuple
    cases hf
    exact ⟨a, us, rfl, .inr hS, fun p hp => q p us hp hl hA⟩
  · cases hf
def boolsOf : List PyData → Option (List Bool)
  | [] => some []
  | .bool b :: r => (boolsOf r).map (b :: ·)
  | _ => none
def intsOf : List PyData → Option (List Int)
  | [] => some []
  | .int b :: r => (intsOf r).map (b :: ·)
  | _ => none
theorem boolsOf_eq : ∀ {xs : List PyData} {bs : List Bool}, boolsOf xs = some bs → xs = bs.map .bool
  | [], _, h => by cases h; rfl
  | .bool b :: r, _, h => by
    unfold boolsOf at h
    cases q : boolsOf r with
    | none => rw [q] at h; cases h
    | some bs' => rw [q] at h; cases h; rw [boolsOf_eq q]; rfl
  | .none :: _, _, h => by cases h
  | .int _ :: _, _, h => by cases h
  | .str _ :: _, _, h => by cases h
  | .list _ :: _, _, h => by cases h
  | .tuple _ :: _, _, h => by cases h
  | .dict _ :: _, _, h => by cases h
theorem intsOf_eq : ∀ {xs : List PyData} {bs : List Int}, intsOf xs = some bs → xs = bs.map .int
  | [], _, h => by cases h; rfl
  | .int b :: r, _, h => by
    unfold intsOf at h
    cases q : intsOf r with
    | none => rw [q] at h; cases h
    | some bs' => rw [q] at h; cases h; rw [intsOf_eq q]; rfl
  | .none :: _, _, h => by cases h
  | .bool _ :: _, _, h => by cases h
  | .str _ :: _, _, h => by cases h
  | .list _ :: _, _, h => by cases h
  | .tuple _ :: _, _, h => by cases h
  | .dict _ :: _, _, h => by cases h
theorem boolsOf_map : ∀ bs : List Bool, boolsOf (bs.map .bool) = some bs
  | [] => rfl
  | b :: r => by show (boolsOf (r.map .bool)).map (b :: ·) = _; rw [boolsOf_map r]; rfl
theorem intsOf_map : ∀ bs : List Int, intsOf (bs.map .int) = some bs
  | [] => rfl
  | b :: r => by show (intsOf (r.map .int)).map (b :: ·) = _; rw [intsOf_map r]; rfl
def fAll : PyData → Option PyData
  | .list xs => (boolsOf xs).map fun bs => .bool (bs.all id)
  | _ => none
def fAny : PyData → Option PyData
  | .list xs => (boolsOf xs).map fun bs => .bool (bs.any id)
  | _ => none
def fSum : PyData → Option PyData
  | .list xs => (intsOf xs).map fun bs => .int bs.sum
  | _ => none
theorem un_all : Un1 K (rAll K) fAll := Un1.same fun Γ σ H env x d z hx hf Q q => by
  unfold fAll at hf
  split at hf
  · obtain ⟨a, us, rfl, hS, hl, hA⟩ := hx.list
    obtain ⟨bs, e1, e2⟩ := Option.map_eq_some_iff.mp hf
    subst e2
    obtain rfl := boolsOf_eq e1
    rw [hA.bls_inv] at hS
    exact ⟨a, bs, rfl, SqL.of hS, q _ (.bl _)⟩
  · cases hf
theorem un_any : Un1 K (rAny K) fAny := Un1.same fun Γ σ H env x d z hx hf Q q => by
  unfold fAny at hf
  split at hf
  · obtain ⟨a, us, rfl, hS, hl, hA⟩ := hx.list
    obtain ⟨bs, e1, e2⟩ := Option.map_eq_some_iff.mp hf
    subst e2
    obtain rfl := boolsOf_eq e1
    rw [hA.bls_inv] at hS
    exact ⟨a, bs, rfl, SqL.of hS, q _ (.bl _)⟩
  · cases hf
theorem un_sum : Un1 K (rSum K) fSum := Un1.same fun Γ σ H env x d z hx hf Q q => by
  unfold fSum at hf
  split at hf
  · obtain ⟨a, us, rfl, hS, hl, hA⟩ := hx.list
    obtain ⟨bs, e1, e2⟩ := Option.map_eq_some_iff.mp hf
    subst e2
    obtain rfl := intsOf_eq e1
    rw [hA.ints_inv] at hS
    exact ⟨a, bs, rfl, SqL.of hS, q _ (.int _)⟩
  · cases hf
def fAbs : PyData → Option PyData
  | .int i => some (.int (if i < 0 then -i else i))
  | _ => none
theorem un_abs : Un1 K (fun xs H Q => ∃ i, xs = [.int i] ∧ Q (.int (if i < 0 then -i else i)) H) fAbs := Un1.same fun Γ σ H env x d z hx hf Q q => by
  unfold fAbs at hf
  split at hf
  · obtain rfl := hx.int
    cases hf
    exact ⟨_, rfl, q _ (.int _)⟩
  · cases hf
def fInt : PyData → Option PyData
  | .int i => some (.int i)
  | .bool b => some (.int (if b then 1 else 0))
  | _ => none
theorem un_int : Un1 K (fun xs H Q => (∃ i, xs = [.int i] ∧ Q (.int i) H) ∨ ∃ k, xs = [.bl k] ∧ Q (.int (if k then 1 else 0)) H) fInt := Un1.same fun Γ σ H env x d z hx hf Q q => by
  unfold fInt at hf
  split at hf
  · obtain rfl := hx.int
    cases hf
    exact .inl ⟨_, rfl, q _ (.int _)⟩
  · obtain rfl := hx.bool
    cases hf
    exact .inr ⟨_, rfl, q _ (.int _)⟩
  · cases hf
def maxOf : Int → List Int → Int
  | m, [] => m
  | m, x :: r => maxOf (if x > m then x else m) r
def minOf : Int → List Int → Int
  | m, [] => m
  | m, x :: r => minOf (if x < m then x else m) r
theorem maxOf_ge : ∀ (r : List Int) (m : Int), m ≤ maxOf m r ∧ (∀ x ∈ r, x ≤ maxOf m r) ∧ (maxOf m r = m ∨ maxOf m r ∈ r)
  | [], m => ⟨Int.le_refl _, (fun _ h => by cases h), .inl rfl⟩
  | x :: r, m => by
    obtain ⟨h1, h2, h3⟩ := maxOf_ge r (if x > m then x else m)
    refine ⟨?_, fun y hy => ?_, ?_⟩
    · show m ≤ maxOf (if x > m then x else m) r
      by_cases k : x > m
      · rw [if_pos k] at h1 ⊢; omega
      · rw [if_neg k] at h1 ⊢; exact h1
    · show y ≤ maxOf (if x > m then x else m) r
      rcases List.mem_cons.mp hy with rfl | hy
      · by_cases k : y > m
        · rw [if_pos k] at h1 ⊢; exact h1
        · rw [if_neg k] at h1 ⊢; omega
      · exact h2 y hy
    · show maxOf (if x > m then x else m) r = m ∨ maxOf (if x > m then x else m) r ∈ x :: r
      rcases h3 with h3 | h3
      · by_cases k : x > m
        · rw [if_pos k] at h3 ⊢; exact .inr (List.mem_cons.mpr (.inl h3))
        · rw [if_neg k] at h3 ⊢; exact .inl h3
      · exact .inr (List.mem_cons_of_mem _ h3)
theorem minOf_le : ∀ (r : List Int) (m : Int), minOf m r ≤ m ∧ (∀ x ∈ r, minOf m r ≤ x) ∧ (minOf m r = m ∨ minOf m r ∈ r)
  | [], m => ⟨Int.le_refl _, (fun _ h => by cases h), .inl rfl⟩
  | x :: r, m => by
    obtain ⟨h1, h2, h3⟩ := minOf_le r (if x < m then x else m)
    refine ⟨?_, fun y hy => ?_, ?_⟩
    · show minOf (if x < m then x else m) r ≤ m
      by_cases k : x < m
      · rw [if_pos k] at h1 ⊢; omega
      · rw [if_neg k] at h1 ⊢; exact h1
    · show minOf (if x < m then x else m) r ≤ y
      rcases List.mem_cons.mp hy with rfl | hy
      · by_cases k : y < m
        · rw [if_pos k] at h1 ⊢; exact h1
        · rw [if_neg k] at h1 ⊢; omega
      · exact h2 y hy
    · show minOf (if x < m then x else m) r = m ∨ minOf (if x < m then x else m) r ∈ x :: r
      rcases h3 with h3 | h3
      · by_cases k : x < m
        · rw [if_pos k] at h3 ⊢; exact .inr (List.mem_cons.mpr (.inl h3))
        · rw [if_neg k] at h3 ⊢; exact .inl h3
      · exact .inr (List.mem_cons_of_mem _ h3)
def fMax : PyData → Option PyData
  | .list xs => (intsOf xs).bind fun bs => match bs with | [] => none | m :: r => some (.int (maxOf m r))
  | _ => none
def fMin : PyData → Option PyData
  | .list xs => (intsOf xs).bind fun bs => match bs with | [] => none | m :: r => some (.int (minOf m r))
  | _ => none
theorem un_max : Un1 K (rMax K) fMax := Un1.same fun Γ σ H env x d z hx hf Q q => by
  unfold fMax at hf
  split at hf
  · obtain ⟨a, us, rfl, hS, hl, hA⟩ := hx.list
    obtain ⟨bs, e1, e2⟩ := Option.bind_eq_some_iff.mp hf
    obtain rfl := intsOf_eq e1
    rw [hA.ints_inv] at hS
    cases bs with
    | nil => cases e2
    | cons m r =>
      cases e2
      refine ⟨a, _, rfl, SqL.of hS, Nat.succ_pos _, fun k hk hle => ?_⟩
      obtain ⟨h1, h2, h3⟩ := maxOf_ge r m
      have e : k = maxOf m r := by
        have t1 : k ≤ maxOf m r := by
          rcases List.mem_cons.mp hk with rfl | hk
          · exact h1
          · exact h2 k hk
        have t2 : maxOf m r ≤ k := by
          rcases h3 with h3 | h3
          · rw [h3]; exact hle m List.mem_cons_self
          · exact hle _ (List.mem_cons_of_mem _ h3)
        omega
      rw [e]
      exact q _ (.int _)
  · cases hf
theorem un_min : Un1 K (rMin K) fMin := Un1.same fun Γ σ H env x d z hx hf Q q => by
  unfold fMin at hf
  split at hf
  · obtain ⟨a, us, rfl, hS, hl, hA⟩ := hx.list
    obtain ⟨bs, e1, e2⟩ := Option.bind_eq_some_iff.mp hf
    obtain rfl := intsOf_eq e1
    rw [hA.ints_inv] at hS
    cases bs with
    | nil => cases e2
    | cons m r =>
      cases e2
      refine ⟨a, _, rfl, SqL.of hS, Nat.succ_pos _, fun k hk hle => ?_⟩
      obtain ⟨h1, h2, h3⟩ := minOf_le r m
      have e : k = minOf m r := by
        have t1 : minOf m r ≤ k := by
          rcases List.mem_cons.mp hk with rfl | hk
          · exact h1
          · exact h2 k hk
        have t2 : k ≤ minOf m r := by
          rcases h3 with h3 | h3
          · rw [h3]; exact hle m List.mem_cons_self
          · exact hle _ (List.mem_cons_of_mem _ h3)
        omega
      rw [e]
      exact q _ (.int _)
  · cases hf
/-- isinstance(x, T) -/
def isOf (n : String) : PyData → Option Bool
  | .none => if n = "int" ∨ n = "bool" ∨ n = "tuple" ∨ n = "str" ∨ n = "list" then some false else none
  | .bool _ => if n = "int" ∨ n = "bool" then some true else if n = "tuple" ∨ n = "str" ∨ n = "list" then some false else none
  | .int _ => if n = "int" then some true else if n = "bool" ∨ n = "tuple" ∨ n = "str" ∨ n = "list" then some false else none
  | .str _ => if n = "str" then some true else if n = "bool" ∨ n = "tuple" ∨ n = "int" ∨ n = "list" then some false else none
  | .list _ => if n = "list" then some true else if n = "bool" ∨ n = "tuple" ∨ n = "int" ∨ n = "str" then some false else none
  | .tuple _ => if n = "tuple" then some true else if n = "bool" ∨ n = "list" ∨ n = "int" ∨ n = "str" then some false else none
  | .dict _ => none
def mIsi (n : Nat) (a : ME PyData) : ME PyData := a.bind fun x => ME.lift ((isOf (["int", "bool", "tuple", "str", "list"].getD n "") x).map .bool)
theorem tyX_of {Γ : Gm} {σ : St} {env : Ev} {H : Hp} {v : V} {d : PyData} (h : MP K Γ σ env H v d) : (d = .none ∧ TyX K H v (.type "NoneType")) ∨ ((∃ b, d = .bool b) ∧ TyX K H v (.type "bool")) ∨ ((∃ b, d = .int b) ∧ TyX K H v (.type "int")) ∨
    ((∃ b, d = .str b) ∧ TyX K H v (.type "str")) ∨ ((∃ b, d = .list b) ∧ TyX K H v (.type "list")) ∨ ((∃ b, d = .tuple b) ∧ TyX K H v (.type "tuple")) := by
  cases d with
  | none => obtain rfl := h.none; exact .inl ⟨rfl, .base .non⟩
  | bool b => obtain rfl := h.bool; exact .inr (.inl ⟨⟨_, rfl⟩, .base (.bl _)⟩)
  | int b => obtain rfl := h.int; exact .inr (.inr (.inl ⟨⟨_, rfl⟩, .base (.int _)⟩))
  | str b => obtain rfl := h.str; exact .inr (.inr (.inr (.inl ⟨⟨_, rfl⟩, .base (.str _)⟩)))
  | list b =>
    obtain ⟨a, us, rfl, hS, hl, hA⟩ := h.list
    exact .inr (.inr (.inr (.inr (.inl ⟨⟨_, rfl⟩, .base (.lst hS)⟩))))
  | tuple b =>
    obtain ⟨a, us, rfl, hS, hl, hA⟩ := h.tuple
    refine .inr (.inr (.inr (.inr (.inr ⟨⟨_, rfl⟩, ?_⟩))))
    rcases hS with (hS | ⟨o, hS⟩) | ⟨o, its, n, hk, hc, _⟩
    · exact .base (.tup hS)
    · exact .fTuple hS
    · exact .kTuple hk hc
  | dict b =>
    rcases h with h | ⟨a, xs, ds, e1, e2, e3, e4, e5, e6⟩
    · cases h
    · cases e2
theorem kit_tab (a n : String) (b : Bool) (h : (a, n, b) ∈ [("NoneType", "int", false), ("NoneType", "bool", false), ("NoneType", "tuple", false), ("NoneType", "str", false), ("NoneType", "list", false), ("bool", "int", true), ("bool", "bool", true), ("bool", "tuple", false), ("bool", "str", false), ("bool", "list", false),
    ("int", "int", true), ("int", "bool", false), ("int", "tuple", false), ("int", "str", false), ("int", "list", false), ("str", "int", false), ("str", "bool", false), ("str", "tuple", false), ("str", "str", true), ("str", "list", false),
    ("list", "int", false), ("list", "bool", false), ("list", "tuple", false), ("list", "str", false), ("list", "list", true), ("tuple", "int", false), ("tuple", "bool", false), ("tuple", "tuple", true), ("tuple", "str", false), ("tuple", "list", false)]) : PySem.W.kitOne K (.type a) (.type n) = some b := by
  refine kit_ty ?_
  revert h
  have key : ([("NoneType", "int", false), ("NoneType", "bool", false), ("NoneType", "tuple", false), ("NoneType", "str", false), ("NoneType", "list", false), ("bool", "int", true), ("bool", "bool", true), ("bool", "tuple", false), ("bool", "str", false), ("bool", "list", false),
    ("int", "int", true), ("int", "bool", false), ("int", "tuple", false), ("int", "str", false), ("int", "list", false), ("str", "int", false), ("str", "bool", false), ("str", "tuple", false), ("str", "str", true), ("str", "list", false),
    ("list", "int", false), ("list", "bool", false), ("list", "tuple", false), ("list", "str", false), ("list", "list", true), ("tuple", "int", false), ("tuple", "bool", false), ("tuple", "tuple", true), ("tuple", "str", false), ("tuple", "list", false)].all fun (t : String × String × Bool) => decide (kitB t.1 t.2.1 = some t.2.2)) = true := by decide +kernel
  intro h
  exact of_decide_eq_true (List.all_eq_true.mp key _ h)
theorem se_isi {n : Nat} {q : Pos} {y : Str} (p1 : Pers M) (ha : PE X a (rdG M X.K C W ma)) (hm : X.mg "isinstance" = none) (hmn : X.mg y = none) (hy : bootBuiltins y = some (.type (["int", "bool", "tuple", "str", "list"].getD n ""))) (hn : n < 5) (hg : Gl X "isinstance" := by rfl) (hgn : Gl X y := by rfl)
    (hyn : y ≠ "__name__" := by decide) (hyd : (y == ("__debug__" : Str)) = false := by decide)
    (he : starEach [a, Expr.Name y q] X.env = (false, eval a X.env) :: starEach [Expr.Name y q] X.env := by rfl) (hs2 : starEach [Expr.Name y q] X.env = (false, eval (Expr.Name y q) X.env) :: starEach [] X.env := by rfl) (hpl : (backTo pos (starEach [Expr.Name y q] X.env)).any (·.1) = false := by rfl) :
    SE X C W (.Call (.Name "isinstance" p) [a, .Name y q] [] pos) (mIsi n ma) := by
  refine PE.imp (pe_callB call_isi hg hm PyProof.Rows.boot_isinstance (pa_cons ha (pa_cons (pe_bltn (v := .ty (["int", "bool", "tuple", "str", "list"].getD n "")) hgn hmn hy rfl hyn hyd) pa_nil hs2) he) (by decide) (by decide) he hpl) fun σ H Q ⟨Γ, env, ds, R, h⟩ => ⟨Γ, env, ds, R, h.bind.imp fun d ds1 H1 e1 d1 q x hx => ?_⟩
  obtain ⟨z, hz, q⟩ := lift_some q
  obtain ⟨b, hb, rfl⟩ := Option.map_eq_some_iff.mp hz
  have fin : ∀ t, TyX X.K H1 x (.type t) → PySem.W.kitOne X.K (.type t) (.type (["int", "bool", "tuple", "str", "list"].getD n "")) = some b → tCons (tC (V.ty (["int", "bool", "tuple", "str", "list"].getD n ""))) tNil σ H1 (fun xs H2 => rIsi X.K (x :: xs) H2 Q) := fun t ty k =>
    ⟨x, _, _, _, b, rfl, .ty _, ty, k, q H1 Ext.refl d1 _ (.bl b)⟩
  have hn5 : n = 0 ∨ n = 1 ∨ n = 2 ∨ n = 3 ∨ n = 4 := by omega
  rcases tyX_of (p1.pk hx) with ⟨rfl, ty⟩ | ⟨⟨_, rfl⟩, ty⟩ | ⟨⟨_, rfl⟩, ty⟩ | ⟨⟨_, rfl⟩, ty⟩ | ⟨⟨_, rfl⟩, ty⟩ | ⟨⟨_, rfl⟩, ty⟩ <;> rcases hn5 with rfl | rfl | rfl | rfl | rfl <;>
    (refine fin _ ty (kit_tab _ _ _ ?_); cases hb; decide)

/-! slices -/
def mPart (a : ME PyData) : ME (Option Int) := a.bind fun x => ME.lift (match x with | .int i => some (some i) | _ => none)
def mNoPart : ME (Option Int) := ME.pure none
def rdO (K : PySem.W.Frag) (C : Exs) (W : WX) (m : ME (Option Int)) : TO := fun σ H Q => ∃ Γ env ds, Rel K Γ σ H env ds ∧ Aft K C W Γ σ H (m env ds) fun o _ H' => Q o H'
abbrev SO (X : Cx) (C : Exs) (W : WX) (e : Option Expr) (m : ME (Option Int)) : Prop := PO X e (rdO X.K C W m)
theorem PO.imp {e : Option Expr} {t t' : TO} (h : PO X e t) (f : ∀ σ H Q, t' σ H Q → t σ H Q) : PO X e t' := ⟨fun pins s σ H Q I q => h.run pins s σ H Q I (f σ H Q q)⟩
theorem so_none : SO X C W none mNoPart := PO.imp po_none fun σ H Q ⟨Γ, env, ds, R, h⟩ => Aft.here h R.draw
theorem so_some (h : SE X C W a ma) : SO X C W (some a) (mPart ma) := PO.imp (po_some h) fun σ H Q ⟨Γ, env, ds, R, h⟩ => ⟨Γ, env, ds, R, h.bind.imp fun d ds1 H1 e1 d1 q x hx => by
  obtain ⟨z, hz, q⟩ := lift_some q
  cases d with
  | int i =>
    cases hx
    cases hz
    exact ⟨_, rfl, q H1 Ext.refl d1⟩
  | _ => cases hz⟩
def cutL {α : Type} (xs : List α) (lo hi : Option Int) : List α := (xs.drop (HT.sIx xs.length 0 lo)).take (HT.sIx xs.length xs.length hi - HT.sIx xs.length 0 lo)
def fSlice (d : PyData) (lo hi : Option Int) : Option PyData := match d with
  | .tuple xs => some (.tuple (cutL xs lo hi))
  | .list xs => some (.list (cutL xs lo hi))
  | .str z => if short z.length then some (.str (cutS z lo hi)) else none
  | _ => none
def mSlice (a : ME PyData) (l h : ME (Option Int)) : ME PyData := a.bind fun x => l.bind fun lo => h.bind fun hi => ME.lift (fSlice x lo hi)
theorem DfAll.cut {H : Hp} {g : Addr → Prop} {us : List V} {xs : List PyData} (h : DfAll K H g us xs) (lo hi : Option Int) : DfAll K H g (cutV us lo hi) (cutL xs lo hi) := by
  unfold cutV cutL
  rw [h.length]
  exact (h.drop _).take _
variable {lo hi : Option Expr} {ml mh : ME (Option Int)}
theorem se_slice (p1 : Pers M) (ha : PE X a (rdG M X.K C W ma)) (hl : SO X C W lo ml) (hh : SO X C W hi mh) : SE X C W (.Subscript a (.Slice lo hi none p2) pos) (mSlice ma ml mh) :=
  PE.imp (pe_slice (SlR.or sl_tupA (SlR.or sl_list sl_str)) ha hl hh) fun σ H Q ⟨Γ, env, ds, R, h⟩ => ⟨Γ, env, ds, R, h.bind.imp fun d ds1 H1 e1 d1 q x hx => ⟨Γ, env, ds1, R.go e1 d1, q.bind.imp fun l ds2 H2 e2 d2 q => ⟨Γ, env, ds2, (R.go e1 d1).go e2 d2, q.bind.imp fun u ds3 H3 e3 d3 q => by
    obtain ⟨z, hz, q⟩ := lift_some q
    have hx3 := p1.pk (p1.ext e3 d2 (p1.ext e2 d1 hx))
    have R3 := ((R.go e1 d1).go e2 d2).go e3 d3
    unfold fSlice at hz
    split at hz
    · obtain ⟨p, us, rfl, hS, hl, hA⟩ := hx3.tuple
      cases hz
      refine .inl ⟨p, us, rfl, hS, fun hw => ?_, fun _ t ht => ?_⟩
      · refine q H3 Ext.refl d3 _ ?_
        rw [show cutL _ l u = _ from by unfold cutL; rw [← hA.length, hw.1, hw.2, List.drop_zero, Nat.sub_zero, hA.length, List.take_length]]
        exact .tup hS hl hA
      · obtain ⟨e4, d4, h4⟩ := new_tup R3 (hA.cut l u) (Nat.le_trans (cutV_length _ _ _) hl) ht
        exact q _ e4 d4 _ h4
    · obtain ⟨p, us, rfl, hS, hl, hA⟩ := hx3.list
      cases hz
      refine .inr (.inl ⟨p, us, rfl, SqL.of hS, fun t ht => ?_⟩)
      obtain ⟨e4, d4, h4⟩ := new_lst R3 (hA.cut l u) (Nat.le_trans (cutV_length _ _ _) hl) ht
      exact q _ e4 d4 _ h4
    · obtain rfl := hx3.str
      split at hz
      · rename_i hs
        cases hz
        exact .inr (.inr ⟨_, rfl, short_iff hs, q H3 Ext.refl d3 _ (.str _)⟩)
      · cases hz
    · cases hz⟩⟩⟩
/-- a slice of a list as a new list -/
def mSliceF (a : ME PyData) (l h : ME (Option Int)) : ME (List PyData) := a.bind fun x => l.bind fun lo => h.bind fun hi => ME.lift (match x with | .list xs => some (cutL xs lo hi) | _ => none)
theorem sf_slice (p1 : Pers M) (ha : PE X a (rdG M X.K C W ma)) (hl : SO X C W lo ml) (hh : SO X C W hi mh) : SF X C W (.Subscript a (.Slice lo hi none p2) pos) (mSliceF ma ml mh) :=
  PE.imp (pe_slice sl_list ha hl hh) fun σ H Q ⟨Γ, env, ds, R, h⟩ => ⟨Γ, env, ds, R, h.bind.imp fun d ds1 H1 e1 d1 q x hx => ⟨Γ, env, ds1, R.go e1 d1, q.bind.imp fun l ds2 H2 e2 d2 q => ⟨Γ, env, ds2, (R.go e1 d1).go e2 d2, q.bind.imp fun u ds3 H3 e3 d3 q => by
    obtain ⟨z, hz, q⟩ := lift_some q
    have hx3 := p1.pk (p1.ext e3 d2 (p1.ext e2 d1 hx))
    have R2 := (R.go e1 d1).go e2 d2
    cases d with
    | list xs =>
      obtain ⟨p, us, rfl, hS, hl, hA⟩ := hx3.list
      cases hz
      refine ⟨p, us, rfl, SqL.of hS, fun t ht => ?_⟩
      exact q _ (ext_new ht) (d3.new ht) t _ (R.none_back ((e1.trans e2).trans e3) d3 ht) upd_same (Nat.le_trans (cutV_length _ _ _) hl) ((hA.cut l u).newx ht d3)
    | _ => cases hz⟩⟩⟩
end
end DL

/-! DL5: statements by their meaning. -/
namespace DL
open PySem PySem.Spec L2
open PyProof.Rows hiding St

/-! ### slots stored -/
section
variable {K : PySem.W.Frag} {Γ : Gm} {σ : St} {H H1 : Hp} {env env' : Ev} {ds ds1 : DS}
/-- a slot that may be stored: it isn't walked -/
def notLk (env : Ev) (i : Nat) : Bool := match env[i]? with
  | some (.lk _) => false
  | _ => true
def put (i : Nat) (x : Sl) (env : Ev) : Option Ev := if notLk env i && decide (i < env.length) then some (env.set i x) else none
theorem put_some {i : Nat} {x : Sl} (h : put i x env = some env') : (∀ xs, env[i]? ≠ some (.lk xs)) ∧ i < env.length ∧ env' = env.set i x := by
  unfold put at h
  split at h
  · rename_i hc
    rw [Bool.and_eq_true] at hc
    cases h
    refine ⟨fun xs q => ?_, of_decide_eq_true hc.2, rfl⟩
    have := hc.1
    unfold notLk at this
    rw [q] at this
    cases this
  · cases h
theorem owned_set_d {i : Nat} {v : V} {x : Sl} (hx : x.own = false) {a : Addr} (h : owned (σ.set i (some v)) (env.set i x) a) : owned σ env a ∧ True := by
  obtain ⟨j, y, h1, h2, h3⟩ := h
  refine ⟨?_, trivial⟩
  by_cases e : i = j
  · subst e
    by_cases hl : i < env.length
    · rw [List.getElem?_set_self hl] at h1
      cases h1
      rw [hx] at h2
      cases h2
    · rw [List.getElem?_eq_none (by rw [List.length_set]; omega)] at h1
      cases h1
  · rw [List.getElem?_set_ne e] at h1 h3
    exact ⟨j, y, h1, h2, h3⟩
theorem gd_set_d {i : Nat} {v : V} {x : Sl} (hx : x.own = false) {a : Addr} (h : gd Γ σ env a) : gd Γ (σ.set i (some v)) (env.set i x) a := ⟨h.1, fun q => h.2.1 (owned_set_d hx q).1, h.2.2⟩
/-- what a slot tells, under more good addresses -/
theorem SlR.mono {g g' : Addr → Prop} {v : Option (Option V)} {x : Sl} (h : SlR K Γ H g v x) (hg : ∀ a, g a → g' a) : SlR K Γ H g' v x := by
  have m : ∀ {us : List V} {xs : List PyData}, DfAll K H g us xs → DfAll K H g' us xs := fun q => q.mono (fun a u z e => ⟨hg a z, e⟩) fun _ _ z => z
  cases x with
  | un => trivial
  | d y =>
    obtain ⟨u, e1, e2⟩ := h
    exact ⟨u, e1, e2.mono (fun a u z e => ⟨hg a z, e⟩) fun _ _ z => z⟩
  | l xs =>
    obtain ⟨a, us, e1, e2, e3, e4⟩ := h
    exact ⟨a, us, e1, e2, m e3, e4⟩
  | lk xs =>
    obtain ⟨a, us, e1, e2, e3, e4⟩ := h
    exact ⟨a, us, e1, e2, m e3, e4⟩
  | drw => exact h
  | scr ns => exact h
/-- a slot is stored with what owns nothing -/
theorem Rel.set_n (R : Rel K Γ σ H env ds) {i : Nat} {v : V} {x : Sl} (hx : x.own = false) (h : SlR K Γ H (gd Γ σ env) (some (some v)) x) (hp : put i x env = some env') : Rel K Γ (σ.set i (some v)) H env' ds := by
  obtain ⟨h1, h2, rfl⟩ := put_some hp
  refine ⟨by rw [List.length_set, List.length_set]; exact R.len, fun j y hy => ?_, fun j k y z hjk hj hk oj ok => ?_, R.okf, R.ext, R.draw, fun p e q => R.drc p e (owned_set_d hx q).1, fun p hp => ?_⟩
  · by_cases e : i = j
    · subst e
      rw [List.getElem?_set_self h2] at hy
      cases hy
      rw [List.getElem?_set_self (by rw [R.len]; exact h2)]
      exact h.mono fun a q => gd_set_d hx q
    · rw [List.getElem?_set_ne e] at hy ⊢
      exact (R.slot j y hy).mono fun a q => gd_set_d hx q
  · have n1 : i ≠ j := fun e => by
      subst e
      rw [List.getElem?_set_self h2] at hj
      cases hj
      rw [hx] at oj
      cases oj
    have n2 : i ≠ k := fun e => by
      subst e
      rw [List.getElem?_set_self h2] at hk
      cases hk
      rw [hx] at ok
      cases ok
    rw [List.getElem?_set_ne n1] at hj ⊢
    rw [List.getElem?_set_ne n2] at hk ⊢
    exact R.sep j k y z hjk hj hk oj ok
  · obtain ⟨xs, e1, e2⟩ := R.lkd p hp
    have n1 : i ≠ p.1 := fun e => by
      subst e
      exact h1 xs e1
    exact ⟨xs, by rw [List.getElem?_set_ne n1]; exact e1, by rw [List.getElem?_set_ne n1]; exact e2⟩
theorem Rel.set_d (R : Rel K Γ σ H env ds) {i : Nat} {v : V} {x : PyData} (h : Df K H (gd Γ σ env) v x) (hp : put i (.d x) env = some env') : Rel K Γ (σ.set i (some v)) H env' ds := R.set_n (x := .d x) rfl ⟨v, rfl, h⟩ hp
/-- a slot is stored with a new list: at H the address was free, since then H1 came about -/
theorem Rel.set_l (R : Rel K Γ σ H env ds) (e : Ext Γ H H1) (d : DrR K Γ H1 ds1) {i : Nat} {p : Addr} {us : List V} {xs : List PyData} (hf : H p = none) (hH : H1 p = some (.lst us)) (hl : us.length ≤ sizeLine) (hA : DfAll K H1 (gdx Γ σ env p) us xs) (hp : put i (.l xs) env = some env') :
    Rel K Γ (σ.set i (some (.ref p))) H1 env' ds1 := by
  obtain ⟨h1, h2, rfl⟩ := put_some hp
  have h3 : i < σ.length := by rw [R.len]; exact h2
  have R1 := R.go e d
  have np := R.new_gd hf
  -- what owns afterwards: p, or another slot
  have ow : ∀ a, owned (σ.set i (some (.ref p))) (env.set i (.l xs)) a → a = p ∨ owned σ env a := by
    rintro a ⟨j, y, q1, q2, q3⟩
    by_cases z : i = j
    · subst z
      rw [List.getElem?_set_self h3] at q3
      cases q3
      exact .inl rfl
    · rw [List.getElem?_set_ne z] at q1 q3
      exact .inr ⟨j, y, q1, q2, q3⟩
  have gx : ∀ a, gd Γ σ env a → a ≠ p → gd Γ (σ.set i (some (.ref p))) (env.set i (.l xs)) a := fun a q n => ⟨q.1, fun z => (ow a z).elim n q.2.1, q.2.2⟩
  -- what was told at H keeps away from p
  have keep : ∀ {v : Option (Option V)} {y : Sl}, SlR K Γ H (gd Γ σ env) v y → SlR K Γ H1 (gd Γ (σ.set i (some (.ref p))) (env.set i (.l xs))) v y := by
    intro v y q
    have m : ∀ {u : V} {x : PyData}, Df K H (gd Γ σ env) u x → Df K H1 (gd Γ (σ.set i (some (.ref p))) (env.set i (.l xs))) u x := fun q =>
      (q.avoid hf).mono (fun a u z k => ⟨gx a z.1 z.2, e a _ z.1.2.2 k⟩) fun _ _ z => sqT_ext e R.draw z
    have ms : ∀ {u : List V} {x : List PyData}, DfAll K H (gd Γ σ env) u x → DfAll K H1 (gd Γ (σ.set i (some (.ref p))) (env.set i (.l xs))) u x := fun q =>
      (q.avoid hf).mono (fun a u z k => ⟨gx a z.1 z.2, e a _ z.1.2.2 k⟩) fun _ _ z => sqT_ext e R.draw z
    cases y with
    | un => trivial
    | d x =>
      obtain ⟨u, q1, q2⟩ := q
      exact ⟨u, q1, m q2⟩
    | l x =>
      obtain ⟨a, u, q1, q2, q3, q4, q5, q6⟩ := q
      exact ⟨a, u, q1, e a _ q6 q2, ms q3, q4, q5, q6⟩
    | lk x =>
      obtain ⟨a, u, q1, q2, q3, q4, q5, q6⟩ := q
      exact ⟨a, u, q1, e a _ q6 q2, ms q3, q4, q5, q6⟩
    | drw => exact q
    | scr ns =>
      obtain ⟨a, q1, q2, q3⟩ := q
      exact ⟨a, q1, scr_ext e R.draw q2, q3⟩
  have free : Γ.H0 p = none := by
    cases q : Γ.H0 p with
    | none => rfl
    | some o =>
      have := R.ext p o np.2.2 q
      rw [hf] at this
      cases this
  -- an owning slot stands elsewhere
  have apart : ∀ (j : Nat) (y : Sl), env[j]? = some y → y.own = true → σ[j]? ≠ some (some (.ref p)) := fun j y hy oy z => by
    obtain ⟨us', q, _⟩ := R.own_at ⟨j, y, hy, oy, z⟩
    rw [hf] at q
    cases q
  refine ⟨by rw [List.length_set, List.length_set]; exact R.len, fun j y hy => ?_, fun j k y z hjk hj hk oj ok => ?_, R.okf, R1.ext, d, fun q eq z => ?_, fun q hq => ?_⟩
  · by_cases z : i = j
    · subst z
      rw [List.getElem?_set_self h2] at hy
      cases hy
      rw [List.getElem?_set_self h3]
      exact ⟨p, us, rfl, hH, hA.mono (fun a u q k => ⟨gx a q.1 q.2, k⟩) (fun _ _ q => q), hl, free, np.2.2⟩
    · rw [List.getElem?_set_ne z] at hy ⊢
      exact keep (R.slot j y hy)
  · by_cases n1 : i = j
    · subst n1
      have n2 : i ≠ k := hjk
      rw [List.getElem?_set_ne n2] at hk ⊢
      rw [List.getElem?_set_self h3]
      exact fun z' => apart k z hk ok z'.symm
    · rw [List.getElem?_set_ne n1] at hj ⊢
      by_cases n2 : i = k
      · subst n2
        rw [List.getElem?_set_self h3]
        exact fun z' => apart j y hj oj z'
      · rw [List.getElem?_set_ne n2] at hk ⊢
        exact R.sep j k y z hjk hj hk oj ok
  · rcases ow _ z with z | z
    · -- the cells' list was there at H
      have dd := R.draw
      unfold DrR at dd
      rw [eq] at dd
      cases hds : ds with
      | none => rw [hds] at dd; exact dd
      | some s =>
        rw [hds] at dd
        have := dd.2.1
        rw [z, hf] at this
        cases this
    · exact R.drc q eq z
  · obtain ⟨ys, e1, e2⟩ := R.lkd q hq
    have n1 : i ≠ q.1 := fun z => by
      subst z
      exact h1 ys e1
    exact ⟨ys, by rw [List.getElem?_set_ne n1]; exact e1, by rw [List.getElem?_set_ne n1]; exact e2⟩
/-- one's own list is changed -/
theorem Rel.upd_l (R : Rel K Γ σ H env ds) {i : Nat} {a : Addr} {us' : List V} {xs xs' : List PyData} (hs : env[i]? = some (.l xs)) (hv : σ[i]? = some (some (.ref a))) (hl : us'.length ≤ sizeLine) (hA : DfAll K H (gd Γ σ env) us' xs') :
    Rel K Γ σ (upd H a (.lst us')) (env.set i (.l xs')) ds := by
  have q := R.slot i _ hs
  obtain ⟨b, us0, e1, e2, e3, e4, e5, e6⟩ := q
  rw [hv] at e1
  cases e1
  have h2 : i < env.length := (List.getElem?_eq_some_iff.mp hs).1
  have oa : owned σ env a := ⟨i, _, hs, rfl, hv⟩
  have ow : ∀ c, owned σ (env.set i (.l xs')) c ↔ owned σ env c := fun c => by
    constructor
    · rintro ⟨j, y, q1, q2, q3⟩
      by_cases z : i = j
      · subst z
        exact ⟨i, _, hs, rfl, q3⟩
      · rw [List.getElem?_set_ne z] at q1
        exact ⟨j, y, q1, q2, q3⟩
    · rintro ⟨j, y, q1, q2, q3⟩
      by_cases z : i = j
      · subst z
        exact ⟨i, .l xs', by rw [List.getElem?_set_self h2], rfl, q3⟩
      · exact ⟨j, y, by rw [List.getElem?_set_ne z]; exact q1, q2, q3⟩
  have gg : ∀ c, gd Γ σ env c → gd Γ σ (env.set i (.l xs')) c ∧ c ≠ a := fun c q => ⟨⟨q.1, fun z => q.2.1 ((ow c).mp z), q.2.2⟩, fun z => q.2.1 (by rw [z]; exact oa)⟩
  have tq : ∀ c u, SqT K H c u → SqT K (upd H a (.lst us')) c u := fun c u q => by
    rcases q with (q | ⟨o, q⟩) | q
    · refine .inl (.inl ?_); rw [upd_ne (ne_of q e2 (by intro z; cases z))]; exact q
    · refine .inl (.inr ⟨o, ?_⟩); rw [upd_ne (ne_of q e2 (by intro z; cases z))]; exact q
    · exact .inr q
  have m : ∀ {u : V} {x : PyData}, Df K H (gd Γ σ env) u x → Df K (upd H a (.lst us')) (gd Γ σ (env.set i (.l xs'))) u x := fun q =>
    q.mono (fun c u z k => ⟨(gg c z).1, by rw [upd_ne (gg c z).2]; exact k⟩) tq
  have ms : ∀ {u : List V} {x : List PyData}, DfAll K H (gd Γ σ env) u x → DfAll K (upd H a (.lst us')) (gd Γ σ (env.set i (.l xs'))) u x := fun q =>
    q.mono (fun c u z k => ⟨(gg c z).1, by rw [upd_ne (gg c z).2]; exact k⟩) tq
  refine ⟨by rw [List.length_set]; exact R.len, fun j y hy => ?_, fun j k y z hjk hj hk oj ok => ?_, R.okf, fun c o n q => ?_, ?_, fun p e z => R.drc p e ((ow _).mp z), fun p hp => ?_⟩
  · by_cases z : i = j
    · subst z
      rw [List.getElem?_set_self h2] at hy
      cases hy
      exact ⟨a, us', hv, upd_same, ms hA, hl, e5, e6⟩
    · rw [List.getElem?_set_ne z] at hy
      have q := R.slot j y hy
      have ne : ∀ b, y.own = true → σ[j]? = some (some (.ref b)) → b ≠ a := fun b oy e w => R.sep i j _ y z hs hy rfl oy (by rw [hv, e, w])
      cases y with
      | un => trivial
      | d x =>
        obtain ⟨u, q1, q2⟩ := q
        exact ⟨u, q1, m q2⟩
      | l x =>
        obtain ⟨b, u, q1, q2, q3, q4⟩ := q
        exact ⟨b, u, q1, by rw [upd_ne (ne b rfl q1)]; exact q2, ms q3, q4⟩
      | lk x =>
        obtain ⟨b, u, q1, q2, q3, q4⟩ := q
        exact ⟨b, u, q1, by rw [upd_ne (ne b rfl q1)]; exact q2, ms q3, q4⟩
      | drw => exact q
      | scr ns =>
        obtain ⟨b, q1, q2, q3⟩ := q
        refine ⟨b, q1, ?_, q3⟩
        rcases q2 with ⟨o, q2⟩ | q2
        · refine .inl ⟨o, ?_⟩
          rw [upd_ne (ne_of q2 e2 (by intro z; cases z))]
          exact q2
        · exact .inr q2
  · have hj' : ∃ y', env[j]? = some y' ∧ y'.own = true := by
      by_cases z : i = j
      · subst z; exact ⟨_, hs, rfl⟩
      · rw [List.getElem?_set_ne z] at hj; exact ⟨y, hj, oj⟩
    have hk' : ∃ y', env[k]? = some y' ∧ y'.own = true := by
      by_cases z : i = k
      · subst z; exact ⟨_, hs, rfl⟩
      · rw [List.getElem?_set_ne z] at hk; exact ⟨_, hk, ok⟩
    obtain ⟨y1, q1, q2⟩ := hj'
    obtain ⟨y2, q3, q4⟩ := hk'
    exact R.sep j k y1 y2 hjk q1 q3 q2 q4
  · have w := R.ext c o n q
    have : c ≠ a := fun z => by rw [z, e5] at q; cases q
    rw [upd_ne this]
    exact w
  · have dd := R.draw
    unfold DrR at dd ⊢
    cases hdr : Γ.dr with
    | none =>
      rw [hdr] at dd
      cases ds with
      | none => trivial
      | some s => exact dd
    | some p =>
      rw [hdr] at dd
      cases ds with
      | none => exact dd
      | some s =>
        obtain ⟨d1, d2, d3⟩ := dd
        refine ⟨by rw [upd_ne fun z => e6 p hdr z.symm]; exact d1, ?_, d3⟩
        have : p.2 ≠ a := fun z => R.drc p hdr (by rw [z]; exact oa)
        rw [upd_ne this]
        exact d2
  · obtain ⟨ys, q1, q2⟩ := R.lkd p hp
    have n1 : i ≠ p.1 := fun z => by
      subst z
      rw [hs] at q1
      cases q1
    exact ⟨ys, by rw [List.getElem?_set_ne n1]; exact q1, q2⟩
end

/-! ### meanings of statements -/
inductive Fl where
  | nx (env : Ev)
  | bk (env : Ev)
  | ct (env : Ev)
  | rt (d : PyData)
  | ex (x : Exn) (env : Ev)
abbrev MS := Ev → DS → Option (Fl × DS)
/-- what is handed back: data; where fr, a new list -/
def RetR (fr : Bool) (K : PySem.W.Frag) (Γ : Gm) (H : Hp) (ds : DS) (v : V) (d : PyData) : Prop :=
  Ext Γ Γ.H0 H ∧ DrR K Γ H ds ∧ if fr = true then ∃ p us xs, v = .ref p ∧ d = .list xs ∧ Γ.H0 p = none ∧ Γ.nd p ∧ H p = some (.lst us) ∧ us.length ≤ sizeLine ∧ DfAll K H (fun a => (Γ.ok a ∧ Γ.nd a) ∧ a ≠ p) us xs
    else Df K H (fun a => Γ.ok a ∧ Γ.nd a) v d
def rdS (K : PySem.W.Frag) (C : Exs) (W : WX) (fr : Bool) (m : MS) : TS := fun D σ H => ∃ Γ env ds, Rel K Γ σ H env ds ∧
  match m env ds with
  | some (.nx env', ds') => ∀ σ' H', Rel K Γ σ' H' env' ds' → D.nx σ' H'
  | some (.bk env', ds') => ∀ σ' H', Rel K Γ σ' H' env' ds' → D.bk σ' H'
  | some (.ct env', ds') => ∀ σ' H', Rel K Γ σ' H' env' ds' → D.ct σ' H'
  | some (.rt d, ds') => ∀ v H', RetR fr K Γ H' ds' v d → D.rt v H'
  | some (.ex x env', ds') => ∀ cls dd σ' H', Rel K Γ σ' H' env' ds' → ExR C x cls dd H' → W cls dd σ' H'
  | none => False
/-- the same as a statement about a result -/
def Aft2 (K : PySem.W.Frag) (C : Exs) (W : WX) (fr : Bool) (Γ : Gm) (D : Ends) (r : Option (Fl × DS)) : Prop :=
  match r with
  | some (.nx env', ds') => ∀ σ' H', Rel K Γ σ' H' env' ds' → D.nx σ' H'
  | some (.bk env', ds') => ∀ σ' H', Rel K Γ σ' H' env' ds' → D.bk σ' H'
  | some (.ct env', ds') => ∀ σ' H', Rel K Γ σ' H' env' ds' → D.ct σ' H'
  | some (.rt d, ds') => ∀ v H', RetR fr K Γ H' ds' v d → D.rt v H'
  | some (.ex x env', ds') => ∀ cls dd σ' H', Rel K Γ σ' H' env' ds' → ExR C x cls dd H' → W cls dd σ' H'
  | none => False
theorem rdS_iff {K : PySem.W.Frag} {C : Exs} {W : WX} {fr : Bool} {m : MS} {D : Ends} {σ : St} {H : Hp} : rdS K C W fr m D σ H ↔ ∃ Γ env ds, Rel K Γ σ H env ds ∧ Aft2 K C W fr Γ D (m env ds) := Iff.rfl
abbrev SS (X : Cx) (C : Exs) (W : WX) (fr : Bool) (st : Stmt) (m : MS) : Prop := PS X st (rdS X.K C W fr m)
abbrev SSs (X : Cx) (C : Exs) (W : WX) (fr : Bool) (st : List Stmt) (m : MS) : Prop := PSs X st (rdS X.K C W fr m)
theorem PS.imp {X : Cx} {st : Stmt} {t t' : TS} (h : PS X st t) (f : ∀ D σ H, t' D σ H → t D σ H) : PS X st t' := ⟨fun pins s σ H D I q => h.run pins s σ H D I (f D σ H q)⟩
theorem PSs.imp {X : Cx} {st : List Stmt} {t t' : TS} (h : PSs X st t) (f : ∀ D σ H, t' D σ H → t D σ H) : PSs X st t' := ⟨fun pins s σ H D I q => h.run pins s σ H D I (f D σ H q)⟩
/-- from an expression's result to a statement's -/
def exS {α : Type} (a : ME α) (f : α → MS) : MS := fun env ds => match a env ds with
  | some (.ok x, ds') => f x env ds'
  | some (.exc e, ds') => some (.ex e env, ds')
  | none => none
def mSkip : MS := fun env ds => some (.nx env, ds)
def mSeq (a b : MS) : MS := fun env ds => match a env ds with
  | some (.nx env', ds') => b env' ds'
  | r => r
def mSet (i : Nat) (a : ME PyData) : MS := exS a fun x env ds => match put i (.d x) env with
  | some env' => some (.nx env', ds)
  | none => none
def mSetL (i : Nat) (a : ME (List PyData)) : MS := exS a fun xs env ds => match put i (.l xs) env with
  | some env' => some (.nx env', ds)
  | none => none
def mDrop (a : ME PyData) : MS := exS a fun _ => mSkip
def mRet (a : ME PyData) : MS := exS a fun x _ ds => some (.rt x, ds)
def mRetF (a : ME (List PyData)) : MS := exS a fun x _ ds => some (.rt (.list x), ds)
def mRetN : MS := fun _ ds => some (.rt .none, ds)
def mIfS (c : ME Bool) (a b : MS) : MS := exS c fun x => if x then a else b
def mRaise (x : Exn) : MS := fun env ds => some (.ex x env, ds)
def mBrk : MS := fun env ds => some (.bk env, ds)
def mCont : MS := fun env ds => some (.ct env, ds)
def mNever : MS := fun _ _ => none

section
variable {X : Cx} {C : Exs} {W : WX} {fr : Bool} {st : Stmt} {rest : List Stmt} {m m1 m2 : MS} {e : Expr} {me : ME PyData} {mf : ME (List PyData)} {pos : Pos}
theorem exS_aft {K : PySem.W.Frag} {α : Type} {a : ME α} {f : α → MS} {Γ : Gm} {σ : St} {H : Hp} {env : Ev} {ds : DS} {D : Ends} (R : Rel K Γ σ H env ds) (h : Aft2 K C W fr Γ D (exS a f env ds)) :
    Aft K C W Γ σ H (a env ds) fun x ds1 H1 => Aft2 K C W fr Γ D (f x env ds1) := by
  unfold exS at h
  unfold Aft
  rcases q : a env ds with _ | ⟨x | x, ds1⟩
  · rw [q] at h; exact h
  · rw [q] at h; exact fun H1 e1 d1 => h
  · rw [q] at h
    exact fun cls d H1 e1 d1 hx => h cls d σ H1 (R.go e1 d1) hx
theorem ss_pass : SS X C W fr (.Pass pos) mSkip := PS.imp ps_pass fun D σ H ⟨Γ, env, ds, R, h⟩ => h σ H R
theorem ss_break : SS X C W fr (.Break pos) mBrk := PS.imp ps_break fun D σ H ⟨Γ, env, ds, R, h⟩ => h σ H R
theorem ss_cont : SS X C W fr (.Continue pos) mCont := PS.imp ps_continue fun D σ H ⟨Γ, env, ds, R, h⟩ => h σ H R
theorem sss_nil : SSs X C W fr [] mSkip := PSs.imp pss_nil fun D σ H ⟨Γ, env, ds, R, h⟩ => h σ H R
theorem sss_one (h : SS X C W fr st m) : SSs X C W fr [st] m := pss_one h
theorem seq_aft {K : PySem.W.Frag} {Γ : Gm} {D : Ends} {env : Ev} {ds : DS} (h : Aft2 K C W fr Γ D (mSeq m1 m2 env ds)) : Aft2 K C W fr Γ { D with nx := rdS K C W fr m2 D } (m1 env ds) := by
  unfold mSeq at h
  rcases q : m1 env ds with _ | ⟨f, ds1⟩
  · rw [q] at h; exact h
  · rw [q] at h
    cases f with
    | nx env' => exact fun σ' H' R' => ⟨Γ, env', ds1, R', h⟩
    | bk env' => exact h
    | ct env' => exact h
    | rt d => exact h
    | ex x env' => exact h
theorem sss_cons (h1 : SS X C W fr st m1) (h2 : SSs X C W fr rest m2) : SSs X C W fr (st :: rest) (mSeq m1 m2) :=
  PSs.imp (pss_cons h1 h2) fun D σ H ⟨Γ, env, ds, R, h⟩ => ⟨Γ, env, ds, R, seq_aft h⟩
theorem ss_set (i : Nat) {x : Str} {pos' : Pos} (hN : X.N.Nodup) (he : SE X C W e me) (hi : X.N[i]? = some x := by rfl) (hx : Loc X.env.scope x := by exact .inl rfl) (hs : swapsWith e (some (.Name x pos')) pos.line X.env = pure false := by rfl)
    (hf : X.fn x = true ∨ X.env.scope.names.lookup x = some .local := by first | exact .inl rfl | exact .inr rfl) : SS X C W fr (.Assign [.Name x pos'] e pos) (mSet i me) :=
  PS.imp (ps_set hN hi hx he hs hf) fun D σ H ⟨Γ, env, ds, R, h⟩ => ⟨Γ, env, ds, R, (exS_aft R h).imp fun d ds1 H1 e1 d1 q v hv => by
    cases hp : put i (.d d) env with
    | none => rw [hp] at q; exact q.elim
    | some env' =>
      rw [hp] at q
      exact q _ _ ((R.go e1 d1).set_d hv hp)⟩
theorem ss_setL (i : Nat) {x : Str} {pos' : Pos} (hN : X.N.Nodup) (he : SF X C W e mf) (hi : X.N[i]? = some x := by rfl) (hx : Loc X.env.scope x := by exact .inl rfl) (hs : swapsWith e (some (.Name x pos')) pos.line X.env = pure false := by rfl)
    (hf : X.fn x = true ∨ X.env.scope.names.lookup x = some .local := by first | exact .inl rfl | exact .inr rfl) : SS X C W fr (.Assign [.Name x pos'] e pos) (mSetL i mf) :=
  PS.imp (ps_set hN hi hx he hs hf) fun D σ H ⟨Γ, env, ds, R, h⟩ => ⟨Γ, env, ds, R, (exS_aft R h).imp fun d ds1 H1 e1 d1 q a us h1 h2 h3 h4 => by
    cases hp : put i (.l d) env with
    | none => rw [hp] at q; exact q.elim
    | some env' =>
      rw [hp] at q
      exact q _ _ (R.set_l e1 d1 h1 h2 h3 h4 hp)⟩
theorem ss_expr (he : SE X C W e me) (hs : swapsWith e none pos.line X.env = pure false := by rfl) : SS X C W fr (.Expr e pos) (mDrop me) :=
  PS.imp (ps_expr he hs) fun D σ H ⟨Γ, env, ds, R, h⟩ => ⟨Γ, env, ds, R, (exS_aft R h).imp fun d ds1 H1 e1 d1 q v hv => q _ _ (R.go e1 d1)⟩
theorem ss_ret (he : SE X C W e me) : SS X C W false (.Return (some e) pos) (mRet me) :=
  PS.imp (ps_ret he) fun D σ H ⟨Γ, env, ds, R, h⟩ => ⟨Γ, env, ds, R, (exS_aft R h).imp fun d ds1 H1 e1 d1 q v hv => q v H1 ⟨R.ext.trans e1, d1, hv.mono (fun a u z k => ⟨⟨z.1, z.2.2⟩, k⟩) fun _ _ z => z⟩⟩
theorem ss_retN : SS X C W false (.Return none pos) mRetN :=
  PS.imp ps_retN fun D σ H ⟨Γ, env, ds, R, h⟩ => h .non H ⟨R.ext, R.draw, .non⟩
theorem ss_retF (he : SF X C W e mf) : SS X C W true (.Return (some e) pos) (mRetF mf) :=
  PS.imp (ps_ret he) fun D σ H ⟨Γ, env, ds, R, h⟩ => ⟨Γ, env, ds, R, (exS_aft R h).imp fun d ds1 H1 e1 d1 q a us h1 h2 h3 h4 => by
    have np := R.new_gd h1
    refine q (.ref a) H1 ⟨R.ext.trans e1, d1, ?_⟩
    rw [if_pos rfl]
    refine ⟨a, us, d, rfl, rfl, ?_, np.2.2, h2, h3, h4.mono (fun b u z k => ⟨⟨⟨z.1.1, z.1.2.2⟩, z.2⟩, k⟩) fun _ _ z => z⟩
    cases q' : Γ.H0 a with
    | none => rfl
    | some o =>
      have := R.ext a o np.2.2 q'
      rw [h1] at this
      cases this⟩
/-- one's own list is handed back -/
def mRetL (i : Nat) : MS := fun env ds => match env[i]? with
  | some (.l xs) => some (.rt (.list xs), ds)
  | _ => none
theorem ss_retL (i : Nat) {x : Str} {p : Pos} (hN : X.N[i]? = some x := by rfl) (hv : Vis X.env.scope x := by first | exact Or.inl rfl | exact Or.inr (Or.inl rfl) | exact Or.inr (Or.inr rfl)) (hd : (x == ("__debug__" : Str)) = false := by decide)
    (hcd : (x == ("__classdict__" : Str)) = false := by decide) (fr : Bool) : SS X C W fr (.Return (some (.Name x p)) pos) (mRetL i) :=
  PS.imp (ps_ret (pe_var hN hv hd hcd)) fun D σ H ⟨Γ, env, ds, R, h⟩ => by
    unfold mRetL at h
    cases q : env[i]? with
    | none => rw [q] at h; exact h.elim
    | some x =>
      rw [q] at h
      have s := R.slot i x q
      cases x with
      | l xs =>
        obtain ⟨a, us, e1, e2, e3, e4, e5, e6⟩ := s
        refine ⟨_, e1, h (.ref a) H ⟨R.ext, R.draw, ?_⟩⟩
        have oa : owned σ env a := ⟨i, _, q, rfl, e1⟩
        cases fr with
        | true =>
          rw [if_pos rfl]
          exact ⟨a, us, xs, rfl, rfl, e5, e6, e2, e4, e3.mono (fun b u z k => ⟨⟨⟨z.1, z.2.2⟩, fun w => z.2.1 (by rw [w]; exact oa)⟩, k⟩) fun _ _ z => z⟩
        | false =>
          rw [if_neg Bool.false_ne_true]
          exact .lst ⟨R.okf a e5, e6⟩ e2 e4 (e3.mono (fun b u z k => ⟨⟨z.1, z.2.2⟩, k⟩) fun _ _ z => z)
      | _ => exact h.elim
theorem ss_if {c : Expr} {a b : List Stmt} {mc : ME Bool} (hc : ST X C W c mc) (ha : SSs X C W fr a m1) (hb : SSs X C W fr b m2) : SS X C W fr (.If c a b pos) (mIfS mc m1 m2) :=
  PS.imp (ps_if hc ha hb) fun D σ H ⟨Γ, env, ds, R, h⟩ => ⟨Γ, env, ds, R, (exS_aft R h).imp fun d ds1 H1 e1 d1 q => by
    cases d with
    | true =>
      rw [if_pos rfl]
      exact ⟨Γ, env, ds1, R.go e1 d1, q⟩
    | false =>
      rw [if_neg Bool.false_ne_true]
      exact ⟨Γ, env, ds1, R.go e1 d1, q⟩⟩
theorem ss_raise {x n : Str} {j : Nat} {p p2 p3 : Pos} {Cm : Addr} (hc : X.calm = true) (tk : Takes X W) (hC : C.m = Cm) (q : PySem.W.excIn X.K Cm [.type "ValueError", .type "Exception", .type "BaseException", .type "object"] "ValueError.__new__" = true) (gC : X.mg x = some (.ref Cm)) (kC : PySem.W.keepIn X.K (.ref Cm) = true) (r : Raises X (.ref Cm)) (hg : Gl X x)
    (hdb : (x == ("__debug__" : Str)) = false := by decide) : SS X C W fr (.Raise (some (.Call (.Name x p) [.Constant (.str n) j p2] [] p3)) none pos) (mRaise .malformed) :=
  PS.imp (ps_raise hc tk (pmk_own PySem.F.excBase_ValueError q gC kC r hg hdb)) fun D σ H ⟨Γ, env, ds, R, h⟩ => h _ none σ H R ⟨by rw [hC], rfl⟩
end
end DL

/-! DL6: targets, loops, comprehensions. -/
namespace DL
open PySem PySem.Spec L2
open PyProof.Rows hiding St

/-! ### another ground -/
section
variable {K : PySem.W.Frag} {C : Exs} {W : WX} {fr : Bool} {Γ : Gm} {σ σ' : St} {H H1 H' : Hp} {env env' : Ev} {ds ds' : DS}
open Classical in
noncomputable def Gm.at (Γ : Gm) (σ : St) (env : Ev) (H : Hp) : Gm := { Γ with H0 := fun a => if owned σ env a then none else H a }
open Classical in
theorem Gm.at_some {a : Addr} {o : HO} (h : ¬ owned σ env a) (e : H a = some o) : (Γ.at σ env H).H0 a = some o := by
  show (if owned σ env a then none else H a) = some o
  rw [if_neg h]
  exact e
open Classical in
theorem Gm.at_none {a : Addr} (h : (Γ.at σ env H).H0 a = none) : owned σ env a ∨ H a = none := by
  by_cases q : owned σ env a
  · exact .inl q
  · refine .inr ?_
    have h' : (if owned σ env a then none else H a) = none := h
    rw [if_neg q] at h'
    exact h'
open Classical in
theorem Gm.at_le {a : Addr} {o : HO} (h : (Γ.at σ env H).H0 a = some o) : H a = some o := by
  have h' : (if owned σ env a then none else H a) = some o := h
  split at h'
  · cases h'
  · exact h'
open Classical in
theorem Gm.at_owned {a : Addr} (h : owned σ env a) : (Γ.at σ env H).H0 a = none := by
  show (if owned σ env a then none else H a) = none
  rw [if_pos h]
theorem Rel.rebase (R : Rel K Γ σ H env ds) : Rel K (Γ.at σ env H) σ H env ds where
  len := R.len
  slot := fun i x hx => by
    have q := R.slot i x hx
    cases x with
    | un => trivial
    | d y => exact q
    | l xs =>
      obtain ⟨a, us, e1, e2, e3, e4, e5, e6⟩ := q
      exact ⟨a, us, e1, e2, e3, e4, Gm.at_owned ⟨i, _, hx, rfl, e1⟩, e6⟩
    | lk xs =>
      obtain ⟨a, us, e1, e2, e3, e4, e5, e6⟩ := q
      exact ⟨a, us, e1, e2, e3, e4, Gm.at_owned ⟨i, _, hx, rfl, e1⟩, e6⟩
    | drw => exact q
    | scr ns => exact q
  sep := R.sep
  okf := fun a h => by
    rcases Gm.at_none h with q | q
    · obtain ⟨_, _, e, _⟩ := R.own_at q
      exact R.okf a e
    · exact (R.new_gd q).1
  ext := fun a o _ h => Gm.at_le h
  draw := R.draw
  drc := R.drc
  lkd := R.lkd
theorem Gm.at_free (R : Rel K Γ σ H env ds) {a : Addr} (h : (Γ.at σ env H).H0 a = none) : Γ.H0 a = none := by
  rcases Gm.at_none h with q | q
  · obtain ⟨_, _, e, _⟩ := R.own_at q
    exact e
  · cases k : Γ.H0 a with
    | none => rfl
    | some o =>
      have := R.ext a o (R.new_gd q).2.2 k
      rw [q] at this
      cases this
theorem Gm.at_ext (R : Rel K Γ σ H env ds) (e : Ext (Γ.at σ env H) (Γ.at σ env H).H0 H') : Ext Γ Γ.H0 H' := fun a o n h => by
  refine e a o n (Gm.at_some (fun q => ?_) (R.ext a o n h))
  obtain ⟨_, _, z, _⟩ := R.own_at q
  rw [h] at z
  cases z
theorem Rel.unbase (R : Rel K Γ σ H env ds) (R' : Rel K (Γ.at σ env H) σ' H' env' ds') : Rel K Γ σ' H' env' ds' where
  len := R'.len
  slot := fun i x hx => by
    have q := R'.slot i x hx
    cases x with
    | un => trivial
    | d y => exact q
    | l xs =>
      obtain ⟨a, us, e1, e2, e3, e4, e5, e6⟩ := q
      exact ⟨a, us, e1, e2, e3, e4, Gm.at_free R e5, e6⟩
    | lk xs =>
      obtain ⟨a, us, e1, e2, e3, e4, e5, e6⟩ := q
      exact ⟨a, us, e1, e2, e3, e4, Gm.at_free R e5, e6⟩
    | drw => exact q
    | scr ns => exact q
  sep := R'.sep
  okf := R.okf
  ext := Gm.at_ext R R'.ext
  draw := R'.draw
  drc := R'.drc
  lkd := R'.lkd
theorem RetR.unbase (R : Rel K Γ σ H env ds) {v : V} {d : PyData} (h : RetR fr K (Γ.at σ env H) H' ds' v d) : RetR fr K Γ H' ds' v d := by
  obtain ⟨h1, h2, h3⟩ := h
  refine ⟨Gm.at_ext R h1, h2, ?_⟩
  cases fr with
  | true =>
    rw [if_pos rfl] at h3 ⊢
    obtain ⟨p, us, xs, e1, e2, e3, e4⟩ := h3
    exact ⟨p, us, xs, e1, e2, Gm.at_free R e3, e4⟩
  | false => exact h3
theorem Aft2.rebase (R : Rel K Γ σ H env ds) {D : Ends} {r : Option (Fl × DS)} (h : Aft2 K C W fr Γ D r) : Aft2 K C W fr (Γ.at σ env H) D r := by
  rcases r with _ | ⟨f, ds1⟩
  · exact h
  · cases f with
    | nx e => exact fun σ' H' R' => h σ' H' (R.unbase R')
    | bk e => exact fun σ' H' R' => h σ' H' (R.unbase R')
    | ct e => exact fun σ' H' R' => h σ' H' (R.unbase R')
    | rt d => exact fun v H' q => h v H' (q.unbase R)
    | ex x e => exact fun cls dd σ' H' R' hx => h cls dd σ' H' (R.unbase R') hx
end

/-! ### targets -/
abbrev Tg := PyData → Ev → Option Ev
abbrev Tgs := List PyData → Ev → Option Ev
/-- slots but those of is stand as they stood -/
def SameBut (is : List Nat) (σ σ' : St) : Prop := σ'.length = σ.length ∧ ∀ j, j ∉ is → σ'[j]? = σ[j]?
def EvBut (is : List Nat) (env env' : Ev) : Prop := env'.length = env.length ∧ ∀ j, j ∉ is → env'[j]? = env[j]?
def rdTg (K : PySem.W.Frag) (is : List Nat) (t : Tg) : TG := fun v σ H Q => ∃ Γ env ds d env', Rel K Γ σ H env ds ∧ Df K H (gd Γ σ env) v d ∧ t d env = some env' ∧ ∀ σ', Rel K Γ σ' H env' ds → SameBut is σ σ' → EvBut is env env' → Q σ' H
def rdTgs (K : PySem.W.Frag) (is : List Nat) (t : Tgs) : TGs := fun vs σ H Q => ∃ Γ env ds d env', Rel K Γ σ H env ds ∧ DfAll K H (gd Γ σ env) vs d ∧ t d env = some env' ∧ ∀ σ', Rel K Γ σ' H env' ds → (∀ a, gd Γ σ env a → gd Γ σ' env' a) → SameBut is σ σ' → EvBut is env env' → Q σ' H
def rdTgm (K : PySem.W.Frag) (is : List Nat) (t : Tg) : TG := fun v σ H Q => ∃ Γ env ds d env', Rel K Γ σ H env ds ∧ Df K H (gd Γ σ env) v d ∧ t d env = some env' ∧ ∀ σ', Rel K Γ σ' H env' ds → (∀ a, gd Γ σ env a → gd Γ σ' env' a) → SameBut is σ σ' → EvBut is env env' → Q σ' H
abbrev SG (X : Cx) (tg : Expr) (is : List Nat) (t : Tg) : Prop := PG X tg (rdTgm X.K is t)
abbrev SGs (X : Cx) (tg : List Expr) (is : List Nat) (t : Tgs) : Prop := PGs X tg (rdTgs X.K is t)
def tName (i : Nat) : Tg := fun d env => put i (.d d) env
def tTup (n : Nat) (ts : Tgs) : Tg := fun d env => match d with
  | .tuple xs => if xs.length = n then ts xs env else none
  | _ => none
def tNilT : Tgs := fun xs env => if xs.isEmpty then some env else none
def tConsT (t : Tg) (ts : Tgs) : Tgs := fun xs env => match xs with
  | x :: r => (t x env).bind (ts r)
  | [] => none
section
variable {X : Cx} {e : Expr} {es : List Expr} {is js : List Nat} {t : Tg} {ts : Tgs} {pos : Pos}
theorem PG.imp {X : Cx} {e : Expr} {t t' : TG} (h : PG X e t) (f : ∀ v σ H Q, t' v σ H Q → t v σ H Q) : PG X e t' := ⟨fun pins s σ H v u Q I r q => h.run pins s σ H v u Q I r (f v σ H Q q)⟩
theorem PGs.imp {X : Cx} {e : List Expr} {t t' : TGs} (h : PGs X e t) (f : ∀ v σ H Q, t' v σ H Q → t v σ H Q) : PGs X e t' := ⟨fun pins s σ H vs us Q I r q => h.run pins s σ H vs us Q I r (f vs σ H Q q)⟩
theorem sg_name (i : Nat) {x : Str} (hN : X.N.Nodup) (hi : X.N[i]? = some x := by rfl) (hx : Loc X.env.scope x := by exact .inl rfl) (hf : X.fn x = true ∨ X.env.scope.names.lookup x = some .local := by first | exact .inl rfl | exact .inr rfl) : SG X (.Name x pos) [i] (tName i) :=
  PG.imp (pg_name hN hi hx hf) fun v σ H Q ⟨Γ, env, ds, d, env', R, hv, ht, q⟩ => by
    obtain ⟨h1, h2, h3⟩ := put_some ht
    refine q _ (R.set_d hv ht) (fun a z => by rw [h3]; exact gd_set_d rfl z) ⟨List.length_set .., fun j hj => ?_⟩ ⟨by rw [h3, List.length_set], fun j hj => ?_⟩
    · rw [List.getElem?_set_ne fun z => hj (by rw [z]; exact List.mem_cons_self)]
    · rw [h3, List.getElem?_set_ne fun z => hj (by rw [z]; exact List.mem_cons_self)]
theorem sgs_nil : SGs X [] [] tNilT := PGs.imp pgs_nil fun v σ H Q ⟨Γ, env, ds, d, env', R, hv, ht, q⟩ => by
  unfold tNilT at ht
  split at ht
  · rename_i hd
    cases ht
    cases d with
    | nil =>
      cases hv
      exact ⟨rfl, q σ R (fun _ z => z) ⟨rfl, fun _ _ => rfl⟩ ⟨rfl, fun _ _ => rfl⟩⟩
    | cons x r => cases hd
  · cases ht
theorem sgs_cons (h1 : SG X e is t) (h2 : SGs X es js ts) (hs : (assignEach (e :: es) X.env).map (·.2) = assign e X.env :: (assignEach es X.env).map (·.2) := by rfl) : SGs X (e :: es) (is ++ js) (tConsT t ts) :=
  PGs.imp (pgs_cons h1 h2 hs) fun v σ H Q ⟨Γ, env, ds, d, env', R, hv, ht, q⟩ => by
    cases hv with
    | nil => cases ht
    | cons a b =>
      obtain ⟨env1, q1, q2⟩ := Option.bind_eq_some_iff.mp (show (t _ env).bind _ = some env' from ht)
      refine ⟨_, _, rfl, Γ, env, ds, _, env1, R, a, q1, fun σ1 R1 g1 s1 v1 => ?_⟩
      refine ⟨Γ, env1, ds, _, env', R1, b.mono (fun c u z k => ⟨g1 c z, k⟩) (fun _ _ z => z), q2, fun σ2 R2 g2 s2 v2 => ?_⟩
      refine q σ2 R2 (fun c z => g2 c (g1 c z)) ⟨s2.1.trans s1.1, fun j hj => ?_⟩ ⟨v2.1.trans v1.1, fun j hj => ?_⟩
      · exact (s2.2 j fun z => hj (List.mem_append_right _ z)).trans (s1.2 j fun z => hj (List.mem_append_left _ z))
      · exact (v2.2 j fun z => hj (List.mem_append_right _ z)).trans (v1.2 j fun z => hj (List.mem_append_left _ z))
theorem sg_tup {k n : Nat} (hc : X.calm = true) (h : SGs X es is ts) (hn : (assignEach es X.env).length = n := by rfl) (hst : (assignEach es X.env).findIdx? (·.1) = none := by rfl) : SG X (.Tuple es k pos) is (tTup n ts) :=
  PG.imp (pg_tup hc h hn hst) fun v σ H Q ⟨Γ, env, ds, d, env', R, hv, ht, q⟩ => by
    unfold tTup at ht
    split at ht
    · split at ht
      · rename_i hl
        cases hv with
        | tup a1 a2 a3 => exact ⟨_, _, rfl, a1, a3.length.trans hl, Γ, env, ds, _, env', R, a3, ht, q⟩
      · cases ht
    · cases ht
/-- target = data -/
def mAsg (t : Tg) (a : ME PyData) : MS := exS a fun x env ds => match t x env with
  | some env' => some (.nx env', ds)
  | none => none
theorem ss_asg {C : Exs} {W : WX} {fr : Bool} {tg : Expr} {me : ME PyData} (he : SE X C W e me) (hg : SG X tg is t) (hs : swapsWithSole [tg] e pos.line X.env = pure false := by rfl) (hw : swappedStores [tg] e X.env = pure none := by rfl)
    (h1 : (assignEach [tg] X.env).map (·.2) = [assign tg X.env] := by rfl) : SS X C W fr (.Assign [tg] e pos) (mAsg t me) :=
  PS.imp (ps_asg he hg hs hw h1) fun D σ H ⟨Γ, env, ds, R, h⟩ => ⟨Γ, env, ds, R, (exS_aft R h).imp fun d ds1 H1 e1 d1 q v hv => by
    cases ht : t d env with
    | none => rw [ht] at q; exact q.elim
    | some env' =>
      rw [ht] at q
      exact ⟨Γ, env, ds1, d, env', R.go e1 d1, hv, ht, fun σ' R' _ _ _ => q σ' H1 R'⟩⟩
end

/-! ### what is walked -/
structure Wlk (K : PySem.W.Frag) (J : It) (items : List PyData) (g : Addr → Prop) (H : Hp) : Prop where
  go : ∀ i, i < items.length → J.go i H
  yld : ∀ i x H', i < items.length → J.yld i H x H' → ∃ d, items[i]? = some d ∧ (∀ a o, H a = some o → H' a = some o) ∧ Df K H' g x d
  stop : ∀ i, items.length ≤ i → J.stop i H
theorem Wlk.mono {K : PySem.W.Frag} {J : It} {items : List PyData} {g g' : Addr → Prop} {H : Hp} (h : Wlk K J items g H) (hg : ∀ a, g a → g' a) : Wlk K J items g' H :=
  ⟨h.go, fun i x H' hi q => let ⟨d, e1, e2, e3⟩ := h.yld i x H' hi q; ⟨d, e1, e2, e3.mono (fun a u z k => ⟨hg a z, k⟩) fun _ _ z => z⟩, h.stop⟩
def Kept (Γ : Gm) (σ : St) (env : Ev) (H H' : Hp) : Prop := ∀ a o, ¬ owned σ env a → Γ.nd a → (∀ us, o = .lst us → Γ.ok a) → H a = some o → H' a = some o
def Wk (K : PySem.W.Frag) (Γ : Gm) (σ : St) (env : Ev) (J : It) (items : List PyData) (H : Hp) : Prop := ∀ H2, Kept Γ σ env H H2 → Wlk K J items (fun b => gd Γ σ env b ∧ H b ≠ none) H2
def rdI (K : PySem.W.Frag) (C : Exs) (W : WX) (mi : ME (List PyData)) : TI := fun σ H R => ∃ Γ env ds, Rel K Γ σ H env ds ∧ Aft K C W Γ σ H (mi env ds) fun items _ H' => ∀ J, Wk K Γ σ env J items H' → R J H'
abbrev SI (X : Cx) (C : Exs) (W : WX) (tg iter : Expr) (mi : ME (List PyData)) : Prop := PI X tg iter (rdI X.K C W mi)
theorem PI.imp {X : Cx} {tg e : Expr} {t t' : TI} (h : PI X tg e t) (f : ∀ σ H Q, t' σ H Q → t σ H Q) : PI X tg e t' := ⟨fun pins s σ H Q I q => h.run pins s σ H Q I (f σ H Q q)⟩
section
variable {K : PySem.W.Frag} {Γ : Gm} {σ : St} {env : Ev} {H H2 : Hp} {ds : DS}
theorem kept_nd (R : Rel K Γ σ H env ds) {a : Addr} {o : HO} (h : H a = some o) (hn : ∀ xs, o ≠ .lst xs) : ¬ owned σ env a ∧ Γ.nd a := by
  refine ⟨fun q => ?_, fun p e z => ?_⟩
  · obtain ⟨us, e, _⟩ := R.own_at q
    rw [h] at e
    cases e
    exact hn _ rfl
  · have d := R.draw
    unfold DrR at d
    rw [e] at d
    cases ds with
    | none => exact d
    | some s =>
      have := d.1
      rw [← z, h] at this
      cases this
      exact hn _ rfl
theorem kept_sqT (R : Rel K Γ σ H env ds) (k : Kept Γ σ env H H2) {a : Addr} {u : List V} (h : SqT K H a u) : SqT K H2 a u := by
  rcases h with (h | ⟨o, h⟩) | h
  · obtain ⟨n1, n2⟩ := kept_nd R h (by intro xs z; cases z)
    exact .inl (.inl (k a _ n1 n2 (fun _ z => by cases z) h))
  · obtain ⟨n1, n2⟩ := kept_nd R h (by intro xs z; cases z)
    exact .inl (.inr ⟨o, k a _ n1 n2 (fun _ z => by cases z) h⟩)
  · exact .inr h
theorem kept_dfAll (R : Rel K Γ σ H env ds) (k : Kept Γ σ env H H2) {u : List V} {x : List PyData} (h : DfAll K H (gd Γ σ env) u x) : DfAll K H2 (fun b => gd Γ σ env b ∧ H b ≠ none) u x :=
  h.mono (fun a u z e => ⟨⟨z, by rw [e]; intro w; cases w⟩, k a _ z.2.1 z.2.2 (fun _ _ => z.1) e⟩) fun _ _ z => kept_sqT R k z
/-- SqL, SqT tell one thing, by the data's length and items -/
theorem wk_list (R : Rel K Γ σ H env ds) {a : Addr} {us : List V} {xs : List PyData} (h1 : gd Γ σ env a) (h2 : H a = some (.lst us)) (h3 : DfAll K H (gd Γ σ env) us xs) : Wk K Γ σ env (Itl K a) xs H := fun H2 k => by
  have s2 : H2 a = some (.lst us) := k a _ h1.2.1 h1.2.2 (fun _ _ => h1.1) h2
  have d2 := kept_dfAll R k h3
  refine ⟨fun i hi => ?_, fun i x H' hi q => ?_, fun i hi => ⟨us, SqL.of s2, by rw [h3.length]; exact hi⟩⟩
  · rw [← h3.length] at hi
    exact ⟨us, us[i], SqL.of s2, List.getElem?_eq_getElem hi⟩
  · obtain ⟨rfl, q⟩ := q
    obtain ⟨d, e1, e2⟩ := d2.getV (q us (SqL.of s2))
    exact ⟨d, e1, fun _ _ z => z, e2⟩
theorem wk_tup (R : Rel K Γ σ H env ds) {a : Addr} {us : List V} {xs : List PyData} (h2 : SqT K H a us) (h3 : DfAll K H (gd Γ σ env) us xs) : Wk K Γ σ env (Itt K a) xs H := fun H2 k => by
  have s2 := kept_sqT R k h2
  have d2 := kept_dfAll R k h3
  refine ⟨fun i hi => ?_, fun i x H' hi q => ?_, fun i hi => ⟨us, s2, by rw [h3.length]; exact hi⟩⟩
  · rw [← h3.length] at hi
    exact ⟨us, us[i], s2, List.getElem?_eq_getElem hi⟩
  · obtain ⟨rfl, q⟩ := q
    obtain ⟨d, e1, e2⟩ := d2.getV (q us s2)
    exact ⟨d, e1, fun _ _ z => z, e2⟩
def rangeD (lo : Int) (n : Nat) : List PyData := (List.range n).map fun (k : Nat) => PyData.int (lo + (k : Int))
theorem wk_range {lo : Int} {n : Nat} : Wk K Γ σ env (Itr lo n) (rangeD lo n) H := fun H2 k => by
  have hl : (rangeD lo n).length = n := by unfold rangeD; rw [List.length_map, List.length_range]
  refine ⟨fun i hi => by rw [hl] at hi; exact hi, fun i x H' hi q => ?_, fun i hi => by rw [hl] at hi; exact hi⟩
  obtain ⟨rfl, rfl⟩ := q
  rw [hl] at hi
  refine ⟨_, ?_, fun _ _ z => z, .int _⟩
  unfold rangeD
  rw [List.getElem?_map, List.getElem?_range hi]
  rfl
end
/-! sources -/
def itemsOf : PyData → Option (List PyData)
  | .list xs => some xs
  | .tuple xs => some xs
  | _ => none
def mItems (a : ME PyData) : ME (List PyData) := a.bind fun x => ME.lift (itemsOf x)
def mRng1 (a : ME PyData) : ME (List PyData) := a.bind fun x => ME.lift (match x with | .int j => if decide (-(2 ^ 62) ≤ j ∧ j < 2 ^ 62) then some (rangeD 0 j.toNat) else none | _ => none)
def mRng2 (a b : ME PyData) : ME (List PyData) := a.bind fun x => b.bind fun y => ME.lift (match x, y with | .int i, .int j => if decide (-(2 ^ 62) ≤ i ∧ i < 2 ^ 62 ∧ -(2 ^ 62) ≤ j ∧ j < 2 ^ 62) then some (rangeD i (j - i).toNat) else none | _, _ => none)
section
variable {X : Cx} {C : Exs} {W : WX} {tg e a b : Expr} {me ma mb : ME PyData} {p pos : Pos}
/-- a list or a tuple that is walked -/
def iSeq (K : PySem.W.Frag) (tl : TE) : TI := fun σ H R => tl σ H fun x H1 => ∃ a, x = .ref a ∧ (((∃ xs, SqL K H1 a xs) ∧ R (Itl K a) H1) ∨ ((∃ xs, SqT K H1 a xs) ∧ R (Itt K a) H1))
theorem pi_seq {tl : TE} (hl : PE X e tl) : PI X tg e (iSeq X.K tl) := ⟨fun pins s σ H R I h =>
  thn (hl.run pins s σ H _ I h) fun v s1 ⟨x, H1, I1, r1, a, ex, q⟩ => by
    subst ex
    cases r1
    rcases q with ⟨⟨xs, hq⟩, q⟩ | ⟨⟨xs, hq⟩, q⟩
    · obtain ⟨its, rv, pl, hz⟩ := I1.list hq
      exact wpAny_pyIter_list pl.isList (pi_one (tk := s1.toks) I1 _ (turn_list a _) ⟨_, Heap.get?_push_size _ rfl, rfl, rfl⟩ q)
    · obtain ⟨its, rv, pl, hz⟩ := I1.tuple hq
      exact wpAny_pyIter_tuple (show s1.heap.IsTuple a its.toArray from pl) (pi_one (tk := s1.toks) I1 _ (turn_tuple a _) ⟨_, Heap.get?_push_size _ rfl, rfl, rfl⟩ q)⟩
theorem si_seq (he : SE X C W e me) : SI X C W tg e (mItems me) :=
  PI.imp (pi_seq he) fun σ H Q ⟨Γ, env, ds, R, h⟩ => ⟨Γ, env, ds, R, h.bind.imp fun d ds1 H1 e1 d1 q v hv => by
    obtain ⟨z, hz, q⟩ := lift_some q
    have R1 := R.go e1 d1
    cases d with
    | list xs =>
      cases hz
      cases hv with
      | lst a1 a2 a3 a4 => exact ⟨_, rfl, .inl ⟨⟨_, SqL.of a2⟩, q H1 Ext.refl d1 _ (wk_list R1 a1 a2 a4)⟩⟩
    | tuple xs =>
      cases hz
      cases hv with
      | tup a2 a3 a4 => exact ⟨_, rfl, .inr ⟨⟨_, a2⟩, q H1 Ext.refl d1 _ (wk_tup R1 a2 a4)⟩⟩
    | _ => cases hz⟩
theorem si_rng1 (hm : X.mg "range" = none) (ha : SE X C W a ma) (hg : Gl X "range" := by rfl) (h1 : starEach (a :: []) X.env = (false, eval a X.env) :: starEach [] X.env := by rfl) (hs : starEach [a] X.env = [(false, eval a X.env)] := by rfl) : SI X C W tg (.Call (.Name "range" p) [a] [] pos) (mRng1 ma) :=
  PI.imp (pi_range1 hg hm (pa_cons ha pa_nil h1) hs) fun σ H Q ⟨Γ, env, ds, R, h⟩ => ⟨Γ, env, ds, R, h.bind.imp fun d ds1 H1 e1 d1 q v hv => by
    obtain ⟨z, hz, q⟩ := lift_some q
    cases d with
    | int j =>
      cases hv
      dsimp only at hz
      split at hz
      · rename_i hc
        cases hz
        have hc := of_decide_eq_true hc
        exact ⟨j, rfl, hc.1, hc.2, q H1 Ext.refl d1 _ wk_range⟩
      · cases hz
    | _ => cases hz⟩
theorem si_rng2 (hm : X.mg "range" = none) (ha : SE X C W a ma) (hb : SE X C W b mb) (hg : Gl X "range" := by rfl) (h1 : starEach (a :: [b]) X.env = (false, eval a X.env) :: starEach [b] X.env := by rfl) (h2 : starEach (b :: []) X.env = (false, eval b X.env) :: starEach [] X.env := by rfl)
    (h3 : starEach [a, b] X.env = [(false, eval a X.env), (false, eval b X.env)] := by rfl) : SI X C W tg (.Call (.Name "range" p) [a, b] [] pos) (mRng2 ma mb) :=
  PI.imp (pi_range2 hg hm (pa_cons ha (pa_cons hb pa_nil h2) h1) h3 h2) fun σ H Q ⟨Γ, env, ds, R, h⟩ => ⟨Γ, env, ds, R, h.bind.imp fun d ds1 H1 e1 d1 q v hv => ⟨Γ, env, ds1, R.go e1 d1, q.bind.imp fun d2 ds2 H2 e2 d2' q w hw => by
    obtain ⟨z, hz, q⟩ := lift_some q
    cases d with
    | int i =>
      cases d2 with
      | int j =>
        cases hv
        cases hw
        dsimp only at hz
        split at hz
        · rename_i hc
          cases hz
          have hc := of_decide_eq_true hc
          exact ⟨i, j, rfl, hc, q H2 Ext.refl d2' _ wk_range⟩
        · cases hz
      | _ => cases hz
    | _ => cases hz⟩⟩
end

/-! ### for -/
def forGo (t : Tg) (body : MS) : List PyData → Ev → DS → Option (Fl × DS)
  | [], env, ds => some (.nx env, ds)
  | x :: r, env, ds => match t x env with
    | none => none
    | some env1 => match body env1 ds with
      | some (.nx e, ds') => forGo t body r e ds'
      | some (.ct e, ds') => forGo t body r e ds'
      | some (.bk e, ds') => some (.nx e, ds')
      | some (.rt d, ds') => some (.rt d, ds')
      | some (.ex x e, ds') => some (.ex x e, ds')
      | none => none
def mFor (mi : ME (List PyData)) (t : Tg) (body : MS) : MS := exS mi fun items env ds => forGo t body items env ds
section
variable {K : PySem.W.Frag} {C : Exs} {W : WX} {fr : Bool} {Γ : Gm} {σ : St} {H : Hp} {env : Ev} {ds : DS} {J : It} {items : List PyData} {t : Tg} {is : List Nat} {body : MS} {D : Ends}
theorem drR_kept {H' : Hp} (d : DrR K Γ H ds) (k : ∀ a o, H a = some o → H' a = some o) : DrR K Γ H' ds := by
  unfold DrR at d ⊢
  cases e : Γ.dr with
  | none =>
    rw [e] at d
    cases ds with
    | none => trivial
    | some s => exact d
  | some p =>
    rw [e] at d
    cases ds with
    | none => exact d
    | some s => exact ⟨k _ _ d.1, k _ _ d.2.1, d.2.2⟩
theorem for_loop (hw : ∀ σ' H' env' ds', Rel K Γ σ' H' env' ds' → Wlk K J items (gd Γ σ' env') H') (R : Rel K Γ σ H env ds) (h : Aft2 K C W fr Γ D (forGo t body items env ds)) :
    ∃ W' : Nat → Nat → St → Hp → Prop, (∃ m, W' 0 m σ H) ∧ ∀ i m σ H, W' i m σ H → (J.stop i H ∧ D.nx σ H) ∨ (J.go i H ∧ ∃ N : St → Hp → Prop, (∀ σ' H', N σ' H' → ∃ m', m' < m ∧ W' (i + 1) m' σ' H') ∧
      ∀ x H', J.yld i H x H' → rdTgm K is t x σ H' fun σ2 H2 => rdS K C W fr body { D with nx := N, ct := N, bk := D.nx } σ2 H2) := by
  refine ⟨fun i m σ H => m = items.length - i ∧ i ≤ items.length ∧ ∃ env ds, Rel K Γ σ H env ds ∧ Aft2 K C W fr Γ D (forGo t body (items.drop i) env ds), ⟨_, rfl, Nat.zero_le _, env, ds, R, h⟩, ?_⟩
  rintro i m σ H ⟨rfl, hi, env, ds, R, h⟩
  have wl := hw σ H env ds R
  by_cases hlt : i < items.length
  · refine .inr ⟨wl.go i hlt, fun σ' H' => (items.length - (i + 1)) = items.length - (i + 1) ∧ i + 1 ≤ items.length ∧ ∃ env ds, Rel K Γ σ' H' env ds ∧ Aft2 K C W fr Γ D (forGo t body (items.drop (i + 1)) env ds), fun σ' H' n => ⟨items.length - (i + 1), by omega, n⟩, fun x H' y => ?_⟩
    obtain ⟨d, e1, k, hx⟩ := wl.yld i x H' hlt y
    have e2 : items.drop i = d :: items.drop (i + 1) := by
      rw [List.drop_eq_getElem_cons hlt]
      rw [List.getElem?_eq_getElem hlt] at e1
      rw [Option.some.inj e1]
    rw [e2] at h
    have R' : Rel K Γ σ H' env ds := R.go (fun a o _ q => k a o q) (drR_kept R.draw k)
    unfold forGo at h
    cases ht : t d env with
    | none => rw [ht] at h; exact h.elim
    | some env1 =>
      rw [ht] at h
      dsimp only at h
      refine ⟨Γ, env, ds, d, env1, R', hx, ht, fun σ2 R2 _ _ _ => ⟨Γ, env1, ds, R2, ?_⟩⟩
      show Aft2 K C W fr Γ _ (body env1 ds)
      rcases q : body env1 ds with _ | ⟨f, ds1⟩
      · rw [q] at h; exact h
      · rw [q] at h
        cases f with
        | nx e => exact fun σ' H' R' => ⟨rfl, hlt, e, ds1, R', h⟩
        | ct e => exact fun σ' H' R' => ⟨rfl, hlt, e, ds1, R', h⟩
        | bk e => exact h
        | rt d => exact h
        | ex x e => exact h
  · refine .inl ⟨wl.stop i (by omega), ?_⟩
    rw [List.drop_eq_nil_of_le (by omega)] at h
    exact h σ H R
end
section
variable {X : Cx} {C : Exs} {W : WX} {fr : Bool} {tg iter : Expr} {mi : ME (List PyData)} {t : Tg} {is : List Nat} {body : List Stmt} {m : MS} {pos : Pos}
theorem wk_at {K : PySem.W.Frag} {Γ : Gm} {σ : St} {H : Hp} {env : Ev} {ds : DS} {J : It} {items : List PyData} (R : Rel K Γ σ H env ds) (wk : Wk K Γ σ env J items H) : ∀ σ' H' env' ds', Rel K (Γ.at σ env H) σ' H' env' ds' → Wlk K J items (gd (Γ.at σ env H) σ' env') H' := fun σ' H' env' ds' R' => by
  refine (wk H' fun a o n1 n2 _ q => R'.ext a o n2 (Gm.at_some n1 q)).mono fun a ⟨z, hz⟩ => ⟨z.1, fun q => ?_, z.2.2⟩
  obtain ⟨_, _, e, _⟩ := R'.own_at q
  rcases Gm.at_none e with w | w
  · exact z.2.1 w
  · exact hz w
theorem ss_for (hp : PassesOwn (model X.prog X.w) X.A X.env X.xe) (hc : X.calm = true) (hi : SI X C W tg iter mi) (hg : SG X tg is t) (hb : SSs X C W fr body m) (hs : ∀ x, foldedSetIterable iter X.env x = pure x := by intro _; rfl) : SS X C W fr (.For tg iter body [] pos) (mFor mi t m) :=
  PS.imp (ps_for hp hc hi hg hb hs) fun D σ H ⟨Γ, env, ds, R, h⟩ => ⟨Γ, env, ds, R, (exS_aft R h).imp fun items ds1 H1 e1 d1 q J wk =>
    have R1 := R.go e1 d1
    for_loop (wk_at R1 wk) R1.rebase (q.rebase R1)⟩

/-! ### for over one's own list: it is locked meanwhile -/
def mForV (i : Nat) (t : Tg) (body : MS) : MS := fun env ds => match env[i]? with
  | some (.l xs) => match forGo t body xs (env.set i (.lk xs)) ds with
    | some (.nx e, ds') => match e[i]? with
      | some (.lk ys) => some (.nx (e.set i (.l ys)), ds')
      | _ => none
    | some (.bk _, _) => none
    | some (.ct _, _) => none
    | r => r
  | _ => none
end

/-! ### while -/
def whileGo (c : ME Bool) (body : MS) : Nat → Ev → DS → Option (Fl × DS)
  | 0, _, _ => none
  | n + 1, env, ds => match c env ds with
    | some (.ok true, ds1) => match body env ds1 with
      | some (.nx e, ds') => whileGo c body n e ds'
      | some (.ct e, ds') => whileGo c body n e ds'
      | some (.bk e, ds') => some (.nx e, ds')
      | some (.rt d, ds') => some (.rt d, ds')
      | some (.ex x e, ds') => some (.ex x e, ds')
      | none => none
    | some (.ok false, ds1) => some (.nx env, ds1)
    | some (.exc x, ds1) => some (.ex x env, ds1)
    | none => none
section
variable {X : Cx} {C : Exs} {W : WX} {fr : Bool} {c : Expr} {mc : ME Bool} {body : List Stmt} {m : MS} {pos : Pos}
theorem ss_while (n : Nat) (hp : PassesOwn (model X.prog X.w) X.A X.env X.xe) (hc : ST X C W c mc) (hb : SSs X C W fr body m) : SS X C W fr (.While c body [] pos) (whileGo mc m n) :=
  PS.imp (ps_while hp hc hb) fun D σ H ⟨Γ, env, ds, R, h⟩ => by
    refine ⟨fun k σ H => ∃ env ds, Rel X.K Γ σ H env ds ∧ Aft2 X.K C W fr Γ D (whileGo mc m k env ds), ⟨n, env, ds, R, h⟩, ?_⟩
    rintro k σ H ⟨env, ds, R, h⟩
    cases k with
    | zero => exact h.elim
    | succ k =>
      refine ⟨Γ, env, ds, R, ?_⟩
      unfold whileGo at h
      unfold Aft
      rcases q : mc env ds with _ | ⟨b | x, ds1⟩
      · rw [q] at h; exact h
      · rw [q] at h
        intro H1 e1 d1
        cases b with
        | true =>
          rw [if_pos rfl]
          refine ⟨fun σ' H' => ∃ env ds, Rel X.K Γ σ' H' env ds ∧ Aft2 X.K C W fr Γ D (whileGo mc m k env ds), fun σ' H' z => ⟨k, Nat.lt_succ_self _, z⟩, Γ, env, ds1, R.go e1 d1, ?_⟩
          show Aft2 X.K C W fr Γ _ (m env ds1)
          dsimp only at h
          rcases q2 : m env ds1 with _ | ⟨f, ds2⟩
          · rw [q2] at h; exact h
          · rw [q2] at h
            cases f with
            | nx e => exact fun σ' H' R' => ⟨e, ds2, R', h⟩
            | ct e => exact fun σ' H' R' => ⟨e, ds2, R', h⟩
            | bk e => exact h
            | rt d => exact h
            | ex x e => exact h
        | false =>
          rw [if_neg Bool.false_ne_true]
          exact h σ H1 (R.go e1 d1)
      · rw [q] at h
        exact fun cls dd H' e1 d1 hx => h cls dd σ H' (R.go e1 d1) hx
end
end DL

/-! DL7: comprehensions. -/
namespace DL
open PySem PySem.Spec L2
open PyProof.Rows hiding St

/-- a slot of the comprehension's own: told nothing; it may not hold a list of one's own -/
def wipeE (env : Ev) : List Nat → Option Ev
  | [] => some env
  | v :: vs => (wipeE env vs).bind fun e => match e[v]? with
    | some (.l _) => none
    | some (.lk _) => none
    | _ => some (e.set v .un)
section
variable {K : PySem.W.Frag} {C : Exs} {W : WX} {Γ : Gm} {σ : St} {H H1 : Hp} {env env' : Ev} {ds : DS} {D : Addr}
theorem wipeE_ok : ∀ {vs : List Nat} {env' : Ev}, wipeE env vs = some env' → env'.length = env.length ∧ (∀ (j : Nat) (x : Sl), env'[j]? = some x → x = .un ∨ (j ∉ vs ∧ env[j]? = some x)) ∧ ∀ (j : Nat) (x : Sl), env[j]? = some x → x.own = true → j ∉ vs ∧ env'[j]? = some x
  | [], env', h => by
    cases h
    exact ⟨rfl, fun j x q => .inr ⟨List.not_mem_nil, q⟩, fun j x q _ => ⟨List.not_mem_nil, q⟩⟩
  | v :: vs, env', h => by
    obtain ⟨e1, h1, h2⟩ := Option.bind_eq_some_iff.mp h
    obtain ⟨i1, i2, i3⟩ := wipeE_ok h1
    have nown : (∀ xs, e1[v]? ≠ some (.l xs)) ∧ (∀ xs, e1[v]? ≠ some (.lk xs)) ∧ env' = e1.set v .un := by
      revert h2
      split
      · intro h2; cases h2
      · intro h2; cases h2
      · rename_i n1 n2
        intro h2
        cases h2
        exact ⟨fun xs q => n1 xs q, fun xs q => n2 xs q, rfl⟩
    obtain ⟨n1, n2, rfl⟩ := nown
    refine ⟨by rw [List.length_set]; exact i1, fun j x q => ?_, fun j x q ox => ?_⟩
    · by_cases z : v = j
      · subst z
        by_cases hl : v < e1.length
        · rw [List.getElem?_set_self hl] at q
          cases q
          exact .inl rfl
        · rw [List.getElem?_eq_none (by rw [List.length_set]; omega)] at q
          cases q
      · rw [List.getElem?_set_ne z] at q
        rcases i2 j x q with w | ⟨w1, w2⟩
        · exact .inl w
        · exact .inr ⟨fun m => (List.mem_cons.mp m).elim (fun e => z e.symm) w1, w2⟩
    · obtain ⟨w1, w2⟩ := i3 j x q ox
      have z : v ≠ j := fun z => by
        subst z
        cases x with
        | l xs => exact n1 xs w2
        | lk xs => exact n2 xs w2
        | _ => cases ox
      exact ⟨fun m => (List.mem_cons.mp m).elim (fun e => z e.symm) w1, by rw [List.getElem?_set_ne z]; exact w2⟩
theorem wipe_get : ∀ {vs : List Nat} {j : Nat}, j ∉ vs → (wipe σ vs)[j]? = σ[j]?
  | [], j, _ => rfl
  | v :: vs, j, h => by
    show ((wipe σ vs).set v none)[j]? = σ[j]?
    rw [List.getElem?_set_ne fun z => h (by rw [z]; exact List.mem_cons_self)]
    exact wipe_get fun z => h (List.mem_cons_of_mem _ z)
theorem wipe_in : ∀ {vs : List Nat} {j : Nat}, j ∈ vs → j < σ.length → (wipe σ vs)[j]? = some none
  | v :: vs, j, h, hl => by
    show ((wipe σ vs).set v none)[j]? = some none
    by_cases z : v = j
    · subst z
      rw [List.getElem?_set_self (by rw [wipe_length]; exact hl)]
    · rw [List.getElem?_set_ne z]
      exact wipe_in ((List.mem_cons.mp h).resolve_left fun e => z e.symm) hl
/-- slots that stand but for those of vs are alike when vs are wiped -/
theorem wipe_same {vs is : List Nat} {σ' : St} (h : SameBut is σ σ') (hs : ∀ i ∈ is, i ∈ vs) : wipe σ' vs = wipe σ vs := by
  refine List.ext_getElem? fun j => ?_
  by_cases hj : j ∈ vs
  · by_cases hl : j < σ.length
    · rw [wipe_in hj hl, wipe_in hj (by rw [h.1]; exact hl)]
    · rw [List.getElem?_eq_none (by rw [wipe_length, h.1]; omega), List.getElem?_eq_none (by rw [wipe_length]; omega)]
  · rw [wipe_get hj, wipe_get hj]
    exact h.2 j fun z => hj (hs j z)
theorem wipe_idem {vs : List Nat} : wipe (wipe σ vs) vs = wipe σ vs := by
  refine List.ext_getElem? fun j => ?_
  by_cases hj : j ∈ vs
  · by_cases hl : j < σ.length
    · rw [wipe_in hj (by rw [wipe_length]; exact hl), wipe_in hj hl]
    · rw [List.getElem?_eq_none (by rw [wipe_length, wipe_length]; omega), List.getElem?_eq_none (by rw [wipe_length]; omega)]
  · rw [wipe_get hj]
theorem owned_wipe {vs : List Nat} (h : wipeE env vs = some env') {a : Addr} : owned (wipe σ vs) env' a ↔ owned σ env a := by
  obtain ⟨h1, h2, h3⟩ := wipeE_ok h
  constructor
  · rintro ⟨j, x, q1, q2, q3⟩
    rcases h2 j x q1 with rfl | ⟨w1, w2⟩
    · cases q2
    · rw [wipe_get w1] at q3
      exact ⟨j, x, w2, q2, q3⟩
  · rintro ⟨j, x, q1, q2, q3⟩
    obtain ⟨w1, w2⟩ := h3 j x q1 q2
    exact ⟨j, x, w2, q2, by rw [wipe_get w1]; exact q3⟩
/-- the ground of a block: D is apart -/
noncomputable def Gm.blk (Γ : Gm) (σ : St) (env : Ev) (H : Hp) (D : Addr) : Gm := { Γ.at σ env H with ok := fun a => Γ.ok a ∧ a ≠ D, lk := [] }
theorem Rel.cell_ne (R : Rel K Γ σ H1 env ds) (hf : H1 D = none) (p : Addr × Addr) (e : Γ.dr = some p) : p.2 ≠ D := fun z => by
  have d := R.draw
  unfold DrR at d
  rw [e] at d
  cases ds with
  | none => exact d
  | some s =>
    have := d.2.1
    rw [z, hf] at this
    cases this
theorem DrR.blkR {Hb : Hp} (d : DrR K Γ H ds) (cn : ∀ p, Γ.dr = some p → p.2 ≠ D) : DrR K (Γ.blk σ env Hb D) H ds := by
  unfold DrR at d ⊢
  rw [show (Γ.blk σ env Hb D).dr = Γ.dr from rfl]
  cases hdr : Γ.dr with
  | none =>
    rw [hdr] at d
    cases ds with
    | none => trivial
    | some s => exact d
  | some p =>
    rw [hdr] at d
    cases ds with
    | none => exact d
    | some s => exact ⟨d.1, d.2.1, d.2.2.1, d.2.2.2.1, d.2.2.2.2, cn p hdr⟩
theorem DrR.unblk {Hb : Hp} (d : DrR K (Γ.blk σ env Hb D) H ds) : DrR K Γ H ds := by
  unfold DrR at d ⊢
  rw [show (Γ.blk σ env Hb D).dr = Γ.dr from rfl] at d
  cases hdr : Γ.dr with
  | none =>
    rw [hdr] at d
    cases ds with
    | none => trivial
    | some s => exact d
  | some p =>
    rw [hdr] at d
    cases ds with
    | none => exact d
    | some s => exact ⟨d.1, d.2.1, d.2.2.1, d.2.2.2.1, d.2.2.2.2.1⟩
theorem Rel.blk {vs : List Nat} {ds1 : DS} (R1 : Rel K Γ σ H1 env ds1) (hf : H1 D = none) (e : Ext Γ H1 H) (d : DrR K Γ H ds) (hD : ∃ o, H D = some o) (h : wipeE env vs = some env') : Rel K (Γ.blk σ env H D) (wipe σ vs) H env' ds := by
  obtain ⟨h1, h2, h3⟩ := wipeE_ok h
  have R := R1.go e d
  have B := R.rebase
  have oD : ¬ owned σ env D := fun q => by
    obtain ⟨_, w, _⟩ := R1.own_at q
    rw [hf] at w
    cases w
  have cD' : ∀ a, owned σ env a → a ≠ D := fun a q z => oD (by rw [← z]; exact q)
  have gq : ∀ {a : Addr}, H a = none → a ≠ D := fun {a} q z => by
    obtain ⟨o, e⟩ := hD
    rw [z, e] at q
    cases q
  have gg : ∀ a, gd Γ σ env a → a ≠ D → gd (Γ.blk σ env H D) (wipe σ vs) env' a := fun a q n => ⟨⟨q.1, n⟩, fun w => q.2.1 ((owned_wipe h).mp w), q.2.2⟩
  have dm : ∀ {v : V} {x : PyData}, Df K H1 (gd Γ σ env) v x → Df K H (gd (Γ.blk σ env H D) (wipe σ vs) env') v x := fun q =>
    (q.avoid hf).mono (fun a u z k => ⟨gg a z.1 z.2, e a _ z.1.2.2 k⟩) fun _ _ z => sqT_ext e R1.draw z
  have dms : ∀ {v : List V} {x : List PyData}, DfAll K H1 (gd Γ σ env) v x → DfAll K H (gd (Γ.blk σ env H D) (wipe σ vs) env') v x := fun q =>
    (q.avoid hf).mono (fun a u z k => ⟨gg a z.1 z.2, e a _ z.1.2.2 k⟩) fun _ _ z => sqT_ext e R1.draw z
  refine ⟨by rw [wipe_length, h1]; exact R.len, fun j x q => ?_, fun i j x y hij hi hj oi oj => ?_, fun a q => ⟨B.okf a q, ?_⟩, B.ext, ?_, fun p e q => R.drc p e ((owned_wipe h).mp q), fun p hp => by cases hp⟩
  · rcases h2 j x q with rfl | ⟨w1, w2⟩
    · trivial
    · rw [wipe_get w1]
      have q1 := R1.slot j x w2
      have q2 := B.slot j x w2
      cases x with
      | un => trivial
      | d y =>
        obtain ⟨u, e1, e2⟩ := q1
        exact ⟨u, e1, dm e2⟩
      | l xs =>
        obtain ⟨a, us, e1, e2, e3, e4, e5, e6⟩ := q1
        obtain ⟨a', us', f1, f2, f3, f4, f5, f6⟩ := q2
        rw [e1] at f1
        cases f1
        exact ⟨a, us, e1, e a _ e6 e2, dms e3, e4, f5, e6⟩
      | lk xs =>
        obtain ⟨a, us, e1, e2, e3, e4, e5, e6⟩ := q1
        obtain ⟨a', us', f1, f2, f3, f4, f5, f6⟩ := q2
        rw [e1] at f1
        cases f1
        exact ⟨a, us, e1, e a _ e6 e2, dms e3, e4, f5, e6⟩
      | drw => exact q2
      | scr ns => exact q2
  · obtain ⟨w1, w2⟩ := (h2 i x hi).resolve_left (fun e => by rw [e] at oi; cases oi)
    obtain ⟨w3, w4⟩ := (h2 j y hj).resolve_left (fun e => by rw [e] at oj; cases oj)
    rw [wipe_get w1, wipe_get w3]
    exact R.sep i j x y hij w2 w4 oi oj
  · rcases Gm.at_none (Γ := Γ) q with w | w
    · exact cD' a w
    · exact gq w
  · exact d.blkR (R1.cell_ne hf)
/-- what is told in the block holds outside -/
theorem Gm.blk_gd {vs : List Nat} {σ' : St} {env2 : Ev} {is : List Nat} (h : wipeE env vs = some env') (hs : ∀ i ∈ is, i ∈ vs) (s : SameBut is (wipe σ vs) σ') (v : EvBut is env' env2) {a : Addr} (q : gd (Γ.blk σ env H D) σ' env2 a) : gdx Γ σ env D a := by
  refine ⟨⟨q.1.1, fun w => q.2.1 ?_, q.2.2⟩, q.1.2⟩
  obtain ⟨j, x, w1, w2, w3⟩ := w
  obtain ⟨h1, h2, h3⟩ := wipeE_ok h
  obtain ⟨z1, z2⟩ := h3 j x w1 w2
  have nj : j ∉ is := fun z => z1 (hs j z)
  exact ⟨j, x, by rw [v.2 j nj]; exact z2, w2, by rw [s.2 j nj, wipe_get z1]; exact w3⟩
end

/-! ### the meanings -/
def compGo (t : Tg) (c : ME Bool) (elt : ME PyData) (env : Ev) : List PyData → DS → List PyData → Option (List PyData × DS)
  | [], ds, acc => some (acc, ds)
  | x :: r, ds, acc => match t x env with
    | none => none
    | some env1 => match c env1 ds with
      | some (.ok true, ds1) => match elt env1 ds1 with
        | some (.ok y, ds2) => if decide (acc.length < sizeLine) then compGo t c elt env r ds2 (acc ++ [y]) else none
        | _ => none
      | some (.ok false, ds1) => compGo t c elt env r ds1 acc
      | _ => none
def mComp (vs : List Nat) (mi : ME (List PyData)) (t : Tg) (c : ME Bool) (elt : ME PyData) : ME (List PyData) := mi.bind fun items env ds => match wipeE env vs with
  | none => none
  | some env1 => match compGo t c elt env1 items ds [] with
    | some (xs, ds') => some (.ok xs, ds')
    | none => none
def mYes : ME Bool := ME.pure true
abbrev STs (X : Cx) (C : Exs) (W : WX) (ifs : List Expr) (m : ME Bool) : Prop := PTs X ifs (rdT X.K C W m)
theorem PTs.imp {X : Cx} {e : List Expr} {t t' : TT} (h : PTs X e t) (f : ∀ σ H Q, t' σ H Q → t σ H Q) : PTs X e t' := ⟨fun pins s σ H Q I q => h.run pins s σ H Q I (f σ H Q q)⟩
theorem sts_nil {X : Cx} {C : Exs} {W : WX} : STs X C W [] mYes := PTs.imp pts_nil fun σ H Q ⟨Γ, env, ds, R, h⟩ => Aft.here h R.draw
theorem sts_one {X : Cx} {C : Exs} {W : WX} {c : Expr} {m : ME Bool} (h : ST X C W c m) : STs X C W [c] m := pts_one h
/-- within a comprehension nothing is raised -/
def W0 : WX := fun _ _ _ _ => False
section
variable {K : PySem.W.Frag} {C : Exs} {W : WX} {Γ : Gm} {σ : St} {H1 : Hp} {env env1 : Ev} {ds1 : DS} {D : Addr} {J : It} {items : List PyData} {t : Tg} {is vs : List Nat} {c : ME Bool} {elt : ME PyData} {Qd : Hp → Prop}
/-- what stands between two turns -/
structure CIn (K : PySem.W.Frag) (Γ : Gm) (σ : St) (env : Ev) (H1 : Hp) (D : Addr) (H : Hp) (ds : DS) (acc : List PyData) : Prop where
  ext : Ext Γ H1 H
  draw : DrR K Γ H ds
  lst : ∃ us, H D = some (.lst us) ∧ us.length ≤ sizeLine ∧ DfAll K H (gdx Γ σ env D) us acc
theorem CIn.grow {H H' : Hp} {ds ds' : DS} {acc : List PyData} (R1 : Rel K Γ σ H1 env ds1) (hf : H1 D = none) (c : CIn K Γ σ env H1 D H ds acc) (e : Ext Γ H H') (d : DrR K Γ H' ds') (y : PyData) (v : V) (hy : Df K H' (gdx Γ σ env D) v y) (hs : acc.length < sizeLine) :
    ∃ us, H' D = some (.lst us) ∧ us.length < sizeLine ∧ CIn K Γ σ env H1 D (upd H' D (.lst (us ++ [v]))) ds' (acc ++ [y]) := by
  obtain ⟨us, q1, q2, q3⟩ := c.lst
  have nD := (R1.new_gd hf).2.2
  have h' := e D _ nD q1
  have ln := q3.length
  have tq : ∀ a u, SqT K H' a u → SqT K (upd H' D (.lst (us ++ [v]))) a u := fun a u q => by
    rcases q with (q | ⟨o, q⟩) | q
    · refine .inl (.inl ?_); rw [upd_ne (ne_of q h' (by intro z; cases z))]; exact q
    · refine .inl (.inr ⟨o, ?_⟩); rw [upd_ne (ne_of q h' (by intro z; cases z))]; exact q
    · exact .inr q
  have q4 : DfAll K H' (gdx Γ σ env D) us acc := q3.mono (fun a u z k => ⟨z, e a _ z.1.2.2 k⟩) fun _ _ z => sqT_ext e c.draw z
  refine ⟨us, h', by rw [ln]; exact hs, fun a o n q => ?_, ?_, us ++ [v], upd_same, by rw [List.length_append, ln]; exact hs, ?_⟩
  · rw [upd_ne (ne_of_none q hf)]
    exact e a o n (c.ext a o n q)
  · have cn := R1.cell_ne hf
    unfold DrR at d ⊢
    cases hdr : Γ.dr with
    | none =>
      rw [hdr] at d
      cases ds' with
      | none => trivial
      | some s => exact d
    | some p =>
      rw [hdr] at d
      cases ds' with
      | none => exact d
      | some s =>
        refine ⟨by rw [upd_ne fun z => nD p hdr z.symm]; exact d.1, by rw [upd_ne (cn p hdr)]; exact d.2.1, d.2.2⟩
  · exact (q4.append (.cons hy .nil)).mono (fun a u z k => ⟨z, by rw [upd_ne z.2]; exact k⟩) tq
/-- a turn that goes on -/
theorem CIn.on {H H' : Hp} {ds ds' : DS} {acc : List PyData} (R1 : Rel K Γ σ H1 env ds1) (hf : H1 D = none) (c : CIn K Γ σ env H1 D H ds acc) (e : Ext Γ H H') (d : DrR K Γ H' ds') : CIn K Γ σ env H1 D H' ds' acc := by
  obtain ⟨us, q1, q2, q3⟩ := c.lst
  exact ⟨c.ext.trans e, d, us, e D _ (R1.new_gd hf).2.2 q1, q2, q3.mono (fun a u z k => ⟨z, e a _ z.1.2.2 k⟩) fun _ _ z => sqT_ext e c.draw z⟩
theorem CIn.start (R1 : Rel K Γ σ H1 env ds1) (hf : H1 D = none) : CIn K Γ σ env H1 D (upd H1 D (.lst [])) ds1 [] := ⟨ext_new hf, R1.draw.new hf, [], upd_same, Nat.zero_le _, .nil⟩
theorem Wlk.blk {H : Hp} (R1 : Rel K Γ σ H1 env ds1) (hf : H1 D = none) (e : Ext Γ H1 H) (wk : Wk K Γ σ env J items H1) (h : wipeE env vs = some env1) : Wlk K J items (gd (Γ.blk σ env H D) (wipe σ vs) env1) H :=
  (wk H fun a o _ n _ q => e a o n q).mono fun a z => ⟨⟨z.1.1, fun w => z.2 (by rw [w]; exact hf)⟩, fun w => z.1.2.1 ((owned_wipe h).mp w), z.1.2.2⟩
theorem aft_blk {α : Type} {H Hb : Hp} {σ' : St} {r : Rz α} {P : α → DS → Hp → Prop} (h : match r with | some (.ok a, ds') => ∀ H', Ext Γ H H' → DrR K Γ H' ds' → P a ds' H' | _ => False) : Aft K C W0 (Γ.blk σ env Hb D) σ' H r P := by
  unfold Aft
  rcases r with _ | ⟨a | x, ds'⟩
  · exact h
  · exact fun H' e d => h H' e d.unblk
  · exact h.elim
theorem comp_loop (hsub : ∀ i ∈ is, i ∈ vs) (R1 : Rel K Γ σ H1 env ds1) (wk : Wk K Γ σ env J items H1) (hD : H1 D = none) (hw : wipeE env vs = some env1)
    (h : match compGo t c elt env1 items ds1 [] with | some (xs, ds') => ∀ H', CIn K Γ σ env H1 D H' ds' xs → Qd H' | none => False) :
    ∃ W' : Nat → Nat → Hp → Prop, (∃ m, W' 0 m (upd H1 D (.lst []))) ∧ ∀ i m H, W' i m H →
      (J.stop i H ∧ Qd H) ∨ (J.go i H ∧ ∃ Nx : Hp → Prop, (∀ H', Nx H' → ∃ m', m' < m ∧ W' (i + 1) m' H') ∧ ∀ x H', J.yld i H x H' → rdTgm K is t x (wipe σ vs) H' fun σ2 H2 => wipe σ2 vs = wipe σ vs ∧ rdT K C W0 c σ2 H2 fun b H3 =>
        if b = true then rdG MD K C W0 elt σ2 H3 fun y H4 => ∃ acc, H4 D = some (.lst acc) ∧ acc.length < sizeLine ∧ Nx (upd H4 D (.lst (acc ++ [y]))) else Nx H3) := by
  refine ⟨fun i m H => m = items.length - i ∧ i ≤ items.length ∧ ∃ ds acc, CIn K Γ σ env H1 D H ds acc ∧ match compGo t c elt env1 (items.drop i) ds acc with | some (xs, ds') => ∀ H', CIn K Γ σ env H1 D H' ds' xs → Qd H' | none => False,
    ⟨_, rfl, Nat.zero_le _, ds1, [], CIn.start R1 hD, h⟩, ?_⟩
  rintro i m H ⟨rfl, hi, ds, acc, ci, h⟩
  have wl := Wlk.blk R1 hD ci.ext wk hw
  by_cases hlt : i < items.length
  · refine .inr ⟨wl.go i hlt, fun H' => (items.length - (i + 1)) = items.length - (i + 1) ∧ i + 1 ≤ items.length ∧ ∃ ds acc, CIn K Γ σ env H1 D H' ds acc ∧ match compGo t c elt env1 (items.drop (i + 1)) ds acc with | some (xs, ds') => ∀ H', CIn K Γ σ env H1 D H' ds' xs → Qd H' | none => False,
      fun H' n => ⟨items.length - (i + 1), by omega, n⟩, fun x H' y => ?_⟩
    obtain ⟨d, e1, k, hx⟩ := wl.yld i x H' hlt y
    have e2 : items.drop i = d :: items.drop (i + 1) := by
      rw [List.drop_eq_getElem_cons hlt]
      rw [List.getElem?_eq_getElem hlt] at e1
      rw [Option.some.inj e1]
    rw [e2] at h
    have ci' : CIn K Γ σ env H1 D H' ds acc := ci.on R1 hD (fun a o _ q => k a o q) (drR_kept ci.draw k)
    obtain ⟨us, l1, l2, l3⟩ := ci.lst
    have hx' : Df K H' (gd (Γ.blk σ env H' D) (wipe σ vs) env1) x d := hx.mono (fun a u z q => ⟨z, q⟩) fun _ _ z => z
    have RB := R1.blk hD ci'.ext ci'.draw ⟨_, k D _ l1⟩ hw
    unfold compGo at h
    cases ht : t d env1 with
    | none => rw [ht] at h; exact h.elim
    | some env2 =>
      rw [ht] at h
      dsimp only at h
      refine ⟨Γ.blk σ env H' D, env1, ds, d, env2, RB, hx', ht, fun σ2 R2 _ s2 v2 => ⟨(wipe_same s2 hsub).trans wipe_idem, Γ.blk σ env H' D, env2, ds, R2, aft_blk ?_⟩⟩
      rcases q : c env2 ds with _ | ⟨b | ex, ds2⟩
      · rw [q] at h; exact h.elim
      · rw [q] at h
        intro H3 e3 d3
        have ci3 := ci'.on R1 hD e3 d3
        cases b with
        | false =>
          rw [if_neg Bool.false_ne_true]
          exact ⟨rfl, hlt, ds2, acc, ci3, h⟩
        | true =>
          rw [if_pos rfl]
          have g3 := R2.go (H1 := H3) e3 (by
            have RB3 := R1.blk (vs := vs) hD ci3.ext ci3.draw (let ⟨us, l1, _⟩ := ci3.lst; ⟨_, l1⟩) hw
            exact RB3.draw)
          refine ⟨Γ.blk σ env H' D, env2, ds2, g3, aft_blk ?_⟩
          dsimp only at h
          rcases q2 : elt env2 ds2 with _ | ⟨y | ex, ds3⟩
          · rw [q2] at h; exact h.elim
          · rw [q2] at h
            intro H4 e4 d4 v hv
            dsimp only at h
            by_cases hs : acc.length < sizeLine
            · rw [if_pos (decide_eq_true hs)] at h
              have hy : Df K H4 (gdx Γ σ env D) v y := hv.mono (fun a u z q => ⟨Gm.blk_gd hw hsub s2 v2 z, q⟩) fun _ _ z => z
              obtain ⟨us, w1, w2, w3⟩ := ci3.grow R1 hD e4 d4 y v hy hs
              exact ⟨us, w1, w2, rfl, hlt, ds3, _, w3, h⟩
            · rw [if_neg (by rw [decide_eq_false hs]; exact Bool.false_ne_true)] at h
              exact h.elim
          · rw [q2] at h; exact h.elim
      · rw [q] at h; exact h.elim
  · refine .inl ⟨wl.stop i (by omega), ?_⟩
    rw [List.drop_eq_nil_of_le (by omega)] at h
    exact h H ci
end
section
variable {X : Cx} {C : Exs} {W : WX} {fr : Bool} {elt tg iter : Expr} {ifs : List Expr} {scope : Scope} {own : List (Str × Nat)} {pos : Pos} {mi : ME (List PyData)} {t : Tg} {is : List Nat} {c : ME Bool} {me : ME PyData}
theorem comp_rd {K : PySem.W.Frag} (hsub : ∀ i ∈ is, i ∈ own.map (·.2)) {σ : St} {H : Hp} {Q : VK} (h : rdF K C W (mComp (own.map (·.2)) mi t c me) σ H Q) : tLc (rdI K C W mi) (rdTgm K is t) (rdT K C W0 c) (rdG MD K C W0 me) (own.map (·.2)) σ H Q := by
  obtain ⟨Γ, env, ds, R, h⟩ := h
  refine ⟨Γ, env, ds, R, h.bind.imp fun items ds1 H1 e1 d1 q J wk D hD => ?_⟩
  have R1 := R.go e1 d1
  have hD0 := R.none_back e1 d1 hD
  dsimp only at q
  cases hw : wipeE env (own.map (·.2)) with
  | none => rw [hw] at q; exact q.elim
  | some env1 =>
    rw [hw] at q
    dsimp only at q
    refine comp_loop hsub R1 wk hD hw ?_
    rcases z : compGo t c me env1 items ds1 [] with _ | ⟨xs, ds'⟩
    · rw [z] at q; exact q
    · rw [z] at q
      intro H' ci
      obtain ⟨us, l1, l2, l3⟩ := ci.lst
      exact q H' ci.ext ci.draw D us hD0 l1 l2 l3
theorem sf_comp (hc : X.calm = true) (hN : X.N.Nodup) (hi : SI X C W tg iter mi) (ok : BlkOk X.N X.env.scope scope own) (hsub : ∀ i ∈ is, i ∈ own.map (·.2))
    (hg : ∀ (s : Shared) (H : Hp) (k : Addr) (cl : List (Str × Addr)) (fp : List Addr), SG (X.blk s H scope (compEnvC scope cl k X.env) fp) tg is t) (ht : ∀ (s : Shared) (H : Hp) (k : Addr) (cl : List (Str × Addr)) (fp : List Addr), STs (X.blk s H scope (compEnvC scope cl k X.env) fp) C W0 ifs c)
    (he : ∀ (s : Shared) (H : Hp) (k : Addr) (cl : List (Str × Addr)) (fp : List Addr), SE (X.blk s H scope (compEnvC scope cl k X.env) fp) C W0 elt me) (hs : ∀ x, foldedSetIterable iter X.env x = pure x := by intro _; rfl) :
    SF X C W (.ListComp elt [⟨tg, iter, ifs, 0⟩] scope pos) (mComp (own.map (·.2)) mi t c me) :=
  PE.imp (pe_lc hc hN hi ok hg ht he hs) fun σ H Q h => comp_rd hsub h
/-- name = [..] -/
theorem ss_setLc (i : Nat) {y : Str} {py spos : Pos} (hc : X.calm = true) (hN : X.N.Nodup) (hsw : swapsWith (.ListComp elt [⟨tg, iter, ifs, 0⟩] scope pos) (some (.Name y py)) spos.line X.env = pure true) (hi : SI X C W tg iter mi) (ok : BlkOk X.N X.env.scope scope own) (hsub : ∀ i ∈ is, i ∈ own.map (·.2))
    (hg : ∀ (s : Shared) (H : Hp) (k : Addr) (cl : List (Str × Addr)) (fp : List Addr), SG (X.blk s H scope (compEnvC scope cl k X.env) fp) tg is t) (ht : ∀ (s : Shared) (H : Hp) (k : Addr) (cl : List (Str × Addr)) (fp : List Addr), STs (X.blk s H scope (compEnvC scope cl k X.env) fp) C W0 ifs c)
    (he : ∀ (s : Shared) (H : Hp) (k : Addr) (cl : List (Str × Addr)) (fp : List Addr), SE (X.blk s H scope (compEnvC scope cl k X.env) fp) C W0 elt me) (hy : X.N[i]? = some y := by rfl) (hyl : X.env.scope.names.lookup y = some .local := by rfl) (hs : ∀ x, foldedSetIterable iter X.env x = pure x := by intro _; rfl) :
    SS X C W fr (.Assign [.Name y py] (.ListComp elt [⟨tg, iter, ifs, 0⟩] scope pos) spos) (mSet i (mF (mComp (own.map (·.2)) mi t c me))) :=
  PS.imp (L2.ps_setLc hc hN hy hyl hsw hi ok hg ht he hs) fun D σ H ⟨Γ, env, ds, R, h⟩ => comp_rd hsub ⟨Γ, env, ds, R, (exS_aft R h).bind.imp fun xs ds1 H1 e1 d1 q a us h1 h2 h3 h4 => by
    have q := Aft.here q d1
    cases hp : put i (.d (.list xs)) env with
    | none => rw [hp] at q; exact q.elim
    | some env' =>
      rw [hp] at q
      have R1 := R.go e1 d1
      exact q _ _ (R1.set_d (.lst (R.new_gd h1) h2 h3 h4.unavoid) hp)⟩
theorem ss_setLcL (i : Nat) {y : Str} {py spos : Pos} (hc : X.calm = true) (hN : X.N.Nodup) (hsw : swapsWith (.ListComp elt [⟨tg, iter, ifs, 0⟩] scope pos) (some (.Name y py)) spos.line X.env = pure true) (hi : SI X C W tg iter mi) (ok : BlkOk X.N X.env.scope scope own) (hsub : ∀ i ∈ is, i ∈ own.map (·.2))
    (hg : ∀ (s : Shared) (H : Hp) (k : Addr) (cl : List (Str × Addr)) (fp : List Addr), SG (X.blk s H scope (compEnvC scope cl k X.env) fp) tg is t) (ht : ∀ (s : Shared) (H : Hp) (k : Addr) (cl : List (Str × Addr)) (fp : List Addr), STs (X.blk s H scope (compEnvC scope cl k X.env) fp) C W0 ifs c)
    (he : ∀ (s : Shared) (H : Hp) (k : Addr) (cl : List (Str × Addr)) (fp : List Addr), SE (X.blk s H scope (compEnvC scope cl k X.env) fp) C W0 elt me) (hy : X.N[i]? = some y := by rfl) (hyl : X.env.scope.names.lookup y = some .local := by rfl) (hs : ∀ x, foldedSetIterable iter X.env x = pure x := by intro _; rfl) :
    SS X C W fr (.Assign [.Name y py] (.ListComp elt [⟨tg, iter, ifs, 0⟩] scope pos) spos) (mSetL i (mComp (own.map (·.2)) mi t c me)) :=
  PS.imp (L2.ps_setLc hc hN hy hyl hsw hi ok hg ht he hs) fun D σ H ⟨Γ, env, ds, R, h⟩ => comp_rd hsub ⟨Γ, env, ds, R, (exS_aft R h).imp fun xs ds1 H1 e1 d1 q a us h1 h2 h3 h4 => by
    cases hp : put i (.l xs) env with
    | none => rw [hp] at q; exact q.elim
    | some env' =>
      rw [hp] at q
      exact q _ _ (R.set_l e1 d1 h1 h2 h3 h4 hp)⟩
end
end DL

/-! DL8: comprehensions of two clauses. -/
namespace DL
open PySem PySem.Spec L2
open PyProof.Rows hiding St

def comp2Go (t : Tg) (c : ME Bool) (mi : ME (List PyData)) (vs1 : List Nat) (t1 : Tg) (c1 : ME Bool) (elt : ME PyData) (env : Ev) : List PyData → DS → List PyData → Option (List PyData × DS)
  | [], ds, acc => some (acc, ds)
  | x :: r, ds, acc => match t x env with
    | none => none
    | some env1 => match c env1 ds with
      | some (.ok true, ds1) => match mi env1 ds1 with
        | some (.ok items, ds2) => match wipeE env1 vs1 with
          | none => none
          | some env2 => match compGo t1 c1 elt env2 items ds2 acc with
            | some (acc', ds3) => comp2Go t c mi vs1 t1 c1 elt env r ds3 acc'
            | none => none
        | _ => none
      | some (.ok false, ds1) => comp2Go t c mi vs1 t1 c1 elt env r ds1 acc
      | _ => none
def mComp2 (vs : List Nat) (mi : ME (List PyData)) (t : Tg) (c : ME Bool) (mi1 : ME (List PyData)) (vs1 : List Nat) (t1 : Tg) (c1 : ME Bool) (elt : ME PyData) : ME (List PyData) := mi.bind fun items env ds => match wipeE env vs with
  | none => none
  | some env1 => match comp2Go t c mi1 vs1 t1 c1 elt env1 items ds [] with
    | some (xs, ds') => some (.ok xs, ds')
    | none => none
section
variable {K : PySem.W.Frag} {C : Exs} {W : WX} {Γ : Gm} {σ σ2 : St} {H H' H1 : Hp} {env env1 env2 env' : Ev} {ds ds1 ds' : DS} {D : Addr} {vs : List Nat}
theorem Rel.wipes (R : Rel K Γ σ H env ds) (hk : Γ.lk = []) (h : wipeE env vs = some env') : Rel K Γ (wipe σ vs) H env' ds := by
  obtain ⟨h1, h2, h3⟩ := wipeE_ok h
  refine ⟨by rw [wipe_length, h1]; exact R.len, fun j x q => ?_, fun i j x y hij hi hj oi oj => ?_, R.okf, R.ext, R.draw, fun p e q => R.drc p e ((owned_wipe h).mp q), fun p hp => by rw [hk] at hp; cases hp⟩
  · rcases h2 j x q with rfl | ⟨w1, w2⟩
    · trivial
    · rw [wipe_get w1]
      exact (R.slot j x w2).mono fun a z => ⟨z.1, fun w => z.2.1 ((owned_wipe h).mp w), z.2.2⟩
  · obtain ⟨w1, w2⟩ := (h2 i x hi).resolve_left (fun e => by rw [e] at oi; cases oi)
    obtain ⟨w3, w4⟩ := (h2 j y hj).resolve_left (fun e => by rw [e] at oj; cases oj)
    rw [wipe_get w1, wipe_get w3]
    exact R.sep i j x y hij w2 w4 oi oj
/-- the frame of a block, when D has changed -/
theorem Rel.move (R2 : Rel K (Γ.blk σ env H D) σ2 H env2 ds) (e : ∀ a o, Γ.nd a → a ≠ D → H a = some o → H' a = some o) (hD : ∃ us, H D = some (.lst us)) (hD' : ∃ o, H' D = some o) (d : DrR K Γ H' ds') (cn : ∀ p, Γ.dr = some p → p.2 ≠ D) (hn : ∀ a, H' a = none → Γ.ok a) :
    Rel K (Γ.blk σ env H' D) σ2 H' env2 ds' := by
  obtain ⟨us, hD⟩ := hD
  have own : ∀ a, owned σ2 env2 a → owned σ env a := fun a q => by
    obtain ⟨us, z1, z2, _⟩ := R2.own_at q
    rcases Gm.at_none (Γ := Γ) z2 with w | w
    · exact w
    · rw [z1] at w; cases w
  have nD : ∀ a, owned σ2 env2 a → a ≠ D := fun a q => by
    obtain ⟨us, z1, z2, _⟩ := R2.own_at q
    exact (R2.okf a z2).2
  have tq : ∀ a u, SqT K H a u → SqT K H' a u := fun a u q => by
    have nd : ∀ {o}, H a = some o → (∀ ys, o ≠ .lst ys) → Γ.nd a ∧ a ≠ D := fun {o} h1 h2 => by
      refine ⟨(kept_nd R2 h1 h2).2, fun z => ?_⟩
      rw [z, hD] at h1
      cases h1
      exact h2 _ rfl
    rcases q with (q | ⟨o, q⟩) | q
    · obtain ⟨n1, n2⟩ := nd q (by intro ys z; cases z)
      exact .inl (.inl (e a _ n1 n2 q))
    · obtain ⟨n1, n2⟩ := nd q (by intro ys z; cases z)
      exact .inl (.inr ⟨o, e a _ n1 n2 q⟩)
    · exact .inr q
  have dm : ∀ {v : V} {x : PyData}, Df K H (gd (Γ.blk σ env H D) σ2 env2) v x → Df K H' (gd (Γ.blk σ env H' D) σ2 env2) v x := fun q => q.mono (fun a u z k => ⟨z, e a _ z.2.2 z.1.2 k⟩) tq
  have dms : ∀ {v : List V} {x : List PyData}, DfAll K H (gd (Γ.blk σ env H D) σ2 env2) v x → DfAll K H' (gd (Γ.blk σ env H' D) σ2 env2) v x := fun q => q.mono (fun a u z k => ⟨z, e a _ z.2.2 z.1.2 k⟩) tq
  refine ⟨R2.len, fun i x hx => ?_, R2.sep, fun a q => ?_, fun a o _ q => Gm.at_le (Γ := Γ) q, d.blkR cn, R2.drc, fun p hp => by cases hp⟩
  · have q := R2.slot i x hx
    cases x with
    | un => trivial
    | d y =>
      obtain ⟨u, e1, e2⟩ := q
      exact ⟨u, e1, dm e2⟩
    | l xs =>
      obtain ⟨a, us, e1, e2, e3, e4, e5, e6⟩ := q
      have oa : owned σ2 env2 a := ⟨i, _, hx, rfl, e1⟩
      exact ⟨a, us, e1, e a _ e6 (nD a oa) e2, dms e3, e4, Gm.at_owned (Γ := Γ) (own a oa), e6⟩
    | lk xs =>
      obtain ⟨a, us, e1, e2, e3, e4, e5, e6⟩ := q
      have oa : owned σ2 env2 a := ⟨i, _, hx, rfl, e1⟩
      exact ⟨a, us, e1, e a _ e6 (nD a oa) e2, dms e3, e4, Gm.at_owned (Γ := Γ) (own a oa), e6⟩
    | drw => exact q
    | scr ns =>
      obtain ⟨a, e1, e2, e3⟩ := q
      refine ⟨a, e1, ?_, e3⟩
      rcases e2 with ⟨o, e2⟩ | e2
      · refine .inl ⟨o, e a _ (kept_nd R2 e2 (by intro ys z; cases z)).2 (fun z => ?_) e2⟩
        rw [z, hD] at e2
        cases e2
      · exact .inr e2
  · rcases Gm.at_none (Γ := Γ) q with w | w
    · exact R2.okf a (Gm.at_owned (Γ := Γ) w)
    · refine ⟨hn a w, fun z => ?_⟩
      obtain ⟨o, hD'⟩ := hD'
      rw [z, hD'] at w
      cases w
theorem CIn.rel (R1 : Rel K Γ σ H1 env ds1) (hf : H1 D = none) {acc : List PyData} (c : CIn K Γ σ env H1 D H ds acc) : Rel K Γ σ H env ds := R1.go c.ext c.draw
variable {J : It} {items : List PyData} {t t1 : Tg} {is is1 vs1 : List Nat} {c c1 : ME Bool} {mi1 : ME (List PyData)} {elt : ME PyData} {Qd : Hp → Prop}
/-- the inner loop: H4 where it begins -/
theorem comp_inner {H4 : Hp} {ds4 : DS} {acc : List PyData} {env3 : Ev} {Nx : Hp → Prop} (R1 : Rel K Γ σ H1 env ds1) (hD : H1 D = none) (hw : wipeE env vs = some env1) (hsub : ∀ i ∈ is, i ∈ vs) (hsub1 : ∀ i ∈ is1, i ∈ vs1) (s2 : SameBut is (wipe σ vs) σ2) (v2 : EvBut is env1 env2)
    (hv1 : ∀ i ∈ vs1, i ∈ vs) (R4 : Rel K (Γ.blk σ env H4 D) σ2 H4 env2 ds4) (ci : CIn K Γ σ env H1 D H4 ds4 acc) (wk : ∀ H5, (∀ a o, Γ.nd a → a ≠ D → H4 a = some o → H5 a = some o) → Wlk K J items (fun b => gd (Γ.blk σ env H4 D) σ2 env2 b ∧ H4 b ≠ none) H5) (hw1 : wipeE env2 vs1 = some env3)
    (h : match compGo t1 c1 elt env3 items ds4 acc with | some (xs, ds') => ∀ H', CIn K Γ σ env H1 D H' ds' xs → Nx H' | none => False) :
    ∃ W1 : Nat → Nat → Hp → Prop, (∃ m, W1 0 m H4) ∧ ∀ j k H, W1 j k H →
      (J.stop j H ∧ Nx H) ∨ (J.go j H ∧ ∃ Nx1 : Hp → Prop, (∀ H', Nx1 H' → ∃ k', k' < k ∧ W1 (j + 1) k' H') ∧ ∀ x H', J.yld j H x H' → rdTgm K is1 t1 x (wipe σ2 vs1) H' fun σ3 H5 => wipe σ3 vs1 = wipe σ2 vs1 ∧ rdT K C W0 c1 σ3 H5 fun b H6 =>
        if b = true then rdG MD K C W0 elt σ3 H6 fun y H7 => ∃ acc, H7 D = some (.lst acc) ∧ acc.length < sizeLine ∧ Nx1 (upd H7 D (.lst (acc ++ [y]))) else Nx1 H6) := by
  have cn := R1.cell_ne hD
  have nD := (R1.new_gd hD).2.2
  refine ⟨fun i m H => m = items.length - i ∧ i ≤ items.length ∧ (∀ a o, Γ.nd a → a ≠ D → H4 a = some o → H a = some o) ∧ ∃ ds acc, CIn K Γ σ env H1 D H ds acc ∧ match compGo t1 c1 elt env3 (items.drop i) ds acc with | some (xs, ds') => ∀ H', CIn K Γ σ env H1 D H' ds' xs → Nx H' | none => False,
    ⟨_, rfl, Nat.zero_le _, fun _ _ _ _ q => q, ds4, acc, ci, h⟩, ?_⟩
  rintro i m H ⟨rfl, hi, kp, ds, acc, ci, h⟩
  have rel : ∀ {H : Hp} {ds : DS} {acc : List PyData}, (∀ a o, Γ.nd a → a ≠ D → H4 a = some o → H a = some o) → CIn K Γ σ env H1 D H ds acc → Rel K (Γ.blk σ env H D) σ2 H env2 ds := fun {H ds acc} kp ci' => by
    obtain ⟨us, l1, _⟩ := ci.lst
    obtain ⟨us', l2, _⟩ := ci'.lst
    refine R4.move kp ?_ ⟨_, l2⟩ ci'.draw cn fun a q => ((CIn.rel R1 hD ci').new_gd q).1
    obtain ⟨us0, l0, _⟩ := (‹CIn K Γ σ env H1 D H4 ds4 _›).lst
    exact ⟨_, l0⟩
  have R := rel kp ci
  have wl0 := wk H kp
  have gm : ∀ {H : Hp} a, gd (Γ.blk σ env H4 D) σ2 env2 a ∧ H4 a ≠ none → gd (Γ.blk σ env H D) (wipe σ2 vs1) env3 a := fun {H} a z => ⟨z.1.1, fun w => z.1.2.1 ((owned_wipe hw1).mp w), z.1.2.2⟩
  by_cases hlt : i < items.length
  · refine .inr ⟨wl0.go i hlt, fun H' => (items.length - (i + 1)) = items.length - (i + 1) ∧ i + 1 ≤ items.length ∧ (∀ a o, Γ.nd a → a ≠ D → H4 a = some o → H' a = some o) ∧ ∃ ds acc, CIn K Γ σ env H1 D H' ds acc ∧ match compGo t1 c1 elt env3 (items.drop (i + 1)) ds acc with | some (xs, ds') => ∀ H', CIn K Γ σ env H1 D H' ds' xs → Nx H' | none => False,
      fun H' n => ⟨items.length - (i + 1), by omega, n⟩, fun x H' y => ?_⟩
    obtain ⟨d, e1, k, hx⟩ := wl0.yld i x H' hlt y
    have e2 : items.drop i = d :: items.drop (i + 1) := by
      rw [List.drop_eq_getElem_cons hlt]
      rw [List.getElem?_eq_getElem hlt] at e1
      rw [Option.some.inj e1]
    rw [e2] at h
    have ci' : CIn K Γ σ env H1 D H' ds acc := ci.on R1 hD (fun a o _ q => k a o q) (drR_kept ci.draw k)
    have kp' : ∀ a o, Γ.nd a → a ≠ D → H4 a = some o → H' a = some o := fun a o n1 n2 q => k a o (kp a o n1 n2 q)
    have hx' : Df K H' (gd (Γ.blk σ env H' D) (wipe σ2 vs1) env3) x d := hx.mono (fun a u z q => ⟨gm a z, q⟩) fun _ _ z => z
    have RB := (rel kp' ci').wipes rfl hw1
    unfold compGo at h
    cases ht : t1 d env3 with
    | none => rw [ht] at h; exact h.elim
    | some env4 =>
      rw [ht] at h
      dsimp only at h
      refine ⟨Γ.blk σ env H' D, env3, ds, d, env4, RB, hx', ht, fun σ3 R3 _ s3 v3 => ⟨(wipe_same s3 hsub1).trans wipe_idem, Γ.blk σ env H' D, env4, ds, R3, aft_blk ?_⟩⟩
      have back : ∀ {a : Addr}, gd (Γ.blk σ env H' D) σ3 env4 a → gdx Γ σ env D a := fun {a} q => by
        refine ⟨⟨q.1.1, fun w => q.2.1 ?_, q.2.2⟩, q.1.2⟩
        obtain ⟨j, x, w1, w2, w3⟩ := w
        obtain ⟨_, _, h3⟩ := wipeE_ok hw
        obtain ⟨z1, z2⟩ := h3 j x w1 w2
        obtain ⟨_, _, h4⟩ := wipeE_ok hw1
        have nj : j ∉ is := fun z => z1 (hsub j z)
        have y1 : env2[j]? = some x := by rw [v2.2 j nj]; exact z2
        obtain ⟨z3, z4⟩ := h4 j x y1 w2
        have nj1 : j ∉ is1 := fun z => z3 (hsub1 j z)
        exact ⟨j, x, by rw [v3.2 j nj1]; exact z4, w2, by rw [s3.2 j nj1, wipe_get z3, s2.2 j nj, wipe_get z1]; exact w3⟩
      rcases q : c1 env4 ds with _ | ⟨b | ex, ds2⟩
      · rw [q] at h; exact h.elim
      · rw [q] at h
        intro H5 e5 d5
        have ci5 := ci'.on R1 hD e5 d5
        have kp5 : ∀ a o, Γ.nd a → a ≠ D → H4 a = some o → H5 a = some o := fun a o n1 n2 q => e5 a o n1 (kp' a o n1 n2 q)
        cases b with
        | false =>
          rw [if_neg Bool.false_ne_true]
          exact ⟨rfl, hlt, kp5, ds2, acc, ci5, h⟩
        | true =>
          rw [if_pos rfl]
          have g5 := R3.go (H1 := H5) e5 (d5.blkR cn)
          refine ⟨Γ.blk σ env H' D, env4, ds2, g5, aft_blk ?_⟩
          dsimp only at h
          rcases q2 : elt env4 ds2 with _ | ⟨y | ex, ds3⟩
          · rw [q2] at h; exact h.elim
          · rw [q2] at h
            intro H6 e6 d6 v hv
            dsimp only at h
            by_cases hs : acc.length < sizeLine
            · rw [if_pos (decide_eq_true hs)] at h
              have hy : Df K H6 (gdx Γ σ env D) v y := hv.mono (fun a u z q => ⟨back z, q⟩) fun _ _ z => z
              obtain ⟨us, w1, w2, w3⟩ := ci5.grow R1 hD e6 d6 y v hy hs
              exact ⟨us, w1, w2, rfl, hlt, fun a o n1 n2 q => by rw [upd_ne n2]; exact e6 a o n1 (kp5 a o n1 n2 q), ds3, _, w3, h⟩
            · rw [if_neg (by rw [decide_eq_false hs]; exact Bool.false_ne_true)] at h
              exact h.elim
          · rw [q2] at h; exact h.elim
      · rw [q] at h; exact h.elim
  · refine .inl ⟨wl0.stop i (by omega), ?_⟩
    rw [List.drop_eq_nil_of_le (by omega)] at h
    exact h H ci
theorem comp2_loop (hsub : ∀ i ∈ is, i ∈ vs) (hsub1 : ∀ i ∈ is1, i ∈ vs1) (hv1 : ∀ i ∈ vs1, i ∈ vs) (R1 : Rel K Γ σ H1 env ds1) (wk : Wk K Γ σ env J items H1) (hD : H1 D = none) (hw : wipeE env vs = some env1)
    (h : match comp2Go t c mi1 vs1 t1 c1 elt env1 items ds1 [] with | some (xs, ds') => ∀ H', CIn K Γ σ env H1 D H' ds' xs → Qd H' | none => False) :
    ∃ W' : Nat → Nat → Hp → Prop, (∃ m, W' 0 m (upd H1 D (.lst []))) ∧ ∀ i m H, W' i m H →
      (J.stop i H ∧ Qd H) ∨ (J.go i H ∧ ∃ Nx : Hp → Prop, (∀ H', Nx H' → ∃ m', m' < m ∧ W' (i + 1) m' H') ∧ ∀ x H', J.yld i H x H' → rdTgm K is t x (wipe σ vs) H' fun σ2 H2 => wipe σ2 vs = wipe σ vs ∧ rdT K C W0 c σ2 H2 fun b H3 =>
        if b = true then rdI K C W0 mi1 σ2 H3 fun J1 H4 => ∃ W1 : Nat → Nat → Hp → Prop, (∃ m, W1 0 m H4) ∧ ∀ j k H, W1 j k H →
          (J1.stop j H ∧ Nx H) ∨ (J1.go j H ∧ ∃ Nx1 : Hp → Prop, (∀ H', Nx1 H' → ∃ k', k' < k ∧ W1 (j + 1) k' H') ∧ ∀ x H', J1.yld j H x H' → rdTgm K is1 t1 x (wipe σ2 vs1) H' fun σ3 H5 => wipe σ3 vs1 = wipe σ2 vs1 ∧ rdT K C W0 c1 σ3 H5 fun b H6 =>
            if b = true then rdG MD K C W0 elt σ3 H6 fun y H7 => ∃ acc, H7 D = some (.lst acc) ∧ acc.length < sizeLine ∧ Nx1 (upd H7 D (.lst (acc ++ [y]))) else Nx1 H6)
        else Nx H3) := by
  have cn := R1.cell_ne hD
  refine ⟨fun i m H => m = items.length - i ∧ i ≤ items.length ∧ ∃ ds acc, CIn K Γ σ env H1 D H ds acc ∧ match comp2Go t c mi1 vs1 t1 c1 elt env1 (items.drop i) ds acc with | some (xs, ds') => ∀ H', CIn K Γ σ env H1 D H' ds' xs → Qd H' | none => False,
    ⟨_, rfl, Nat.zero_le _, ds1, [], CIn.start R1 hD, h⟩, ?_⟩
  rintro i m H ⟨rfl, hi, ds, acc, ci, h⟩
  have wl := Wlk.blk R1 hD ci.ext wk hw
  by_cases hlt : i < items.length
  · refine .inr ⟨wl.go i hlt, fun H' => (items.length - (i + 1)) = items.length - (i + 1) ∧ i + 1 ≤ items.length ∧ ∃ ds acc, CIn K Γ σ env H1 D H' ds acc ∧ match comp2Go t c mi1 vs1 t1 c1 elt env1 (items.drop (i + 1)) ds acc with | some (xs, ds') => ∀ H', CIn K Γ σ env H1 D H' ds' xs → Qd H' | none => False,
      fun H' n => ⟨items.length - (i + 1), by omega, n⟩, fun x H' y => ?_⟩
    obtain ⟨d, e1, k, hx⟩ := wl.yld i x H' hlt y
    have e2 : items.drop i = d :: items.drop (i + 1) := by
      rw [List.drop_eq_getElem_cons hlt]
      rw [List.getElem?_eq_getElem hlt] at e1
      rw [Option.some.inj e1]
    rw [e2] at h
    have ci' : CIn K Γ σ env H1 D H' ds acc := ci.on R1 hD (fun a o _ q => k a o q) (drR_kept ci.draw k)
    obtain ⟨us, l1, l2, l3⟩ := ci'.lst
    have hx' : Df K H' (gd (Γ.blk σ env H' D) (wipe σ vs) env1) x d := hx.mono (fun a u z q => ⟨z, q⟩) fun _ _ z => z
    have RB := R1.blk hD ci'.ext ci'.draw ⟨_, l1⟩ hw
    unfold comp2Go at h
    cases ht : t d env1 with
    | none => rw [ht] at h; exact h.elim
    | some env2 =>
      rw [ht] at h
      dsimp only at h
      refine ⟨Γ.blk σ env H' D, env1, ds, d, env2, RB, hx', ht, fun σ2 R2 _ s2 v2 => ⟨(wipe_same s2 hsub).trans wipe_idem, Γ.blk σ env H' D, env2, ds, R2, aft_blk ?_⟩⟩
      rcases q : c env2 ds with _ | ⟨b | ex, ds2⟩
      · rw [q] at h; exact h.elim
      · rw [q] at h
        intro H3 e3 d3
        have ci3 := ci'.on R1 hD e3 d3
        cases b with
        | false =>
          rw [if_neg Bool.false_ne_true]
          exact ⟨rfl, hlt, ds2, acc, ci3, h⟩
        | true =>
          rw [if_pos rfl]
          have mv : ∀ {H4 : Hp} {ds4 : DS}, Ext Γ H' H4 → DrR K Γ H4 ds4 → Rel K (Γ.blk σ env H4 D) σ2 H4 env2 ds4 := fun {H4 ds4} e4 d4 => by
            have ci4 := ci'.on R1 hD e4 d4
            obtain ⟨us4, w, _⟩ := ci4.lst
            exact R2.move (fun a o n _ q => e4 a o n q) ⟨_, l1⟩ ⟨_, w⟩ d4 cn fun a q => ((CIn.rel R1 hD ci4).new_gd q).1
          have R3 := mv e3 d3
          refine ⟨Γ.blk σ env H3 D, env2, ds2, R3, aft_blk ?_⟩
          dsimp only at h
          rcases q2 : mi1 env2 ds2 with _ | ⟨items1 | ex, ds3⟩
          · rw [q2] at h; exact h.elim
          · rw [q2] at h
            intro H4 e4 d4 J1 wk1
            dsimp only at h
            cases hw1 : wipeE env2 vs1 with
            | none => rw [hw1] at h; exact h.elim
            | some env3 =>
              rw [hw1] at h
              dsimp only at h
              have ci4 := ci3.on R1 hD e4 d4
              have R4 := mv (e3.trans e4) d4
              refine comp_inner (items := items1) (t1 := t1) (c1 := c1) (elt := elt) (C := C) R1 hD hw hsub hsub1 s2 v2 hv1 R4 ci4 (fun H5 kp => ?_) hw1 ?_
              · exact wk1 H5 fun a o n1 n2 n3 q => by
                  refine kp a o n2 (fun z => ?_) q
                  obtain ⟨us4, w, _⟩ := ci4.lst
                  rw [z, w] at q
                  cases q
                  exact (n3 _ rfl).2 z
              · rcases q3 : compGo t1 c1 elt env3 items1 ds3 acc with _ | ⟨acc', ds4⟩
                · rw [q3] at h; exact h
                · rw [q3] at h
                  exact fun H5 ci5 => ⟨rfl, hlt, ds4, acc', ci5, h⟩
          · rw [q2] at h; exact h.elim
      · rw [q] at h; exact h.elim
  · refine .inl ⟨wl.stop i (by omega), ?_⟩
    rw [List.drop_eq_nil_of_le (by omega)] at h
    exact h H ci
end
section
variable {X : Cx} {C : Exs} {W : WX} {fr : Bool} {elt tg iter tg1 iter1 : Expr} {ifs ifs1 : List Expr} {scope : Scope} {own : List (Str × Nat)} {pos : Pos} {mi mi1 : ME (List PyData)} {t t1 : Tg} {is is1 vs1 : List Nat} {c c1 : ME Bool} {me : ME PyData}
theorem comp2_rd {K : PySem.W.Frag} (hv : ∀ i ∈ vs1, i ∈ own.map (·.2)) (hsub : ∀ i ∈ is, i ∈ own.map (·.2)) (hsub1 : ∀ i ∈ is1, i ∈ vs1) {σ : St} {H : Hp} {Q : VK} (h : rdF K C W (mComp2 (own.map (·.2)) mi t c mi1 vs1 t1 c1 me) σ H Q) :
    tLc2 (rdI K C W mi) (rdTgm K is t) (rdT K C W0 c) (rdI K C W0 mi1) (rdTgm K is1 t1) (rdT K C W0 c1) (rdG MD K C W0 me) (own.map (·.2)) vs1 σ H Q := by
  obtain ⟨Γ, env, ds, R, h⟩ := h
  refine ⟨Γ, env, ds, R, h.bind.imp fun items ds1 H1 e1 d1 q J wk D hD => ?_⟩
  have R1 := R.go e1 d1
  have hD0 := R.none_back e1 d1 hD
  dsimp only at q
  cases hw : wipeE env (own.map (·.2)) with
  | none => rw [hw] at q; exact q.elim
  | some env1 =>
    rw [hw] at q
    dsimp only at q
    refine comp2_loop hsub hsub1 hv R1 wk hD hw ?_
    rcases z : comp2Go t c mi1 vs1 t1 c1 me env1 items ds1 [] with _ | ⟨xs, ds'⟩
    · rw [z] at q; exact q
    · rw [z] at q
      intro H' ci
      obtain ⟨us, l1, l2, l3⟩ := ci.lst
      exact q H' ci.ext ci.draw D us hD0 l1 l2 l3
abbrev Blk (X : Cx) (scope : Scope) (P : Cx → Prop) : Prop := ∀ (s : Shared) (H : Hp) (k : Addr) (cl : List (Str × Addr)) (fp : List Addr), P (X.blk s H scope (compEnvC scope cl k X.env) fp)
theorem sf_comp2 (hc : X.calm = true) (hN : X.N.Nodup) (hi : SI X C W tg iter mi) (ok : BlkOk X.N X.env.scope scope own) (hv : ∀ i ∈ vs1, i ∈ own.map (·.2)) (hsub : ∀ i ∈ is, i ∈ own.map (·.2)) (hsub1 : ∀ i ∈ is1, i ∈ vs1)
    (hg : Blk X scope fun Y => SG Y tg is t) (ht : Blk X scope fun Y => STs Y C W0 ifs c) (hi1 : Blk X scope fun Y => SI Y C W0 tg1 iter1 mi1) (hg1 : Blk X scope fun Y => SG Y tg1 is1 t1) (ht1 : Blk X scope fun Y => STs Y C W0 ifs1 c1) (he : Blk X scope fun Y => SE Y C W0 elt me)
    (hs : ∀ x, foldedSetIterable iter X.env x = pure x := by intro _; rfl) (hs1 : ∀ env x, foldedSetIterable iter1 env x = pure x := by intro _ _; rfl) : SF X C W (.ListComp elt [⟨tg, iter, ifs, 0⟩, ⟨tg1, iter1, ifs1, 0⟩] scope pos) (mComp2 (own.map (·.2)) mi t c mi1 vs1 t1 c1 me) :=
  PE.imp (pe_lc2 hc hN hi ok hv hg ht hi1 hg1 ht1 he hs hs1) fun σ H Q h => comp2_rd hv hsub hsub1 h
theorem ss_setLc2 (i : Nat) {y : Str} {py spos : Pos} (hc : X.calm = true) (hN : X.N.Nodup) (hsw : swapsWith (.ListComp elt [⟨tg, iter, ifs, 0⟩, ⟨tg1, iter1, ifs1, 0⟩] scope pos) (some (.Name y py)) spos.line X.env = pure true) (hi : SI X C W tg iter mi) (ok : BlkOk X.N X.env.scope scope own) (hv : ∀ i ∈ vs1, i ∈ own.map (·.2)) (hsub : ∀ i ∈ is, i ∈ own.map (·.2)) (hsub1 : ∀ i ∈ is1, i ∈ vs1)
    (hg : Blk X scope fun Y => SG Y tg is t) (ht : Blk X scope fun Y => STs Y C W0 ifs c) (hi1 : Blk X scope fun Y => SI Y C W0 tg1 iter1 mi1) (hg1 : Blk X scope fun Y => SG Y tg1 is1 t1) (ht1 : Blk X scope fun Y => STs Y C W0 ifs1 c1) (he : Blk X scope fun Y => SE Y C W0 elt me)
    (hy : X.N[i]? = some y := by rfl) (hyl : X.env.scope.names.lookup y = some .local := by rfl) (hs : ∀ x, foldedSetIterable iter X.env x = pure x := by intro _; rfl) (hs1 : ∀ env x, foldedSetIterable iter1 env x = pure x := by intro _ _; rfl) :
    SS X C W fr (.Assign [.Name y py] (.ListComp elt [⟨tg, iter, ifs, 0⟩, ⟨tg1, iter1, ifs1, 0⟩] scope pos) spos) (mSet i (mF (mComp2 (own.map (·.2)) mi t c mi1 vs1 t1 c1 me))) :=
  PS.imp (L2.ps_setLc2 hc hN hy hyl hsw hi ok hv hg ht hi1 hg1 ht1 he hs hs1) fun D σ H ⟨Γ, env, ds, R, h⟩ => comp2_rd hv hsub hsub1 ⟨Γ, env, ds, R, (exS_aft R h).bind.imp fun xs ds1 H1 e1 d1 q a us h1 h2 h3 h4 => by
    have q := Aft.here q d1
    cases hp : put i (.d (.list xs)) env with
    | none => rw [hp] at q; exact q.elim
    | some env' =>
      rw [hp] at q
      exact q _ _ ((R.go e1 d1).set_d (.lst (R.new_gd h1) h2 h3 h4.unavoid) hp)⟩
end
end DL

/-! DL9: one's own lists changed, the draw, calls of defs, the rule for a def, try. -/
namespace DL
open PySem PySem.Spec L2
open PyProof.Rows hiding St

/-! ### one's own lists -/
/-- the list in a slot, ahead of all else -/
def onL (i : Nat) (f : List PyData → MS) : MS := fun env ds => match env[i]? with
  | some (.l xs) => f xs env ds
  | _ => none
def mApp (i : Nat) (a : ME PyData) : MS := onL i fun xs => exS a fun x env ds => if decide (xs.length < sizeLine) then some (.nx (env.set i (.l (xs ++ [x]))), ds) else none
def mExt (i : Nat) (a : ME PyData) : MS := onL i fun xs => exS a fun x env ds => match x with
  | .list ys => if short (xs.length + ys.length) then some (.nx (env.set i (.l (xs ++ ys))), ds) else none
  | _ => none
def mPut (i : Nat) (ix a : ME PyData) : MS := onL i fun xs => exS a fun x => exS ix fun k env ds => match k with
  | .int k => match ixN xs.length k with
    | some j => some (.nx (env.set i (.l (xs.set j x))), ds)
    | none => none
  | _ => none
/-- x.append(y.pop(e)) -/
def mAppPop (i j : Nat) (ix : ME PyData) : MS := onL i fun xs => onL j fun ys => exS ix fun k env ds => match k with
  | .int k => if decide (0 ≤ k ∧ k < 2 ^ 62) && decide (i ≠ j) && decide (xs.length < sizeLine) then match ys[k.toNat]? with
      | some y => some (.nx ((env.set j (.l (ys.eraseIdx k.toNat))).set i (.l (xs ++ [y]))), ds)
      | none => none
    else none
  | _ => none
/-- x = y.pop() -/
def mSetPop (i j : Nat) : MS := onL j fun ys env ds => match ys[ys.length - 1]? with
  | some y => match put i (.d y) (env.set j (.l ys.dropLast)) with
    | some env' => if decide (i ≠ j) then some (.nx env', ds) else none
    | none => none
  | none => none
theorem onL_aft {K : PySem.W.Frag} {C : Exs} {W : WX} {fr : Bool} {Γ : Gm} {D : Ends} {i : Nat} {f : List PyData → MS} {env : Ev} {ds : DS} (h : Aft2 K C W fr Γ D (onL i f env ds)) : ∃ xs, env[i]? = some (.l xs) ∧ Aft2 K C W fr Γ D (f xs env ds) := by
  unfold onL at h
  split at h
  · rename_i xs q
    exact ⟨xs, q, h⟩
  · exact h.elim
section
variable {X : Cx} {C : Exs} {W : WX} {fr : Bool} {e o ix : Expr} {me mi : ME PyData} {K : PySem.W.Frag} {Γ : Gm} {σ : St} {H : Hp} {env : Ev} {ds : DS}
theorem Rel.l_at (R : Rel K Γ σ H env ds) {i : Nat} {xs : List PyData} (h : env[i]? = some (.l xs)) : ∃ a us, σ[i]? = some (some (V.ref a)) ∧ H a = some (.lst us) ∧ DfAll K H (gd Γ σ env) us xs ∧ us.length ≤ sizeLine := by
  obtain ⟨a, us, e1, e2, e3, e4, _⟩ := R.slot i _ h
  exact ⟨a, us, e1, e2, e3, e4⟩
theorem tyV_list {a : Addr} {us : List V} (h : H a = some (.lst us)) : tyV K "list" (.ref a) H := .inl ⟨rfl, us, SqL.of h⟩
theorem Rel.l_same {H1 : Hp} {ds1 : DS} (R : Rel K Γ σ H env ds) (e1 : Ext Γ H H1) (d1 : DrR K Γ H1 ds1) {i : Nat} {xs : List PyData} {a : Addr} (h : env[i]? = some (.l xs)) (hs : σ[i]? = some (some (V.ref a))) : ∃ us, H1 a = some (.lst us) ∧ DfAll K H1 (gd Γ σ env) us xs ∧ us.length ≤ sizeLine := by
  obtain ⟨b, us, q1, q2, q3, q4⟩ := (R.go e1 d1).l_at h
  rw [hs] at q1
  cases q1
  exact ⟨us, q2, q3, q4⟩
theorem ss_app (i : Nat) {x : Str} {p ap cp ep : Pos} (he : SE X C W e me) (hN : X.N[i]? = some x := by rfl) (hv : Vis X.env.scope x := by first | exact Or.inl rfl | exact Or.inr (Or.inl rfl) | exact Or.inr (Or.inr rfl)) (hd : (x == ("__debug__" : Str)) = false := by decide) (hcd : (x == ("__classdict__" : Str)) = false := by decide)
    (hbase : attributeBase (.Name x p) "append" X.env (eval (.Name x p) X.env) = eval (.Name x p) X.env := by rfl)
    (hfew : ((backTo cp (starEach [e] X.env)).all (fun x => !x.1) && (backToKw cp (keywordEach [] X.env)).all (fun x => x.1.isSome) && decide ([e].length + ([] : List Keyword).length + (if ([] : List Keyword).isEmpty then 0 else 1) < 30)) = true := by rfl)
    (hline : (ap.endLine == cp.line) = true := by rfl) (hs : starEach (e :: []) X.env = (false, eval e X.env) :: starEach [] X.env := by rfl) (hplain : (backTo cp (starEach [] X.env)).any (·.1) = false := by rfl)
    (hsw : swapsWith (.Call (.Attribute (.Name x p) "append" ap) [e] [] cp) none ep.line X.env = pure false := by rfl) :
    SS X C W fr (.Expr (.Call (.Attribute (.Name x p) "append" ap) [e] [] cp) ep) (mApp i me) :=
  PS.imp (ps_expr (pe_bm PySem.F.plainAttrs_list PySem.F.slot_list_append PySem.F.type_list_append mt_append (pe_var hN hv hd hcd) (pa_cons he pa_nil hs) hbase hfew hline hs hplain) hsw) fun D σ H ⟨Γ, env, ds, R, h⟩ => by
    obtain ⟨xs, q0, h⟩ := onL_aft h
    obtain ⟨a, us, q1, q2, q3, q4⟩ := R.l_at q0
    refine ⟨_, q1, tyV_list q2, Γ, env, ds, R, (exS_aft R h).imp fun d ds1 H1 e1 d1 q v hv => ?_⟩
    obtain ⟨us1, w1, w2, w3⟩ := R.l_same e1 d1 q0 q1
    by_cases hs : xs.length < sizeLine
    · rw [if_pos (decide_eq_true hs)] at q
      have ln := w2.length
      refine ⟨a, us1, v, rfl, rfl, w1, by rw [ln]; exact hs, q _ _ ((R.go e1 d1).upd_l q0 q1 (by rw [List.length_append, ln]; exact hs) (w2.append (.cons hv .nil)))⟩
    · rw [if_neg (by rw [decide_eq_false hs]; exact Bool.false_ne_true)] at q
      exact q.elim
theorem ss_ext (i : Nat) {x : Str} {p ap cp ep : Pos} (he : SE X C W e me) (hN : X.N[i]? = some x := by rfl) (hv : Vis X.env.scope x := by first | exact Or.inl rfl | exact Or.inr (Or.inl rfl) | exact Or.inr (Or.inr rfl)) (hd : (x == ("__debug__" : Str)) = false := by decide) (hcd : (x == ("__classdict__" : Str)) = false := by decide)
    (hbase : attributeBase (.Name x p) "extend" X.env (eval (.Name x p) X.env) = eval (.Name x p) X.env := by rfl)
    (hfew : ((backTo cp (starEach [e] X.env)).all (fun x => !x.1) && (backToKw cp (keywordEach [] X.env)).all (fun x => x.1.isSome) && decide ([e].length + ([] : List Keyword).length + (if ([] : List Keyword).isEmpty then 0 else 1) < 30)) = true := by rfl)
    (hline : (ap.endLine == cp.line) = true := by rfl) (hs : starEach (e :: []) X.env = (false, eval e X.env) :: starEach [] X.env := by rfl) (hplain : (backTo cp (starEach [] X.env)).any (·.1) = false := by rfl)
    (hsw : swapsWith (.Call (.Attribute (.Name x p) "extend" ap) [e] [] cp) none ep.line X.env = pure false := by rfl) :
    SS X C W fr (.Expr (.Call (.Attribute (.Name x p) "extend" ap) [e] [] cp) ep) (mExt i me) :=
  PS.imp (ps_expr (pe_bm PySem.F.plainAttrs_list PySem.F.slot_list_extend PySem.F.type_list_extend mt_extend (pe_var hN hv hd hcd) (pa_cons he pa_nil hs) hbase hfew hline hs hplain) hsw) fun D σ H ⟨Γ, env, ds, R, h⟩ => by
    obtain ⟨xs, q0, h⟩ := onL_aft h
    obtain ⟨a, us, q1, q2, q3, q4⟩ := R.l_at q0
    refine ⟨_, q1, tyV_list q2, Γ, env, ds, R, (exS_aft R h).imp fun d ds1 H1 e1 d1 q v hv => ?_⟩
    obtain ⟨us1, w1, w2, w3⟩ := R.l_same e1 d1 q0 q1
    cases d with
    | list ys =>
      cases hv with
      | lst a1 a2 a3 a4 =>
        dsimp only at q
        by_cases hs' : short (xs.length + ys.length) = true
        · rw [if_pos hs'] at q
          have hs := short_iff hs'
          have ln := w2.length
          have ln2 := a4.length
          refine ⟨a, _, us1, _, rfl, rfl, w1, a2, by rw [ln, ln2]; exact hs, q _ _ ((R.go e1 d1).upd_l q0 q1 (by rw [List.length_append, ln, ln2]; exact hs) (w2.append a4))⟩
        · rw [if_neg hs'] at q
          exact q.elim
    | _ => exact q.elim
theorem ss_put (i : Nat) {x : Str} {p sp : Pos} {pos : Pos} (he : SE X C W e me) (hi : SE X C W ix mi) (hN : X.N[i]? = some x := by rfl) (hv : Vis X.env.scope x := by first | exact Or.inl rfl | exact Or.inr (Or.inl rfl) | exact Or.inr (Or.inr rfl)) (hd : (x == ("__debug__" : Str)) = false := by decide) (hcd : (x == ("__classdict__" : Str)) = false := by decide)
    (ha : ∀ v, assign (.Subscript (.Name x p) ix sp) X.env v = (do
      let ov ← holding [v] (eval (.Name x p) X.env)
      let iv ← holding [v, ov] (eval ix X.env)
      standAt sp
      holding [v, ov, iv] (setItem ov iv v)
      release [v, ov, iv] []) := by intro _; rfl)
    (hs : swapsWithSole [.Subscript (.Name x p) ix sp] e pos.line X.env = pure false := by rfl) (hw : swappedStores [.Subscript (.Name x p) ix sp] e X.env = pure none := by rfl)
    (h1 : (assignEach [.Subscript (.Name x p) ix sp] X.env).map (·.2) = [assign (.Subscript (.Name x p) ix sp) X.env] := by rfl) :
    SS X C W fr (.Assign [.Subscript (.Name x p) ix sp] e pos) (mPut i mi me) :=
  PS.imp (ps_asg he (pg_sub (pe_var hN hv hd hcd) hi set_list ha) hs hw h1) fun D σ H ⟨Γ, env, ds, R, h⟩ => by
    obtain ⟨xs, q0, h⟩ := onL_aft h
    obtain ⟨a, us, q1, q2, q3, q4⟩ := R.l_at q0
    refine ⟨Γ, env, ds, R, (exS_aft R h).imp fun d ds1 H1 e1 d1 q v hv => ⟨_, q1, ?_⟩⟩
    have R1 := R.go e1 d1
    refine ⟨Γ, env, ds1, R1, (exS_aft R1 q).imp fun k ds2 H2 e2 d2 q w hw => ?_⟩
    obtain ⟨us1, w1, w2, w3⟩ := R1.l_same e2 d2 q0 q1
    cases k with
    | int k =>
      cases hw
      dsimp only at q
      cases hj : ixN xs.length k with
      | none => rw [hj] at q; exact q.elim
      | some j =>
        rw [hj] at q
        refine ⟨a, us1, k, j, rfl, rfl, w1, by rw [w2.length]; exact hj, q _ _ ((R1.go e2 d2).upd_l q0 q1 (by rw [List.length_set]; exact w3) (w2.set j (hv.ext e2 d1)))⟩
    | _ => exact q.elim
theorem seqIndex_nat {k : Int} {n j : Nat} (h0 : 0 ≤ k) (h1 : k.toNat < n) (hj : k.toNat = j) : seqIndex? k n = some j := by
  have := ixN_seq (n := n) (i := k) (j := j) (by
    unfold ixN
    rw [if_pos h0, if_pos (by omega), hj])
  exact this.1
theorem DfAll.erase {g : Addr → Prop} : ∀ {us : List V} {xs : List PyData} (n : Nat), DfAll K H g us xs → DfAll K H g (us.eraseIdx n) (xs.eraseIdx n)
  | _, _, _, .nil => .nil
  | _, _, 0, .cons _ t => t
  | _, _, n + 1, .cons h t => .cons h (DfAll.erase n t)
theorem DfAll.dropLast {g : Addr → Prop} {us : List V} {xs : List PyData} (h : DfAll K H g us xs) : DfAll K H g us.dropLast xs.dropLast := by
  rw [List.dropLast_eq_take, List.dropLast_eq_take, h.length]
  exact h.take _
theorem ss_appPop (i j : Nat) {x y : Str} {p ap cp p2 ap2 cp2 ep : Pos} (he : SE X C W e me) (hN : X.N[i]? = some x := by rfl) (hv : Vis X.env.scope x := by first | exact Or.inl rfl | exact Or.inr (Or.inl rfl) | exact Or.inr (Or.inr rfl)) (hd : (x == ("__debug__" : Str)) = false := by decide) (hcd : (x == ("__classdict__" : Str)) = false := by decide)
    (hN2 : X.N[j]? = some y := by rfl) (hv2 : Vis X.env.scope y := by first | exact Or.inl rfl | exact Or.inr (Or.inl rfl) | exact Or.inr (Or.inr rfl)) (hd2 : (y == ("__debug__" : Str)) = false := by decide) (hcd2 : (y == ("__classdict__" : Str)) = false := by decide)
    (hbase : attributeBase (.Name x p) "append" X.env (eval (.Name x p) X.env) = eval (.Name x p) X.env := by rfl) (hbase2 : attributeBase (.Name y p2) "pop" X.env (eval (.Name y p2) X.env) = eval (.Name y p2) X.env := by rfl)
    (hfew : ((backTo cp (starEach [.Call (.Attribute (.Name y p2) "pop" ap2) [e] [] cp2] X.env)).all (fun x => !x.1) && (backToKw cp (keywordEach [] X.env)).all (fun x => x.1.isSome) && decide ([Expr.Call (.Attribute (.Name y p2) "pop" ap2) [e] [] cp2].length + ([] : List Keyword).length + (if ([] : List Keyword).isEmpty then 0 else 1) < 30)) = true := by rfl)
    (hfew2 : ((backTo cp2 (starEach [e] X.env)).all (fun x => !x.1) && (backToKw cp2 (keywordEach [] X.env)).all (fun x => x.1.isSome) && decide ([e].length + ([] : List Keyword).length + (if ([] : List Keyword).isEmpty then 0 else 1) < 30)) = true := by rfl)
    (hline : (ap.endLine == cp.line) = true := by rfl) (hline2 : (ap2.endLine == cp2.line) = true := by rfl) (hs2 : starEach (e :: []) X.env = (false, eval e X.env) :: starEach [] X.env := by rfl) (hplain2 : (backTo cp2 (starEach [] X.env)).any (·.1) = false := by rfl)
    (hs : starEach (Expr.Call (.Attribute (.Name y p2) "pop" ap2) [e] [] cp2 :: []) X.env = (false, eval (Expr.Call (.Attribute (.Name y p2) "pop" ap2) [e] [] cp2) X.env) :: starEach [] X.env := by rfl) (hplain : (backTo cp (starEach [] X.env)).any (·.1) = false := by rfl)
    (hsw : swapsWith (.Call (.Attribute (.Name x p) "append" ap) [.Call (.Attribute (.Name y p2) "pop" ap2) [e] [] cp2] [] cp) none ep.line X.env = pure false := by rfl) :
    SS X C W fr (.Expr (.Call (.Attribute (.Name x p) "append" ap) [.Call (.Attribute (.Name y p2) "pop" ap2) [e] [] cp2] [] cp) ep) (mAppPop i j me) :=
  PS.imp (ps_expr (pe_bm PySem.F.plainAttrs_list PySem.F.slot_list_append PySem.F.type_list_append mt_append (pe_var hN hv hd hcd) (pa_cons (pe_bm PySem.F.plainAttrs_list PySem.F.slot_list_pop PySem.F.type_list_pop mt_popAt (pe_var hN2 hv2 hd2 hcd2) (pa_cons he pa_nil hs2) hbase2 hfew2 hline2 hs2 hplain2) pa_nil hs) hbase hfew hline hs hplain) hsw) fun D σ H ⟨Γ, env, ds, R, h⟩ => by
    obtain ⟨xs, q0, h⟩ := onL_aft h
    obtain ⟨ys, r0, h⟩ := onL_aft h
    obtain ⟨a, us, q1, q2, q3, q4⟩ := R.l_at q0
    obtain ⟨b, ws, r1, r2, r3, r4⟩ := R.l_at r0
    refine ⟨_, q1, tyV_list q2, ?_⟩
    refine ⟨_, r1, tyV_list r2, Γ, env, ds, R, (exS_aft R h).imp fun d ds1 H1 e1 d1 q v hv => ?_⟩
    have R1 := R.go e1 d1
    cases d with
    | int k =>
      cases hv
      dsimp only at q
      by_cases hc : (decide (0 ≤ k ∧ k < 2 ^ 62) && decide (i ≠ j) && decide (xs.length < sizeLine)) = true
      · rw [if_pos hc] at q
        rw [Bool.and_eq_true, Bool.and_eq_true] at hc
        have hk := of_decide_eq_true hc.1.1
        have hij : i ≠ j := of_decide_eq_true hc.1.2
        have hl := of_decide_eq_true hc.2
        cases hy : ys[k.toNat]? with
        | none => rw [hy] at q; exact q.elim
        | some y =>
          rw [hy] at q
          dsimp only at q
          obtain ⟨us1, w1, w2, w3⟩ := R.l_same e1 d1 q0 q1
          obtain ⟨ws1, z1, z2, z3⟩ := R.l_same e1 d1 r0 r1
          obtain ⟨vy, y1, y2⟩ := z2.get hy
          have hn : k.toNat < ys.length := (List.getElem?_eq_some_iff.mp hy).1
          refine ⟨b, ws1, k, k.toNat, vy, rfl, rfl, z1, by omega, by omega, seqIndex_nat hk.1 (by rw [z2.length]; exact hn) rfl, y1, ?_⟩
          have hle : (ws1.eraseIdx k.toNat).length ≤ sizeLine := Nat.le_trans (List.length_eraseIdx_le ..) z3
          have R2 := R1.upd_l r0 r1 hle (z2.erase k.toNat)
          have q0' : (env.set j (.l (ys.eraseIdx k.toNat)))[i]? = some (.l xs) := by rw [List.getElem?_set_ne hij.symm]; exact q0
          obtain ⟨a', us2, f1, f2, f3, f4⟩ := R2.l_at q0'
          rw [q1] at f1
          cases f1
          have ln := f3.length
          have ob : owned σ env b := ⟨j, _, r0, rfl, r1⟩
          have nb : ∀ c, gd Γ σ env c → c ≠ b := fun c g z => g.2.1 (by rw [z]; exact ob)
          have ow : ∀ c, owned σ (env.set j (.l (ys.eraseIdx k.toNat))) c → owned σ env c := by
            rintro c ⟨l, s, w1, w2, w3⟩
            by_cases z : j = l
            · subst z; exact ⟨j, _, r0, rfl, w3⟩
            · rw [List.getElem?_set_ne z] at w1; exact ⟨l, s, w1, w2, w3⟩
          have tq : ∀ c u, SqT X.K H1 c u → SqT X.K (upd H1 b (.lst (ws1.eraseIdx k.toNat))) c u := by
            intro c u t
            rcases t with (t | ⟨o, t⟩) | t
            · refine .inl (.inl ?_); rw [upd_ne (ne_of t z1 (by intro z; cases z))]; exact t
            · refine .inl (.inr ⟨o, ?_⟩); rw [upd_ne (ne_of t z1 (by intro z; cases z))]; exact t
            · exact .inr t
          have vy' : Df X.K (upd H1 b (.lst (ws1.eraseIdx k.toNat))) (gd Γ σ (env.set j (.l (ys.eraseIdx k.toNat)))) vy y :=
            y2.mono (fun c u g k => ⟨⟨g.1, fun w => g.2.1 (ow c w), g.2.2⟩, by rw [upd_ne (nb c g)]; exact k⟩) tq
          refine ⟨a, us2, vy, rfl, rfl, f2, by rw [ln]; exact hl, q _ _ (R2.upd_l q0' q1 (by rw [List.length_append, ln]; exact hl) (f3.append (.cons vy' .nil)))⟩
      · rw [if_neg hc] at q
        exact q.elim
    | _ => exact q.elim
end
end DL

/-! DL10: the script, the draw, calls of defs, the rule for a def, try. -/
namespace DL
open PySem PySem.Spec L2
open PyProof.Rows hiding St

section
variable {X : Cx} {C : Exs} {W : WX} {fr : Bool} {tg e : Expr} {me : ME PyData} {K : PySem.W.Frag} {Γ : Gm} {σ : St} {H : Hp} {env : Ev} {ds : DS}
/-! ### the script -/
def mScr (i : Nat) : ME (List PyData) := fun env ds => match env[i]? with
  | some (.scr ns) => some (.ok (ns.map .int), ds)
  | _ => none
theorem kept_scr {H2 : Hp} (R : Rel K Γ σ H env ds) (k : Kept Γ σ env H H2) {a : Addr} {xs : List V} (h : ScrAt K H a xs) : ScrAt K H2 a xs := by
  rcases h with ⟨o, h⟩ | h
  · obtain ⟨n1, n2⟩ := kept_nd R h (by intro xs z; cases z)
    exact .inl ⟨o, k a _ n1 n2 (fun _ z => by cases z) h⟩
  · exact .inr h
theorem si_scr (i : Nat) {x : Str} {p : Pos} (hN : X.N[i]? = some x := by rfl) (hv : Vis X.env.scope x := by first | exact Or.inl rfl | exact Or.inr (Or.inl rfl) | exact Or.inr (Or.inr rfl)) (hd : (x == ("__debug__" : Str)) = false := by decide) (hcd : (x == ("__classdict__" : Str)) = false := by decide) : SI X C W tg (.Name x p) (mScr i) :=
  PI.imp (pi_list (pe_var hN hv hd hcd)) fun σ H Q ⟨Γ, env, ds, R, h⟩ => by
    unfold mScr at h
    rcases q : env[i]? with _ | y
    · rw [q] at h; exact h.elim
    · rw [q] at h
      have s := R.slot i _ q
      cases y with
      | scr ns =>
        obtain ⟨a, e1, e2, e3⟩ := s
        refine ⟨_, e1, a, rfl, ⟨_, e2.sq⟩, Aft.here h R.draw _ fun H2 k => ?_⟩
        have s2 := kept_scr R k e2
        refine ⟨fun j hj => ?_, fun j x H' hj q => ?_, fun j hj => ⟨_, s2.sq, by rw [List.length_map] at hj ⊢; exact hj⟩⟩
        · rw [List.length_map] at hj
          exact ⟨_, .int ns[j], s2.sq, by rw [List.getElem?_map, List.getElem?_eq_getElem hj]; rfl⟩
        · obtain ⟨rfl, q⟩ := q
          rw [List.length_map] at hj
          have q := q _ s2.sq
          rw [List.getElem?_map, List.getElem?_eq_getElem hj] at q
          cases q
          exact ⟨.int ns[j], by rw [List.getElem?_map, List.getElem?_eq_getElem hj]; rfl, fun _ _ z => z, .int _⟩
      | _ => exact h.elim

/-! ### the draw -/
def drGet (s : DSt) : Nat → Option PyData
  | 0 => some (.list (s.cells.map .int))
  | 1 => some (.int s.place)
  | 2 => some (.int s.cur)
  | 3 => some (.int s.seed)
  | _ => none
def drSet (s : DSt) : Nat → Int → Option DSt
  | 1, i => some { s with place := i }
  | 2, i => some { s with cur := i }
  | 3, i => some { s with seed := i }
  | _, _ => none
def mDrw (i k : Nat) : ME PyData := fun env ds => match env[i]?, ds with
  | some .drw, some s => match drGet s k with
    | some x => some (.ok x, ds)
    | none => none
  | _, _ => none
def mDrwSet (i k : Nat) (a : ME PyData) : MS := exS a fun x env ds => match env[i]?, ds, x with
  | some .drw, some s, .int j => match drSet s k j with
    | some s' => some (.nx env, some s')
    | none => none
  | _, _, _ => none
theorem Rel.drw (R : Rel K Γ σ H env ds) {i : Nat} (h : env[i]? = some .drw) : ∃ p s, Γ.dr = some p ∧ ds = some s ∧ σ[i]? = some (some (V.ref p.1)) ∧ H p.1 = some (.lst [.ref p.2, .int s.place, .int s.cur, .int s.seed]) ∧ H p.2 = some (.lst (s.cells.map V.int)) ∧ s.cells.length ≤ sizeLine ∧ p.2 ≠ p.1 ∧ gd Γ σ env p.2 := by
  obtain ⟨p, e1, e2⟩ := R.slot i _ h
  have d := R.draw
  have dc := R.drc p e1
  unfold DrR at d
  rw [e1] at d
  cases ds with
  | none => exact d.elim
  | some s =>
    refine ⟨p, s, e1, rfl, e2, d.1, d.2.1, d.2.2.1, d.2.2.2.1, d.2.2.2.2, dc, fun q e z => ?_⟩
    rw [e1] at e
    cases e
    exact d.2.2.2.1 z
theorem se_drw (i k : Nat) {x : Str} {p p2 pos : Pos} {j : Nat} (hN : X.N[i]? = some x := by rfl) (hv : Vis X.env.scope x := by first | exact Or.inl rfl | exact Or.inr (Or.inl rfl) | exact Or.inr (Or.inr rfl)) (hd : (x == ("__debug__" : Str)) = false := by decide) (hcd : (x == ("__classdict__" : Str)) = false := by decide)
    (hs : PlainIx (.Constant (.int k) j p2) := by exact fun _ _ => rfl) : SE X C W (.Subscript (.Name x p) (.Constant (.int k) j p2) pos) (mDrw i k) :=
  PE.imp (pe_ix ix_list (pe_var hN hv hd hcd) pe_int hs) fun σ H Q ⟨Γ, env, ds, R, h⟩ => by
    unfold mDrw at h
    rcases q : env[i]? with _ | y
    · rw [q] at h; exact h.elim
    · rw [q] at h
      cases y with
      | drw =>
        obtain ⟨p, s, e1, rfl, e2, e3, e4, e5, e6, e7⟩ := R.drw q
        dsimp only at h
        cases g : drGet s k with
        | none => rw [g] at h; exact h.elim
        | some x =>
          rw [g] at h
          have fin := Aft.here h R.draw
          have go : ∀ v, atI [V.ref p.2, .int s.place, .int s.cur, .int s.seed] ((k : Nat) : Int) = some v → Df X.K H (gd Γ σ env) v x → _ := fun v e h => (⟨_, e2, p.1, _, _, v, rfl, rfl, SqL.of e3, e, fin v h⟩ : tOp (rIxL X.K) (tVar i) (tC (V.int k)) σ H Q)
          match k, g with
          | 0, g => cases g; exact go _ rfl (.lst e7 e4 (by rw [List.length_map]; exact e5) (DfAll.of_ints _))
          | 1, g => cases g; exact go _ rfl (.int _)
          | 2, g => cases g; exact go _ rfl (.int _)
          | 3, g => cases g; exact go _ rfl (.int _)
          | _ + 4, g => cases g
      | _ => exact h.elim
theorem ss_drwSet (i k : Nat) {x : Str} {p p2 sp pos : Pos} {j : Nat} (he : SE X C W e me) (hN : X.N[i]? = some x := by rfl) (hv : Vis X.env.scope x := by first | exact Or.inl rfl | exact Or.inr (Or.inl rfl) | exact Or.inr (Or.inr rfl)) (hd : (x == ("__debug__" : Str)) = false := by decide) (hcd : (x == ("__classdict__" : Str)) = false := by decide)
    (ha : ∀ v, assign (.Subscript (.Name x p) (.Constant (.int k) j p2) sp) X.env v = (do
      let ov ← holding [v] (eval (.Name x p) X.env)
      let iv ← holding [v, ov] (eval (.Constant (.int k) j p2) X.env)
      standAt sp
      holding [v, ov, iv] (setItem ov iv v)
      release [v, ov, iv] []) := by intro _; rfl)
    (hs : swapsWithSole [.Subscript (.Name x p) (.Constant (.int k) j p2) sp] e pos.line X.env = pure false := by rfl) (hw : swappedStores [.Subscript (.Name x p) (.Constant (.int k) j p2) sp] e X.env = pure none := by rfl)
    (h1 : (assignEach [.Subscript (.Name x p) (.Constant (.int k) j p2) sp] X.env).map (·.2) = [assign (.Subscript (.Name x p) (.Constant (.int k) j p2) sp) X.env] := by rfl) :
    SS X C W fr (.Assign [.Subscript (.Name x p) (.Constant (.int k) j p2) sp] e pos) (mDrwSet i k me) :=
  PS.imp (ps_asg he (pg_sub (pe_var hN hv hd hcd) pe_int set_list ha) hs hw h1) fun D σ H ⟨Γ, env, ds, R, h⟩ => ⟨Γ, env, ds, R, (exS_aft R h).imp fun d ds1 H1 x1 d1 h v hv => by
    have R1 := R.go x1 d1
    rcases q : env[i]? with _ | y
    · rw [q] at h; exact h.elim
    · rw [q] at h
      cases y with
      | drw =>
        obtain ⟨p, s, e1, rfl, e2, e3, e4, e5, e6, e7⟩ := R1.drw q
        cases d with
        | int n =>
          cases hv
          dsimp only at h
          cases g : drSet s k n with
          | none => rw [g] at h; exact h.elim
          | some s' =>
            rw [g] at h
            have go : ∀ l, l < 4 → k = l → ([V.ref p.2, .int s.place, .int s.cur, .int s.seed].set l (.int n) = [V.ref p.2, .int s'.place, .int s'.cur, .int s'.seed]) → s'.cells = s.cells → (gSub (tVar i) (tC (V.int k)) rSetL (V.int n) σ H1 D.nx) := fun l hl hk hs hc => by
              refine ⟨_, e2, p.1, _, _, l, rfl, rfl, e3, ?_, ?_⟩
              · unfold ixN
                subst hk
                show (if (0 : Int) ≤ ((k : Nat) : Int) then (if ((k : Nat) : Int) < ((4 : Nat) : Int) then some ((k : Nat) : Int).toNat else none) else _) = some k
                rw [if_pos (by omega), if_pos (by omega)]
                rfl
              · rw [hs]
                refine h σ _ (R1.go (fun a o n q => ?_) ?_)
                · rw [upd_ne (n p e1)]; exact q
                · unfold DrR
                  rw [e1]
                  exact ⟨upd_same, by rw [upd_ne e6, hc]; exact e4, by rw [hc]; exact e5, e6, e7.1⟩
            match k, g with
            | 0, g => cases g
            | 1, g => cases g; exact go 1 (by decide) rfl rfl rfl
            | 2, g => cases g; exact go 2 (by decide) rfl rfl rfl
            | 3, g => cases g; exact go 3 (by decide) rfl rfl rfl
            | _ + 4, g => cases g
        | _ => exact h.elim
      | _ => exact h.elim⟩
end

/-! ### calls -/
def ArgR (K : PySem.W.Frag) (Γ : Gm) (g : Addr → Prop) (H : Hp) (v : V) : Sl → Prop
  | .d x => Df K H g v x
  | .drw => ∃ p, Γ.dr = some p ∧ v = .ref p.1
  | .scr ns => ∃ a, v = .ref a ∧ ScrAt K H a (ns.map V.int) ∧ ns.length ≤ 63
  | _ => False
inductive ArgsR (K : PySem.W.Frag) (Γ : Gm) (g : Addr → Prop) (H : Hp) : List V → List Sl → Prop
  | nil : ArgsR K Γ g H [] []
  | cons {v : V} {x : Sl} {vs : List V} {xs : List Sl} : ArgR K Γ g H v x → ArgsR K Γ g H vs xs → ArgsR K Γ g H (v :: vs) (x :: xs)
abbrev FS := List Sl → DS → Rz PyData
/-- what a def promises -/
def spD (K : PySem.W.Frag) (C : Exs) (fr : Bool) (np : Nat) (f : FS) : Sp := fun vs H Q E => ∃ Γ args ds, Γ.H0 = H ∧ Γ.lk = [] ∧ (∀ a, H a = none → Γ.ok a) ∧ DrR K Γ H ds ∧ ArgsR K Γ (fun a => Γ.ok a ∧ Γ.nd a) H vs args ∧ args.length = np ∧
  match f args ds with
  | some (.ok d, ds') => ∀ v H', RetR fr K Γ H' ds' v d → Q v H'
  | some (.exc x, ds') => ∀ cls dd H', Ext Γ H H' → DrR K Γ H' ds' → ExR C x cls dd H' → E cls dd H'
  | none => False
def runB (nN np : Nat) (fr : Bool) (m : MS) : FS := fun args ds => match m (args ++ List.replicate (nN - np) .un) ds with
  | some (.rt d, ds') => some (.ok d, ds')
  | some (.nx _, ds') => if fr then none else some (.ok .none, ds')
  | some (.ex x _, ds') => some (.exc x, ds')
  | _ => none
theorem ArgsR.length {K : PySem.W.Frag} {Γ : Gm} {g : Addr → Prop} {H : Hp} {vs : List V} {xs : List Sl} (h : ArgsR K Γ g H vs xs) : vs.length = xs.length := by
  induction h with
  | nil => rfl
  | cons _ _ ih => rw [List.length_cons, List.length_cons, ih]
theorem ArgsR.get {K : PySem.W.Frag} {Γ : Gm} {g : Addr → Prop} {H : Hp} {vs : List V} {xs : List Sl} (h : ArgsR K Γ g H vs xs) : ∀ (i : Nat) (x : Sl), xs[i]? = some x → ∃ v, vs[i]? = some v ∧ ArgR K Γ g H v x := by
  induction h with
  | nil => intro i x q; simp at q
  | cons a _ ih =>
    intro i x q
    cases i with
    | zero =>
      simp at q
      subst q
      exact ⟨_, rfl, a⟩
    | succ i =>
      obtain ⟨v, q1, q2⟩ := ih i x (by simpa using q)
      exact ⟨v, by simpa using q1, q2⟩
theorem ArgsR.own {K : PySem.W.Frag} {Γ : Gm} {g : Addr → Prop} {H : Hp} {vs : List V} {xs : List Sl} (h : ArgsR K Γ g H vs xs) {n : Nat} {i : Nat} {x : Sl} (q : (xs ++ List.replicate n .un)[i]? = some x) : x.own = false := by
  by_cases hi : i < xs.length
  · rw [List.getElem?_append_left hi] at q
    obtain ⟨v, _, a⟩ := h.get i x q
    cases x with
    | l _ => exact a.elim
    | lk _ => exact a.elim
    | _ => rfl
  · rw [List.getElem?_append_right (by omega)] at q
    rw [List.getElem?_replicate] at q
    split at q
    · cases q; rfl
    · cases q
section
variable {K : PySem.W.Frag} {Γ : Gm} {H : Hp} {ds : DS}
theorem rel_start {vs : List V} {args : List Sl} {N : List Str} (h0 : Γ.H0 = H) (hk : Γ.lk = []) (ho : ∀ a, H a = none → Γ.ok a) (hd : DrR K Γ H ds) (ha : ArgsR K Γ (fun a => Γ.ok a ∧ Γ.nd a) H vs args) : Rel K Γ (L2.start N vs) H (args ++ List.replicate (N.length - args.length) .un) ds := by
  have ln := ha.length
  have no : ∀ a, ¬ owned (L2.start N vs) (args ++ List.replicate (N.length - args.length) Sl.un) a := fun a ⟨i, x, q1, q2, _⟩ => by
    rw [ha.own q1] at q2
    cases q2
  have gg : ∀ a, Γ.ok a ∧ Γ.nd a → gd Γ (L2.start N vs) (args ++ List.replicate (N.length - args.length) Sl.un) a := fun a q => ⟨q.1, no a, q.2⟩
  refine ⟨?_, fun i x q => ?_, fun i j x y _ hi _ oi _ => ?_, fun a q => ho a (by rw [← h0]; exact q), by rw [h0]; exact Ext.refl, hd, fun p _ => no _, fun p hp => by rw [hk] at hp; cases hp⟩
  · unfold L2.start
    rw [List.length_append, List.length_append, List.length_map, List.length_replicate, List.length_replicate, ln]
  · by_cases hi : i < args.length
    · rw [List.getElem?_append_left hi] at q
      obtain ⟨v, e, a⟩ := ha.get i x q
      have es : (L2.start N vs)[i]? = some (some v) := by
        unfold L2.start
        rw [List.getElem?_append_left (by rw [List.length_map, ln]; exact hi), List.getElem?_map, e]
        rfl
      rw [es]
      cases x with
      | d y => exact ⟨v, rfl, (show Df K H _ v y from a).mono (fun a u z k => ⟨gg a z, k⟩) fun _ _ z => z⟩
      | drw =>
        obtain ⟨p, e1, e2⟩ := a
        exact ⟨p, e1, by rw [e2]⟩
      | scr ns =>
        obtain ⟨b, e1, e2, e3⟩ := a
        exact ⟨b, by rw [e1], e2, e3⟩
      | un => trivial
      | l _ => exact a.elim
      | lk _ => exact a.elim
    · rw [List.getElem?_append_right (by omega), List.getElem?_replicate] at q
      split at q
      · cases q; trivial
      · cases q
  · rw [ha.own hi] at oi
    cases oi
end
/-- THE RULE FOR A DEF: its body by its meaning -/
theorem Fun.okD {P : Program} {w : World} {K : PySem.W.Frag} {mg : Str → Option Value} {base : Heap} {x qual : Str} {st : Stmt} {f : Addr} {fd : FuncData} {N ps : List Str} {k : Nat} {C : Exs} {fr : Bool} {m : MS} (F : Fun K x qual st f fd) (S : FnScope N ps (defScope st))
    (hbody : ∀ (cdv : Value) (A : Around) (outer : List Env) (s : Shared) (H : Hp) (E : XK), Room k (A.deeper (envOfC qual (defScope st) s.heap.objs.size f cdv)) →
      SSs (cxOf (L2.CX P w) P w K mg base N qual (defScope st) f cdv A outer s H E) C (fun cls d _ H' => E cls d H') fr (defBody st) m) :
    FnOk P w K mg base (L2.CX P w) (k + 1) f fd ps (spD K C fr ps.length (runB N.length ps.length fr m)) := by
  refine F.okX S (fun vs H Q E h => ?_) (fun cdv A outer s H vs Q E hr h => ?_)
  · obtain ⟨Γ, args, ds, _, _, _, _, ha, hl, _⟩ := h
    exact ha.length.trans hl
  · obtain ⟨Γ, args, ds, h0, hk, ho, hd, ha, hl, h⟩ := h
    refine ⟨_, hbody cdv A outer s H E hr, Γ, _, ds, rel_start h0 hk ho hd ha, ?_⟩
    unfold runB at h
    rw [← hl] at h
    rcases q : m (args ++ List.replicate (N.length - args.length) Sl.un) ds with _ | ⟨fl, ds'⟩
    · rw [q] at h; exact h
    · rw [q] at h
      cases fl with
      | nx e =>
        dsimp only at h
        cases fr with
        | true => exact h.elim
        | false =>
          rw [if_neg Bool.false_ne_true] at h
          exact fun σ' H' R' => h .non H' ⟨R'.ext, R'.draw, .non⟩
      | bk e => exact h.elim
      | ct e => exact h.elim
      | rt d => exact h
      | ex x e => exact fun cls dd σ' H' R' hx => h cls dd H' (by have := R'.ext; rw [h0] at this; exact this) R'.draw hx
/-- good as an argument; b: one's own lists are too -/
def gb (Γ : Gm) (σ : St) (env : Ev) (b : Bool) (a : Addr) : Prop := (b = true ∧ Γ.nd a) ∨ gd Γ σ env a
theorem gb.nd {Γ : Gm} {σ : St} {env : Ev} {b : Bool} {a : Addr} (h : gb Γ σ env b a) : Γ.nd a := h.elim (fun z => z.2) fun z => z.2.2
def rdAx (K : PySem.W.Frag) (C : Exs) (W : WX) (b : Bool) (m : ME (List Sl)) : TA := fun σ H Q => ∃ Γ env ds, Rel K Γ σ H env ds ∧
  Aft K C W Γ σ H (m env ds) fun xs _ H' => ∀ vs, ArgsR K Γ (gb Γ σ env b) H' vs xs → Q vs H'
/-- arguments; b: one's own lists may be among them -/
abbrev SAx (X : Cx) (C : Exs) (W : WX) (b : Bool) (es : List Expr) (m : ME (List Sl)) : Prop := PA X es (rdAx X.K C W b m)
def axNil : ME (List Sl) := ME.pure []
def axD (a : ME PyData) (r : ME (List Sl)) : ME (List Sl) := a.bind fun x => r.bind fun xs => ME.pure (.d x :: xs)
def axV (i : Nat) (r : ME (List Sl)) : ME (List Sl) := fun env ds => match env[i]? with
  | some .drw => (r env ds).bind fun xs ds' => some (.ok (.drw :: xs), ds')
  | some (.scr ns) => (r env ds).bind fun xs ds' => some (.ok (.scr ns :: xs), ds')
  | _ => none
/-! no list within -/
mutual
def noL : PyData → Bool
  | .list _ => false
  | .dict _ => false
  | .tuple xs => noLs xs
  | _ => true
def noLs : List PyData → Bool
  | [] => true
  | x :: r => noL x && noLs r
end
mutual
theorem Df.noL {K : PySem.W.Frag} {H : Hp} {g g' : Addr → Prop} : ∀ {d : PyData} {v : V}, Df K H g v d → DL.noL d = true → Df K H g' v d
  | _, _, .non, _ => .non
  | _, _, .bl b, _ => .bl b
  | _, _, .int i, _ => .int i
  | _, _, .str x, _ => .str x
  | _, _, .lst _ _ _ _, h => by cases h
  | _, _, .tup h1 h2 h3, h => .tup h1 h2 (DfAll.noL h3 h)
theorem DfAll.noL {K : PySem.W.Frag} {H : Hp} {g g' : Addr → Prop} : ∀ {ds : List PyData} {vs : List V}, DfAll K H g vs ds → noLs ds = true → DfAll K H g' vs ds
  | _, _, .nil, _ => .nil
  | _, _, .cons h1 h2, h => by
    unfold noLs at h
    rw [Bool.and_eq_true] at h
    exact .cons (Df.noL h1 h.1) (DfAll.noL h2 h.2)
end
def mCall (f : FS) (a : ME (List Sl)) : ME PyData := a.bind fun args _ ds => f args ds
def mCallP (f : FS) (a : ME (List Sl)) : ME PyData := a.bind fun args _ ds => (f args ds).bind fun d ds' => if noL d then some (.ok d, ds') else none
def mCallF (f : FS) (a : ME (List Sl)) : ME (List PyData) := a.bind fun args _ ds => (f args ds).bind fun d ds' => match d with
  | .list xs => some (.ok xs, ds')
  | _ => none
section
variable {X : Cx} {C : Exs} {W : WX} {e : Expr} {es : List Expr} {me : ME PyData} {ma : ME (List Sl)} {M : Md} {b : Bool}
theorem sax_nil : SAx X C W b [] axNil := PA.imp pa_nil fun σ H Q ⟨Γ, env, ds, R, h⟩ => Aft.here h R.draw _ .nil
theorem sax_d (he : SE X C W e me) (hr : SAx X C W b es ma) (hs : starEach (e :: es) X.env = (false, eval e X.env) :: starEach es X.env := by rfl) : SAx X C W b (e :: es) (axD me ma) :=
  PA.imp (pa_cons he hr hs) fun σ H Q ⟨Γ, env, ds, R, h⟩ => ⟨Γ, env, ds, R, h.bind.imp fun d ds1 H1 e1 d1 q x hx => ⟨Γ, env, ds1, R.go e1 d1, q.bind.imp fun xs ds2 H2 e2 d2 q vs hv =>
    Aft.here q d2 _ (.cons ((Df.ext e2 d1 hx).mono (fun a u z k => ⟨.inr z, k⟩) fun _ _ z => z) hv)⟩⟩
/-- one's own list in passing, as an argument -/
theorem sax_p (he : SP X C W e me) (hr : SAx X C W true es ma) (hs : starEach (e :: es) X.env = (false, eval e X.env) :: starEach es X.env := by rfl) : SAx X C W true (e :: es) (axD me ma) :=
  PA.imp (pa_cons he hr hs) fun σ H Q ⟨Γ, env, ds, R, h⟩ => ⟨Γ, env, ds, R, h.bind.imp fun d ds1 H1 e1 d1 q x hx => ⟨Γ, env, ds1, R.go e1 d1, q.bind.imp fun xs ds2 H2 e2 d2 q vs hv => by
    refine Aft.here q d2 _ (.cons ?_ hv)
    rcases persP.ext e2 d1 hx with w | ⟨a, us, ds', w1, w2, w3, w4, w5, w6⟩
    · exact (show Df X.K H2 _ x d from w).mono (fun a u z k => ⟨.inr z, k⟩) fun _ _ z => z
    · subst w1 w2
      exact .lst (.inl ⟨rfl, w4⟩) w3 w5 (w6.mono (fun a u z k => ⟨.inr z, k⟩) fun _ _ z => z)⟩⟩
theorem sax_v (i : Nat) {x : Str} {p : Pos} (hr : SAx X C W b es ma) (hN : X.N[i]? = some x := by rfl) (hv : Vis X.env.scope x := by first | exact Or.inl rfl | exact Or.inr (Or.inl rfl) | exact Or.inr (Or.inr rfl)) (hd : (x == ("__debug__" : Str)) = false := by decide) (hcd : (x == ("__classdict__" : Str)) = false := by decide)
    (hs : starEach (.Name x p :: es) X.env = (false, eval (.Name x p) X.env) :: starEach es X.env := by rfl) : SAx X C W b (.Name x p :: es) (axV i ma) :=
  PA.imp (pa_cons (pe_var hN hv hd hcd) hr hs) fun σ H Q ⟨Γ, env, ds, R, h⟩ => by
    unfold axV at h
    rcases q : env[i]? with _ | y
    · rw [q] at h; exact h.elim
    · rw [q] at h
      have s := R.slot i _ q
      cases y with
      | drw =>
        obtain ⟨p, e1, e2⟩ := s
        exact ⟨_, e2, Γ, env, ds, R, (Aft.bind h).imp fun xs ds2 H2 x2 d2 q vs hv => Aft.here q d2 _ (.cons ⟨p, e1, rfl⟩ hv)⟩
      | scr ns =>
        obtain ⟨a, e1, e2, e3⟩ := s
        exact ⟨_, e1, Γ, env, ds, R, (Aft.bind h).imp fun xs ds2 H2 x2 d2 q vs hv => Aft.here q d2 _ (.cons ⟨a, rfl, scr_ext x2 R.draw e2, e3⟩ hv)⟩
      | _ => exact h.elim
theorem ArgsR.to {K : PySem.W.Frag} {Γ Γ' : Gm} {g g' : Addr → Prop} {H : Hp} {vs : List V} {xs : List Sl} (h : ArgsR K Γ g H vs xs) (hd : Γ'.dr = Γ.dr) (hg : ∀ a u, H a = some (.lst u) → g a → g' a) : ArgsR K Γ' g' H vs xs := by
  induction h with
  | nil => exact .nil
  | @cons v x vs xs a _ ih =>
    refine .cons ?_ ih
    cases x with
    | d y => exact (show Df K H g v y from a).mono (fun b u z k => ⟨hg b u k z, k⟩) fun _ _ z => z
    | drw =>
      obtain ⟨p, e1, e2⟩ := a
      exact ⟨p, by rw [hd]; exact e1, e2⟩
    | scr ns => exact a
    | un => exact a
    | l _ => exact a
    | lk _ => exact a
theorem DrR.to {K : PySem.W.Frag} {Γ Γ' : Gm} {H : Hp} {ds : DS} (h : DrR K Γ H ds) (hd : Γ'.dr = Γ.dr) (ho : ∀ p, Γ.dr = some p → Γ'.ok p.2) : DrR K Γ' H ds := by
  unfold DrR at h ⊢
  rw [hd]
  cases q : Γ.dr with
  | none =>
    rw [q] at h
    cases ds with
    | none => trivial
    | some s => exact h
  | some p =>
    rw [q] at h
    cases ds with
    | none => exact h
    | some s => exact ⟨h.1, h.2.1, h.2.2.1, h.2.2.2.1, ho p q⟩
theorem DrR.okp {K : PySem.W.Frag} {Γ : Gm} {H : Hp} {ds : DS} (h : DrR K Γ H ds) (p : Addr × Addr) (e : Γ.dr = some p) : Γ.ok p.2 ∧ p.2 ≠ p.1 := by
  unfold DrR at h
  rw [e] at h
  cases ds with
  | none => exact h.elim
  | some s => exact ⟨h.2.2.2.2, h.2.2.2.1⟩
/-- the callee's ground -/
def Gm.call (Γ : Gm) (H : Hp) (ok : Addr → Prop) : Gm := { Γ with H0 := H, ok := ok, lk := [] }
theorem gd_cell {K : PySem.W.Frag} {Γ : Gm} {σ : St} {H : Hp} {env : Ev} {ds : DS} (R : Rel K Γ σ H env ds) (p : Addr × Addr) (e : Γ.dr = some p) : gd Γ σ env p.2 :=
  ⟨(R.draw.okp p e).1, R.drc p e, fun q e2 z => by rw [e] at e2; cases e2; exact (R.draw.okp p e).2 z⟩
theorem call_rd {K : PySem.W.Frag} {fr b : Bool} {np : Nat} {f : FS} {Γ : Gm} {σ : St} {H1 : Hp} {env : Ev} {ds1 : DS} {vs : List V} {args : List Sl} {Q : VK} {E : XK} (R1 : Rel K Γ σ H1 env ds1) (ha : ArgsR K Γ (gb Γ σ env b) H1 vs args) (hn : args.length = np)
    (h : match f args ds1 with
      | some (.ok d, ds') => ∀ v H', Ext Γ H1 H' → DrR K Γ H' ds' → RetR fr K (Γ.call H1 (gb Γ σ env b)) H' ds' v d → Q v H'
      | some (.exc x, ds') => ∀ cls dd H', Ext Γ H1 H' → DrR K Γ H' ds' → ExR C x cls dd H' → E cls dd H'
      | none => False) : spD K C fr np f vs H1 Q E := by
  refine ⟨Γ.call H1 (gb Γ σ env b), args, ds1, rfl, rfl, fun a q => .inr (R1.new_gd q), R1.draw.to rfl fun p e => .inr (gd_cell R1 p e), ha.to rfl fun a u k z => ⟨z, z.nd⟩, hn, ?_⟩
  rcases q : f args ds1 with _ | ⟨d | x, ds'⟩
  · rw [q] at h; exact h
  · rw [q] at h
    exact fun v H' r => h v H' r.1 (r.2.1.to rfl fun p e => (R1.draw.okp p e).1) r
  · rw [q] at h
    exact fun cls dd H' e d hx => h cls dd H' e (d.to rfl fun p e => (R1.draw.okp p e).1) hx
/-- so many arguments -/
def chk (np : Nat) (f : FS) : FS := fun args ds => if args.length = np then f args ds else none
theorem chk_rd {K : PySem.W.Frag} {fr : Bool} {np : Nat} {f : FS} {vs : List V} {H : Hp} {Q : VK} {E : XK} {Γ : Gm} {σ : St} {env : Ev} {ds : DS} {args : List Sl} {b : Bool} {α : Type} {g : PyData → DS → Rz α} {P : α → DS → Hp → Prop} (h : Aft K C W Γ σ H ((chk np f args ds).bind g) P) : args.length = np ∧ Aft K C W Γ σ H ((f args ds).bind g) P := by
  unfold chk at h
  by_cases q : args.length = np
  · rw [if_pos q] at h; exact ⟨q, h⟩
  · rw [if_neg q] at h; exact h.elim
variable {k np : Nat} {fa : Addr} {fd : FuncData} {ps : List Str} {x : Str} {p pos : Pos} {f : FS}
theorem se_call (F : FnOk X.prog X.w X.K X.mg X.base (L2.CX X.prog X.w) k fa fd ps (spD X.K C false np f)) (hr : Room k X.A) (hm : X.mg x = some (.ref fa)) (hk : PySem.W.keepIn X.K (.ref fa) = true) (hb : Binds X.K fd ps []) (tk : Takes X W) (ha : SAx X C W false (e :: es) ma) (hg : Gl X x := by rfl)
    (hdb : (x == ("__debug__" : Str)) = false := by decide) (he : starEach (e :: es) X.env = (false, eval e X.env) :: starEach es X.env := by rfl) (hpl : (backTo pos (starEach es X.env)).any (·.1) = false := by rfl) : SE X C W (.Call (.Name x p) (e :: es) [] pos) (mCall (chk np f) ma) :=
  PE.imp (pe_callS F hr hg hm hk hb (fun σ => passAt tk σ) ha hdb he hpl) fun σ H Q ⟨Γ, env, ds, R, h⟩ => ⟨Γ, env, ds, R, h.bind.imp fun args ds1 H1 e1 d1 q vs hv => by
    have R1 := R.go e1 d1
    have q : Aft X.K C W Γ σ H1 (chk np f args ds1) _ := q
    unfold chk at q
    by_cases hn : args.length = np
    · rw [if_pos hn] at q
      refine call_rd R1 hv hn ?_
      revert q
      unfold Aft
      rcases f args ds1 with _ | ⟨d | x, ds'⟩
      · exact id
      · intro q v H' e2 d2 r
        refine q H' e2 d2 v ((show Df X.K H' _ v d from r.2.2).mono (fun a u z k => ⟨z.1.elim (fun w => by cases w.1) id, k⟩) fun _ _ z => z)
      · exact fun q cls dd H' e2 d2 hx => q cls dd H' e2 d2 hx
    · rw [if_neg hn] at q
      exact q.elim⟩
theorem se_callP (F : FnOk X.prog X.w X.K X.mg X.base (L2.CX X.prog X.w) k fa fd ps (spD X.K C false np f)) (hr : Room k X.A) (hm : X.mg x = some (.ref fa)) (hk : PySem.W.keepIn X.K (.ref fa) = true) (hb : Binds X.K fd ps []) (tk : Takes X W) (ha : SAx X C W true (e :: es) ma) (hg : Gl X x := by rfl)
    (hdb : (x == ("__debug__" : Str)) = false := by decide) (he : starEach (e :: es) X.env = (false, eval e X.env) :: starEach es X.env := by rfl) (hpl : (backTo pos (starEach es X.env)).any (·.1) = false := by rfl) : SE X C W (.Call (.Name x p) (e :: es) [] pos) (mCallP (chk np f) ma) :=
  PE.imp (pe_callS F hr hg hm hk hb (fun σ => passAt tk σ) ha hdb he hpl) fun σ H Q ⟨Γ, env, ds, R, h⟩ => ⟨Γ, env, ds, R, h.bind.imp fun args ds1 H1 e1 d1 q vs hv => by
    have R1 := R.go e1 d1
    have q : Aft X.K C W Γ σ H1 ((chk np f args ds1).bind _) _ := q
    unfold chk at q
    by_cases hn : args.length = np
    · rw [if_pos hn] at q
      refine call_rd R1 hv hn ?_
      revert q
      unfold Aft Rz.bind
      rcases f args ds1 with _ | ⟨d | x, ds'⟩
      · exact id
      · dsimp only
        by_cases hl : noL d = true
        · rw [if_pos hl]
          intro q v H' e2 d2 r
          exact q H' e2 d2 v (Df.noL (show Df X.K H' _ v d from r.2.2) hl)
        · rw [if_neg hl]
          exact fun q => q.elim
      · exact fun q cls dd H' e2 d2 hx => q cls dd H' e2 d2 hx
    · rw [if_neg hn] at q
      exact q.elim⟩
theorem sf_call (F : FnOk X.prog X.w X.K X.mg X.base (L2.CX X.prog X.w) k fa fd ps (spD X.K C true np f)) (hr : Room k X.A) (hm : X.mg x = some (.ref fa)) (hk : PySem.W.keepIn X.K (.ref fa) = true) (hb : Binds X.K fd ps []) (tk : Takes X W) (ha : SAx X C W false (e :: es) ma) (hg : Gl X x := by rfl)
    (hdb : (x == ("__debug__" : Str)) = false := by decide) (he : starEach (e :: es) X.env = (false, eval e X.env) :: starEach es X.env := by rfl) (hpl : (backTo pos (starEach es X.env)).any (·.1) = false := by rfl) : SF X C W (.Call (.Name x p) (e :: es) [] pos) (mCallF (chk np f) ma) :=
  PE.imp (pe_callS F hr hg hm hk hb (fun σ => passAt tk σ) ha hdb he hpl) fun σ H Q ⟨Γ, env, ds, R, h⟩ => ⟨Γ, env, ds, R, h.bind.imp fun args ds1 H1 e1 d1 q vs hv => by
    have R1 := R.go e1 d1
    have q : Aft X.K C W Γ σ H1 ((chk np f args ds1).bind _) _ := q
    unfold chk at q
    by_cases hn : args.length = np
    · rw [if_pos hn] at q
      refine call_rd R1 hv hn ?_
      revert q
      unfold Aft Rz.bind
      rcases f args ds1 with _ | ⟨d | x, ds'⟩
      · exact id
      · dsimp only
        intro q v H' e2 d2 r
        obtain ⟨p, us, xs, rfl, rfl, r1, r2, r3, r4, r5⟩ := r.2.2
        exact q H' e2 d2 p us (R.none_back e1 d1 r1) r3 r4 (r5.mono (fun a u z k => ⟨⟨z.1.1.elim (fun w => by cases w.1) id, z.2⟩, k⟩) fun _ _ z => z)
      · exact fun q cls dd H' e2 d2 hx => q cls dd H' e2 d2 hx
    · rw [if_neg hn] at q
      exact q.elim⟩

/-! ### the draw is made -/
def mkDraw (xs : List PyData) : Option DSt := match xs with
  | [.list cs, .int i, .int j, .int k] => (intsOf cs).map fun ns => ⟨ns, i, j, k⟩
  | _ => none
def mDraw (i : Nat) (a : ME (List PyData)) (rest : MS) : MS := fun env ds => match a env ds with
  | some (.ok xs, none) => match mkDraw xs with
    | some s => match put i .drw env with
      | some env' => match rest env' (some s) with
        | some (.rt d, _) => some (.rt d, none)
        | _ => none
      | none => none
    | none => none
  | _ => none
variable {rest : List Stmt} {mr : MS} {mf : ME (List PyData)}
theorem Rel.set_dr {K : PySem.W.Frag} {Γ : Gm} {σ : St} {H H1 : Hp} {env env' : Ev} (R : Rel K Γ σ H env none) (e : Ext Γ H H1) {i : Nat} {a c : Addr} {s : DSt} (hf : H a = none) (h1 : H1 a = some (.lst [.ref c, .int s.place, .int s.cur, .int s.seed])) (h2 : H1 c = some (.lst (s.cells.map V.int))) (h3 : s.cells.length ≤ sizeLine) (hc : gdx Γ σ env a c)
    (hp : put i .drw env = some env') : Rel K { Γ with dr := some (a, c) } (σ.set i (some (.ref a))) H1 env' (some s) := by
  have hdr : Γ.dr = none := by
    have := R.draw
    unfold DrR at this
    cases q : Γ.dr with
    | none => rfl
    | some p => rw [q] at this; exact this.elim
  have d1 : DrR K Γ H1 none := by unfold DrR; rw [hdr]; trivial
  have R1 := R.go e d1
  obtain ⟨k1, k2, rfl⟩ := put_some hp
  have k3 : i < σ.length := by rw [R.len]; exact k2
  have nd : ∀ b, b ≠ a → ({ Γ with dr := some (a, c) } : Gm).nd b := fun b n p q => by cases q; exact n
  have gx : ∀ b, gd Γ σ env b → b ≠ a → gd { Γ with dr := some (a, c) } (σ.set i (some (.ref a))) (env.set i .drw) b := fun b q n => ⟨q.1, fun w => q.2.1 (owned_set_d rfl w).1, nd b n⟩
  have m : ∀ {u : V} {x : PyData}, Df K H (gd Γ σ env) u x → Df K H1 (gd { Γ with dr := some (a, c) } (σ.set i (some (.ref a))) (env.set i .drw)) u x := fun q =>
    (q.avoid hf).mono (fun b u z k => ⟨gx b z.1 z.2, e b _ z.1.2.2 k⟩) fun _ _ z => sqT_ext e R.draw z
  have ms : ∀ {u : List V} {x : List PyData}, DfAll K H (gd Γ σ env) u x → DfAll K H1 (gd { Γ with dr := some (a, c) } (σ.set i (some (.ref a))) (env.set i .drw)) u x := fun q =>
    (q.avoid hf).mono (fun b u z k => ⟨gx b z.1 z.2, e b _ z.1.2.2 k⟩) fun _ _ z => sqT_ext e R.draw z
  refine ⟨by rw [List.length_set, List.length_set]; exact R.len, fun j y hy => ?_, fun j k y z hjk hj hk oj ok => ?_, R.okf, fun b o _ q => R1.ext b o (fun p z => by rw [hdr] at z; cases z) q, ?_, fun p q w => ?_, fun p hp => ?_⟩
  · by_cases z : i = j
    · subst z
      rw [List.getElem?_set_self k2] at hy
      cases hy
      rw [List.getElem?_set_self k3]
      exact ⟨(a, c), rfl, rfl⟩
    · rw [List.getElem?_set_ne z] at hy ⊢
      have q := R.slot j y hy
      cases y with
      | un => trivial
      | d x =>
        obtain ⟨u, q1, q2⟩ := q
        exact ⟨u, q1, m q2⟩
      | l x =>
        obtain ⟨b, u, q1, q2, q3, q4, q5, q6⟩ := q
        exact ⟨b, u, q1, e b _ q6 q2, ms q3, q4, q5, nd b (ne_of_none q2 hf)⟩
      | lk x =>
        obtain ⟨b, u, q1, q2, q3, q4, q5, q6⟩ := q
        exact ⟨b, u, q1, e b _ q6 q2, ms q3, q4, q5, nd b (ne_of_none q2 hf)⟩
      | drw =>
        obtain ⟨p, q1, _⟩ := q
        rw [hdr] at q1
        cases q1
      | scr ns =>
        obtain ⟨b, q1, q2, q3⟩ := q
        exact ⟨b, q1, scr_ext e R.draw q2, q3⟩
  · have n1 : i ≠ j := fun z => by
      subst z
      rw [List.getElem?_set_self k2] at hj
      cases hj
      cases oj
    have n2 : i ≠ k := fun z => by
      subst z
      rw [List.getElem?_set_self k2] at hk
      cases hk
      cases ok
    rw [List.getElem?_set_ne n1] at hj ⊢
    rw [List.getElem?_set_ne n2] at hk ⊢
    exact R.sep j k y z hjk hj hk oj ok
  · exact ⟨h1, h2, h3, hc.2, hc.1.1⟩
  · cases q
    exact hc.1.2.1 (owned_set_d rfl w).1
  · obtain ⟨xs, q1, q2⟩ := R.lkd p hp
    have n1 : i ≠ p.1 := fun z => by
      subst z
      exact k1 xs q1
    exact ⟨xs, by rw [List.getElem?_set_ne n1]; exact q1, by rw [List.getElem?_set_ne n1]; exact q2⟩
theorem sss_draw (i : Nat) {y : Str} {pos' : Pos} (hN : X.N.Nodup) (he : SF X C W e mf) (hrest : SSs X C W false rest mr) (hi : X.N[i]? = some y := by rfl) (hx : Loc X.env.scope y := by exact .inl rfl) (hs : swapsWith e (some (.Name y pos')) pos.line X.env = pure false := by rfl)
    (hf : X.fn y = true ∨ X.env.scope.names.lookup y = some .local := by first | exact .inl rfl | exact .inr rfl) : SSs X C W false (.Assign [.Name y pos'] e pos :: rest) (mDraw i mf mr) :=
  PSs.imp (pss_cons (ps_set hN hi hx he hs hf) hrest) fun D σ H ⟨Γ, env, ds, R, h⟩ => by
    refine ⟨Γ, env, ds, R, ?_⟩
    revert h
    unfold mDraw Aft
    rcases mf env ds with _ | ⟨xs | x, ds1⟩
    · exact id
    · cases ds1 with
      | some s => exact fun h => h.elim
      | none =>
        dsimp only
        intro h H1 e1 d1 a us h1 h2 h3 h4
        cases hs : mkDraw xs with
        | none => rw [hs] at h; exact h.elim
        | some s =>
          rw [hs] at h
          dsimp only at h
          cases hp : put i .drw env with
          | none => rw [hp] at h; exact h.elim
          | some env' =>
            rw [hp] at h
            dsimp only at h
            have hdr : Γ.dr = none := by
              unfold DrR at d1
              cases q : Γ.dr with
              | none => rfl
              | some p => rw [q] at d1; exact d1.elim
            have ds0 : ds = none := by
              have := R.draw
              unfold DrR at this
              rw [hdr] at this
              cases ds with
              | none => rfl
              | some s => exact this.elim
            subst ds0
            unfold mkDraw at hs
            split at hs
            · rename_i cs i1 i2 i3
              obtain ⟨ns, q1, q2⟩ := Option.map_eq_some_iff.mp hs
              subst q2
              obtain rfl := intsOf_eq q1
              cases h4 with
              | cons a1 h4 =>
                cases h4 with
                | cons a2 h4 =>
                  cases h4 with
                  | cons a3 h4 =>
                    cases h4 with
                    | cons a4 h4 =>
                      cases h4
                      cases a2
                      cases a3
                      cases a4
                      cases a1 with
                      | @lst c cv _ b1 b2 b3 b4 =>
                        rw [b4.ints_inv] at b2 b3
                        rw [List.length_map] at b3
                        have RD := R.set_dr (s := ⟨ns, i1, i2, i3⟩) e1 h1 h2 b2 b3 b1 hp
                        refine ⟨_, env', _, RD, ?_⟩
                        show Aft2 X.K C W false _ D (mr env' (some ⟨ns, i1, i2, i3⟩))
                        rcases z : mr env' (some ⟨ns, i1, i2, i3⟩) with _ | ⟨fl, ds2⟩
                        · rw [z] at h; exact h
                        · rw [z] at h
                          cases fl with
                          | rt d =>
                            intro v H' r
                            obtain ⟨r1, r2, r3⟩ := r
                            refine h v H' ⟨fun b o n q => ?_, by unfold DrR; rw [hdr]; trivial, (show Df X.K H' _ v d from r3).mono (fun b u z k => ⟨⟨z.1, fun p q => by rw [hdr] at q; cases q⟩, k⟩) fun _ _ z => z⟩
                            refine r1 b o (fun p q z => ?_) q
                            cases q
                            have := R.ext b o n q
                            rw [z, h1] at this
                            cases this
                          | _ => exact h.elim
            · cases hs
    · exact fun h => h.elim
end

/-! ### try: .. except X: .. -/
/-- a suite that raises nothing -/
def noEx (r : Option (Fl × DS)) : Option (Fl × DS) := match r with
  | some (.ex _ _, _) => none
  | r => r
def mTry (k : Exn → Bool) (mb ms : MS) : MS := fun env ds => match mb env ds with
  | some (.ex x env', ds') => if k x then noEx (ms env' ds') else some (.ex x env', ds')
  | r => r
section
variable {X : Cx} {C : Exs} {W : WX} {fr : Bool} {x : Str} {Cc : Addr} {body suite : List Stmt} {b₀ : Stmt} {np pos pos' : Pos} {mb ms : MS} {k : Exn → Bool}
theorem ss_try (hs : X.stack = X.env :: X.outer) (hf : X.env.frame = some X.env.locals) (hm : X.mg x = some (.ref Cc)) (tk : Takes X W) (hk : ∀ y cls d H, ExR C y cls d H → PySem.W.exmOne X.K cls (.ref Cc) = some (k y))
    (hb : ∀ (W' : WX) (pn : List (Addr × Obj)) (xe : Value → Shared → Prop), Takes (X.tr pn xe) W' → PassesOwn (model X.prog X.w) X.A X.env xe → SSs (X.tr pn xe) C W' fr body mb)
    (hsu : ∀ (a : Addr) (pn : List (Addr × Obj)), SSs (X.suite a pn) C W0 fr (b₀ :: suite) ms) (hg : Gl X x := by rfl) (hdb : (x == ("__debug__" : Str)) = false := by decide) :
    SS X C W fr (.Try body [.ExceptHandler (some (.Name x np)) none (b₀ :: suite) pos'] [] [] pos) (mTry k mb ms) :=
  PS.imp (ps_try_only (tb := fun W' => rdS X.K C W' fr mb) (ts := fun _ _ _ => rdS X.K C W0 fr ms) hs hf ⟨hg, hdb, .inl hm⟩ tk hb (fun a oe cls d pn _ _ => hsu a _)) fun D σ H ⟨Γ, env, ds, R, h⟩ => by
    refine ⟨Γ, env, ds, R, ?_⟩
    unfold mTry at h
    rcases q : mb env ds with _ | ⟨fl, ds'⟩
    · rw [q] at h; exact h
    · rw [q] at h
      cases fl with
      | nx e => exact h
      | bk e => exact h
      | ct e => exact h
      | rt d => exact h
      | ex y e =>
        intro cls dd σ' H' R' hx
        refine ⟨k y, hk y cls dd H' hx, fun hy a ha => ?_, fun hy => ?_⟩
        · dsimp only at h
          rw [if_pos hy] at h
          refine ⟨Γ, e, ds', R', ?_⟩
          revert h
          rcases ms e ds' with _ | ⟨fl, ds2⟩
          · exact id
          · cases fl with
            | ex z e2 => exact fun h => h.elim
            | _ => exact id
        · dsimp only at h
          rw [if_neg (by rw [hy]; exact Bool.false_ne_true)] at h
          exact h cls dd σ' H' R' hx
end
end DL

/-! DL11: sorted, sorted(set(..)), repr. -/
namespace DL
open PySem PySem.Spec L2
open PyProof.Rows hiding St

/-! ### an order of data that runs -/
mutual
def ltD : PyData → PyData → Bool
  | .bool a, .bool b => !a && b
  | .int a, .int b => decide (a < b)
  | .str a, .str b => decide (a.cps.toList < b.cps.toList)
  | .tuple a, .tuple b => ltDs a b
  | .list a, .list b => ltDs a b
  | _, _ => false
def ltDs : List PyData → List PyData → Bool
  | [], b => !b.isEmpty
  | _ :: _, [] => false
  | x :: xs, y :: ys => if PyData.eqv x y then ltDs xs ys else ltD x y
end
def insB {α : Type} (lt : α → α → Bool) (x : α) : List α → List α
  | [] => [x]
  | y :: r => if lt y x then y :: insB lt x r else x :: y :: r
def sortB {α : Type} (lt : α → α → Bool) : List α → List α
  | [] => []
  | x :: r => insB lt x (sortB lt r)
def sortD (xs : List PyData) : List PyData := sortB ltD xs

mutual
theorem ltD_eq : ∀ x y : PyData, PySem.W.alike x y = true → ltD x y = PySem.W.dataLt x y
  | .none, y, h => by
    cases y with
    | none => unfold PySem.W.dataLt; exact (lex_irrefl (O := itemOrd) _).symm
    | _ => simp [PySem.W.alike] at h
  | .bool a, y, h => by
    cases y with
    | bool b => rw [PySem.W.dataLt_bool]; cases a <;> cases b <;> rfl
    | _ => simp [PySem.W.alike] at h
  | .int a, y, h => by
    cases y with
    | int b => rw [PySem.W.dataLt_int]; rfl
    | _ => simp [PySem.W.alike] at h
  | .str a, y, h => by
    cases y with
    | str b => rw [PySem.W.dataLt_str]; rfl
    | _ => simp [PySem.W.alike] at h
  | .list a, y, h => by
    cases y with
    | list b => rw [PySem.W.dataLt_list]; exact ltDs_eq a b (by simpa [PySem.W.alike] using h)
    | _ => simp [PySem.W.alike] at h
  | .tuple a, y, h => by
    cases y with
    | tuple b => rw [PySem.W.dataLt_tuple]; exact ltDs_eq a b (by simpa [PySem.W.alike] using h)
    | _ => simp [PySem.W.alike] at h
  | .dict a, y, h => by simp [PySem.W.alike] at h
theorem ltDs_eq : ∀ xs ys : List PyData, PySem.W.alikeAll xs ys = true → ltDs xs ys = PyProof.Rows.lexLt itemOrd (PySem.W.keyToksAll xs) (PySem.W.keyToksAll ys)
  | [], [], _ => (lex_irrefl (O := itemOrd) _).symm
  | [], y :: ys, _ => by
    rw [PySem.W.toks_all_cons, PySem.W.keyToksAll, lex_diff (O := itemOrd) (by intro z; cases z)]
    rfl
  | x :: xs, [], _ => by
    rw [PySem.W.toks_all_cons, PySem.W.keyToksAll, lex_diff (O := itemOrd) (by intro z; cases z)]
    rfl
  | x :: xs, y :: ys, h => by
    obtain ⟨h1, h2⟩ := PySem.W.alike_all_cons h
    rw [PySem.W.dataLt_cons h1, ← ltDs_eq xs ys h2, ← ltD_eq x y h1]
    rfl
end
section
variable {α : Type} {lt lt' : α → α → Bool} {le : α → α → Bool}
theorem insB_perm (x : α) : ∀ l : List α, (insB lt x l).Perm (x :: l)
  | [] => .refl _
  | y :: r => by
    unfold insB
    split
    · exact ((insB_perm x r).cons y).trans (.swap x y r)
    · exact .refl _
theorem sortB_perm : ∀ l : List α, (sortB lt l).Perm l
  | [] => .refl _
  | x :: r => (insB_perm x _).trans ((sortB_perm r).cons x)
theorem insB_congr (x : α) : ∀ l : List α, (∀ y ∈ l, lt y x = lt' y x) → insB lt x l = insB lt' x l
  | [], _ => rfl
  | y :: r, h => by
    unfold insB
    rw [h y List.mem_cons_self, insB_congr x r fun z hz => h z (List.mem_cons_of_mem _ hz)]
theorem sortB_congr : ∀ l : List α, (∀ x ∈ l, ∀ y ∈ l, lt x y = lt' x y) → sortB lt l = sortB lt' l
  | [], _ => rfl
  | x :: r, h => by
    have e : sortB lt r = sortB lt' r := sortB_congr r fun a ha b hb => h a (List.mem_cons_of_mem _ ha) b (List.mem_cons_of_mem _ hb)
    show insB lt x (sortB lt r) = insB lt' x (sortB lt' r)
    rw [e]
    exact insB_congr x _ fun y hy => h y (List.mem_cons_of_mem _ ((sortB_perm r).mem_iff.mp hy)) x List.mem_cons_self
theorem insB_pair (T : PySem.W.TotalLe le) (x : α) : ∀ l : List α, l.Pairwise (fun a b => le a b = true) → (insB (fun a b => !le b a) x l).Pairwise fun a b => le a b = true
  | [], _ => List.pairwise_singleton _ _
  | y :: r, h => by
    rw [List.pairwise_cons] at h
    unfold insB
    split
    · rename_i c
      have c : (!le x y) = true := c
      refine List.pairwise_cons.mpr ⟨fun z hz => ?_, insB_pair T x r h.2⟩
      rcases List.mem_cons.mp ((insB_perm x r).mem_iff.mp hz) with e | e
      · subst e
        rcases T.total y z with q | q
        · exact q
        · rw [q] at c; cases c
      · exact h.1 z e
    · rename_i c
      have c : le x y = true := by cases q : le x y with | true => rfl | false => exact absurd (by show (!le x y) = true; rw [q]; rfl) c
      refine List.pairwise_cons.mpr ⟨fun z hz => ?_, List.pairwise_cons.mpr h⟩
      rcases List.mem_cons.mp hz with e | e
      · subst e; exact c
      · exact T.trans _ _ _ c (h.1 z e)
theorem sortB_pair (T : PySem.W.TotalLe le) : ∀ l : List α, (sortB (fun a b => !le b a) l).Pairwise fun a b => le a b = true
  | [] => List.Pairwise.nil
  | x :: r => insB_pair T x _ (sortB_pair T r)
theorem insB_filter (T : PySem.W.TotalLe le) (c x : α) : ∀ l : List α, (insB (fun a b => !le b a) x l).filter (PySem.W.sameRank le c) = (x :: l).filter (PySem.W.sameRank le c)
  | [] => rfl
  | y :: r => by
    unfold insB
    split
    · rename_i k
      have k : (!le x y) = true := k
      rw [List.filter_cons, insB_filter T c x r, List.filter_cons, List.filter_cons, List.filter_cons]
      by_cases hx : PySem.W.sameRank le c x = true
      · by_cases hy : PySem.W.sameRank le c y = true
        · exfalso
          unfold PySem.W.sameRank at hx hy
          rw [Bool.and_eq_true] at hx hy
          have q : le x y = true := by first | exact T.trans _ _ _ hx.2 hy.1 | exact T.trans _ _ _ hx.1 hy.2
          rw [q] at k
          cases k
        · rw [if_neg hy, if_neg hy]
      · rw [if_neg hx, if_neg hx]
    · rfl
theorem sortB_filter (T : PySem.W.TotalLe le) (c : α) : ∀ l : List α, (sortB (fun a b => !le b a) l).filter (PySem.W.sameRank le c) = l.filter (PySem.W.sameRank le c)
  | [] => rfl
  | x :: r => by
    show (insB _ x _).filter _ = _
    rw [insB_filter T c x, List.filter_cons, List.filter_cons, sortB_filter T c r]
theorem sortB_merge (T : PySem.W.TotalLe le) (l : List α) : sortB (fun a b => !le b a) l = l.mergeSort le := PySem.W.sort_unique T (sortB_pair T l) fun c => sortB_filter T c l
end
theorem dataLe_total {β : Type} (k : β → PyData) : PySem.W.TotalLe (PySem.W.dataLe false k) := PySem.W.sortLe_total _ _ _
theorem sortD_merge {ds : List PyData} (h : PySem.W.AllAlike ds) : sortD ds = ds.mergeSort (PySem.W.dataLe false id) := by
  rw [← sortB_merge (dataLe_total id)]
  unfold sortD
  refine sortB_congr ds fun x hx y hy => ?_
  rw [ltD_eq x y (h x hx y hy), PySem.W.dataLe_eq]
  show _ = !!PySem.W.dataLt x y
  rw [Bool.not_not]
/-- what may be sorted -/
def isTup1 : PyData → Bool
  | .tuple (_ :: _) => true
  | _ => false
def notTup : PyData → Bool
  | .none => false
  | .tuple _ => false
  | _ => true
def sorts (ds : List PyData) : Bool := ds.all (fun d => ds.all fun e => PySem.W.alike d e) && (ds.all isTup1 || ds.all notTup || (decide (ds.length ≤ 1) && ds.all fun d => !isNone d)) && decide (PyData.depthAll ds ≤ 60)
theorem sorts_alike {ds : List PyData} (h : sorts ds = true) : PySem.W.AllAlike ds := by
  unfold sorts at h
  rw [Bool.and_eq_true, Bool.and_eq_true] at h
  intro d hd e he
  exact List.all_eq_true.mp (List.all_eq_true.mp h.1.1 d hd) e he
theorem sorts_depth {ds : List PyData} (h : sorts ds = true) : PyData.depthAll ds ≤ 60 := by
  unfold sorts at h
  rw [Bool.and_eq_true] at h
  exact of_decide_eq_true h.2
theorem depth_mem : ∀ {ds : List PyData} {d : PyData}, d ∈ ds → d.depth ≤ PyData.depthAll ds
  | x :: r, d, h => by
    have e : PyData.depthAll (x :: r) = max x.depth (PyData.depthAll r) := by first | rfl | rw [PyData.depthAll]
    rw [e]
    rcases List.mem_cons.mp h with q | q
    · subst q; exact Nat.le_max_left _ _
    · exact Nat.le_trans (depth_mem q) (Nat.le_max_right _ _)
theorem sortsAt {prog : Program} {w : World} {A : Around} {s : Shared} {vs : List Value} {ds : List PyData} (e : PySem.W.EachIs (fun v d => ∃ as, Reads s.heap v d as) vs ds) (h : sorts ds = true) (hu : A.units + 60 < cLine) : PySem.W.SortsAt prog w A s (PySem.W.dataKind s.heap ds) vs := by
  have hal := sorts_alike h
  have hd := sorts_depth h
  have room : ∀ d, d ∈ ds → A.units + d.depth < cLine := fun d q => by have := depth_mem q; omega
  have h2 := h
  unfold sorts at h2
  rw [Bool.and_eq_true, Bool.and_eq_true, Bool.or_eq_true, Bool.or_eq_true] at h2
  rcases h2.1.2 with (k | k) | k
  · exact PySem.W.SortsAt.data e hal (.inl fun d q => by
      have := List.all_eq_true.mp k d q
      unfold isTup1 at this
      split at this
      · exact ⟨_, _, rfl⟩
      · cases this) room
  · exact PySem.W.SortsAt.data e hal (.inr fun d q => by
      have := List.all_eq_true.mp k d q
      exact ⟨(fun z => by subst z; cases this), (fun xs z => by subst z; cases this)⟩) room
  · rw [Bool.and_eq_true] at k
    have k1 := of_decide_eq_true k.1
    refine ⟨fun v hv => ?_, general', fun E x y a b Q ha hb hq => ?_, fun q => absurd q (by rw [e.length]; omega)⟩
    · obtain ⟨d, q, as, r⟩ := e.left v hv
      exact ⟨_, PySem.W.dataKind_some hal q r⟩
    · obtain ⟨d, as, q1, ra, rfl⟩ := PySem.W.dataKind_inv ha
      obtain ⟨d', as', q2, rb, rfl⟩ := PySem.W.dataKind_inv hb
      show wpAny (model prog w) A (oneLt' false x y) Q E s
      refine PySem.W.oneLt_alike (fun z => by cases z) ra rb (hal d q1 d' q2) (fun z => ?_) (Nat.lt_of_le_of_lt (Nat.add_le_add_left (Nat.min_le_left _ _) _) (room d q1)) hq
      subst z
      have := List.all_eq_true.mp k.2 _ q1
      cases this

section
variable {X : Cx} {K : PySem.W.Frag}
/-- values beside what they read as -/
theorem each_zip {P : Value → V × PyData → Prop} : ∀ {xs : List V} {its : List Value} {ds : List PyData}, Vals xs its → xs.length = ds.length → (∀ (v : V) (u : Value) (d : PyData), (v, d) ∈ xs.zip ds → RelV v u → P u (v, d)) → PySem.W.EachIs P its (xs.zip ds)
  | _, _, [], .nil, _, _ => .nil
  | _, _, [], .cons _ _, h, _ => by cases h
  | _, _, d :: ds, .nil, h, _ => by cases h
  | _, _, d :: ds, .cons (a := v) (b := u) r t, h, f => .cons (f v u d List.mem_cons_self r) (each_zip t (by simpa using h) fun v u d q => f v u d (List.mem_cons_of_mem _ q))
theorem vals_each : ∀ {out : List Value} {ps : List (V × PyData)}, PySem.W.EachIs (fun u p => RelV p.1 u) out ps → Vals (ps.map (·.1)) out
  | _, _, .nil => .nil
  | _, _, .cons h t => .cons h (vals_each t)
theorem dfAll_zip {H : Hp} {g : Addr → Prop} : ∀ {us : List V} {ds : List PyData}, DfAll K H g us ds → ∀ p ∈ us.zip ds, Df K H g p.1 p.2
  | _, _, .nil, p, h => by cases h
  | _, _, .cons a t, p, h => by
    rcases List.mem_cons.mp h with q | q
    · subst q; exact a
    · exact dfAll_zip t p q
theorem zip_dfAll {H : Hp} {g : Addr → Prop} : ∀ {ps : List (V × PyData)}, (∀ p ∈ ps, Df K H g p.1 p.2) → DfAll K H g (ps.map (·.1)) (ps.map (·.2))
  | [], _ => .nil
  | p :: r, h => .cons (h p List.mem_cons_self) (zip_dfAll fun q hq => h q (List.mem_cons_of_mem _ hq))
theorem dp_zip {H : Hp} : ∀ {us : List V} {ds : List PyData}, DpAll K H us ds → ∀ p ∈ us.zip ds, Dp K H p.1 p.2
  | _, _, .nil, p, h => by cases h
  | _, _, .cons a t, p, h => by
    rcases List.mem_cons.mp h with q | q
    · subst q; exact a
    · exact dp_zip t p q
theorem dp_len {H : Hp} : ∀ {us : List V} {ds : List PyData}, DpAll K H us ds → us.length = ds.length
  | _, _, .nil => rfl
  | _, _, .cons a t => by rw [List.length_cons, List.length_cons, dp_len t]
/-- sorted(xs) -/
def rSortD (K : PySem.W.Frag) : List V → Hp → VK → Prop := fun vs H Q => ∃ (a : Addr) (xs : List V) (ds : List PyData), vs = [V.ref a] ∧ SqL K H a xs ∧ DpAll K H xs ds ∧ sorts ds = true ∧
  ∀ (ps : List (V × PyData)) (p : Addr), ps.Perm (xs.zip ds) → ps.map (·.2) = sortD ds → H p = none → ps.length ≤ sizeLine → Q (.ref p) (upd H p (.lst (ps.map (·.1))))
theorem cr_sortD (hu : X.A.units + 65 < cLine) : CallR X (.builtin "sorted") (rSortD X.K) := by
  intro pins s σ H vs us Q I r h
  obtain ⟨a, xs, ds, rfl, hs, hd, hk, q⟩ := h
  obtain ⟨its, rv, hl, hz⟩ := I.list hs
  rw [Vals.ref1 r]
  have hlen := dp_len hd
  have e : PySem.W.EachIs (fun u (p : V × PyData) => RelV p.1 u) its (xs.zip ds) := each_zip rv hlen fun v u d _ w => w
  have er : PySem.W.EachIs (fun u (p : V × PyData) => ∃ as, Reads s.heap u p.2 as) its (xs.zip ds) := each_zip rv hlen fun v u d m w => Dp.reads I d v u (dp_zip hd _ m) w
  have hm : (xs.zip ds).map (·.2) = ds := List.map_snd_zip (Nat.le_of_eq hlen.symm)
  have er2 : PySem.W.EachIs (fun u (p : V × PyData) => ∃ as, Reads (PySem.W.sortingHeap (PySem.W.copyHeap s.heap its) (s.heap.objs.size + 1) its) u p.2 as) its (xs.zip ds) := er.mono fun _ _ ⟨as, z⟩ => ⟨as, PyProof.Rows.Reads.keeps (fun _ _ => PySem.W.sorting_copy_old) z⟩
  have er3 : PySem.W.EachIs (fun u d => ∃ as, Reads (PySem.W.sortingHeap (PySem.W.copyHeap s.heap its) (s.heap.objs.size + 1) its) u d as) its ds := by
    have z := PySem.W.each_map (R := fun u d => ∃ as, Reads (PySem.W.sortingHeap (PySem.W.copyHeap s.heap its) (s.heap.objs.size + 1) its) u d as) Prod.snd er2
    rw [show (xs.zip ds).map Prod.snd = ds from hm] at z
    exact z
  have hal := sorts_alike hk
  have hal2 : PySem.W.AllAlike ((xs.zip ds).map Prod.snd) := by rw [show (xs.zip ds).map Prod.snd = ds from hm]; exact hal
  have S : PySem.W.SortsAt X.prog X.w X.A.in1.in1 { s with heap := PySem.W.sortingHeap (PySem.W.copyHeap s.heap its) (s.heap.objs.size + 1) its } (PySem.W.dataKind (PySem.W.sortingHeap (PySem.W.copyHeap s.heap its) (s.heap.objs.size + 1) its) ds) its :=
    sortsAt (s := { s with heap := PySem.W.sortingHeap (PySem.W.copyHeap s.heap its) (s.heap.objs.size + 1) its }) er3 hk (by show X.A.units + 1 + 1 + 60 < cLine; omega)
  have out := PySem.W.sortVals_data (h' := PySem.W.sortingHeap (PySem.W.copyHeap s.heap its) (s.heap.objs.size + 1) its) (R := fun u (p : V × PyData) => RelV p.1 u) (enc := Prod.snd) false e er2 hal2
  rw [show (xs.zip ds).map Prod.snd = ds from hm] at out
  refine PySem.W.sorted_vals hl.isList S (by rw [← rv.length]; exact hz) ?_
  generalize PySem.W.sortVals (PySem.W.dataKind (PySem.W.sortingHeap (PySem.W.copyHeap s.heap its) (s.heap.objs.size + 1) its) ds) false its its = zs at out ⊢
  have rz := vals_each out
  have perm : ((xs.zip ds).mergeSort (PySem.W.dataLe false Prod.snd)).Perm (xs.zip ds) := List.mergeSort_perm _ _
  have ms : ((xs.zip ds).mergeSort (PySem.W.dataLe false Prod.snd)).map (·.2) = sortD ds := by
    rw [sortD_merge hal]
    refine (PySem.W.sort_maps (s := PySem.W.dataLe false id) (fun p : V × PyData => p.2) fun a _ b _ => rfl).trans ?_
    rw [hm]
  generalize (xs.zip ds).mergeSort (PySem.W.dataLe false Prod.snd) = ps at rz perm ms
  have hps : ps.length ≤ sizeLine := by
    rw [perm.length_eq, List.length_zip, ← hlen, Nat.min_self]
    exact hz
  obtain ⟨ep, he'⟩ := PyProof.Rows.sortedAll_at s.heap its zs.toArray
  exact ⟨.ref _, upd H (s.heap.objs.size + 1) (.lst (ps.map (·.1))), I.laid (t' := s.toks) (fun _ _ => PyProof.Rows.sortedAll_old) (Nat.le_succ _) ⟨by rw [List.length_map]; exact hps, zs, ep, rz, he'⟩, rfl, q _ _ perm ms (I.hok.fresh (Nat.le_succ _)) hps⟩
def fSort : PyData → Option (List PyData)
  | .list ds => if sorts ds then some (sortD ds) else none
  | _ => none
theorem un_sort : Un1F K (rSortD K) fSort := fun Γ σ H env ds R x d z hx hf Q q => by
  unfold fSort at hf
  split at hf
  · split at hf
    · rename_i es hs
      cases hf
      obtain ⟨a, us, rfl, hS, hl, hA⟩ := hx.list
      refine ⟨a, us, es, rfl, SqL.of hS, hA.dp, hs, fun ps p h1 h2 h3 h4 => q p _ h3 (by rw [List.length_map]; exact h4) ?_⟩
      rw [← h2]
      exact zip_dfAll fun w hw => dfAll_zip hA w (h1.mem_iff.mp hw)
    · cases hf
  · cases hf
end
end DL

/-! DL12: sorted(set(..)) of ints, repr. -/
namespace DL
open PySem PySem.Spec L2
open PyProof.Rows hiding St

/-! ### ints in order, each once -/
def insU (x : Int) : List Int → List Int
  | [] => [x]
  | y :: r => if y < x then y :: insU x r else if x = y then y :: r else x :: y :: r
def sortU : List Int → List Int
  | [] => []
  | x :: r => insU x (sortU r)
theorem insU_mem (x k : Int) : ∀ l : List Int, k ∈ insU x l ↔ k = x ∨ k ∈ l
  | [] => by simp [insU]
  | y :: r => by
    unfold insU
    split
    · rw [List.mem_cons, insU_mem x k r, List.mem_cons]
      exact ⟨fun h => h.elim (fun q => .inr (.inl q)) fun q => q.elim .inl fun z => .inr (.inr z), fun h => h.elim (fun q => .inr (.inl q)) fun q => q.elim .inl fun z => .inr (.inr z)⟩
    · split
      · rename_i e
        subst e
        rw [List.mem_cons]
        exact ⟨fun h => h.elim .inl fun q => .inr (.inr q), fun h => h.elim .inl id⟩
      · exact List.mem_cons
theorem sortU_mem (k : Int) : ∀ l : List Int, k ∈ sortU l ↔ k ∈ l
  | [] => Iff.rfl
  | x :: r => by rw [sortU, insU_mem, sortU_mem k r, List.mem_cons]
theorem insU_pair (x : Int) : ∀ l : List Int, l.Pairwise (· < ·) → (insU x l).Pairwise (· < ·)
  | [], _ => List.pairwise_singleton _ _
  | y :: r, h => by
    rw [List.pairwise_cons] at h
    unfold insU
    split
    · rename_i c
      refine List.pairwise_cons.mpr ⟨fun z hz => ?_, insU_pair x r h.2⟩
      rcases (insU_mem x z r).mp hz with e | e
      · subst e; exact c
      · exact h.1 z e
    · split
      · exact List.pairwise_cons.mpr h
      · refine List.pairwise_cons.mpr ⟨fun z hz => ?_, List.pairwise_cons.mpr h⟩
        rcases List.mem_cons.mp hz with e | e
        · subst e; omega
        · have := h.1 z e; omega
theorem sortU_pair : ∀ l : List Int, (sortU l).Pairwise (· < ·)
  | [] => List.Pairwise.nil
  | x :: r => insU_pair x _ (sortU_pair r)
theorem pair_one : ∀ {l m : List Int}, l.Pairwise (· < ·) → m.Pairwise (· < ·) → (∀ k, k ∈ l ↔ k ∈ m) → l = m
  | [], [], _, _, _ => rfl
  | [], y :: m, _, _, h => by cases (h y).mpr List.mem_cons_self
  | x :: l, [], _, _, h => by cases (h x).mp List.mem_cons_self
  | x :: l, y :: m, hl, hm, h => by
    rw [List.pairwise_cons] at hl hm
    have e : x = y := by
      rcases List.mem_cons.mp ((h x).mp List.mem_cons_self) with q | q
      · exact q
      · rcases List.mem_cons.mp ((h y).mpr List.mem_cons_self) with z | z
        · exact z.symm
        · have := hm.1 x q; have := hl.1 y z; omega
    subst e
    rw [pair_one hl.2 hm.2 fun k => ?_]
    constructor
    · intro q
      rcases List.mem_cons.mp ((h k).mp (List.mem_cons_of_mem _ q)) with z | z
      · subst z; have := hl.1 k q; omega
      · exact z
    · intro q
      rcases List.mem_cons.mp ((h k).mpr (List.mem_cons_of_mem _ q)) with z | z
      · subst z; have := hm.1 k q; omega
      · exact z

/-! ### set(xs) of a list of ints -/
abbrev setE (w : World) : Obj := { cls := .type "set", dict := none, data := .set #[] 0 (.fresh 0 0 (!w.params.followText "set-order")) }
section
variable {P : Program} {w : World} {A : Around} {E : Value → Shared → Prop} {s : Shared}
set_option maxHeartbeats 3200000 in
theorem set_of_ints {l : Addr} {xs : Array Value} (ns : List Int) {Q : Value → Shared → Prop} (hh : A.handled = none) (hl : s.heap.IsList l xs) (hx : IntsAre xs.toList ns) (hb : ns.length + 1 < scanBound)
    (h : ∀ (h' : Heap) (tk c : Nat), SetR w h' s.heap.objs.size (fun j => decide (j ∈ ns)) c → c ≤ ns.length → (∀ b o, s.heap.get? b = some o → h'.get? b = some o) → Q (.ref s.heap.objs.size) { s with heap := h', toks := tk }) : wpAny (model P w) A (call (.type "set") [.ref l]) Q E s := by
  have hn : xs.size = ns.length := by have z := IntsAre.length hx; rwa [Array.length_toList] at z
  obtain ⟨c0, t0, m1⟩ := F.called_set.mro
  have m2 := F.called_set.made; have m3 := F.called_set.sub
  refine wpAny_call (codeAny_of_tree ?_); show wpAny _ _ (callAny (.type "set") _) _ _ _
  refine wpAny_pure ⟨Code.quiet_builtin _ (by decide +kernel), codeAny_builtin F.entry_type_call ?_⟩; rw [Around.under_plain (weight_type_call_type "set" [.ref l] []) rfl]
  have m4 := F.called_set.notType; have m5 := F.called_set.canCreate; have m6 := F.typeCall_set_1 (.ref l)
  repeat (any_goals (first | assumption | wp_step))
  refine codeAny_mono (code_set_led1 (.ref l) (E := E) (Q₁ := fun ob z => ob = .ref s.heap.objs.size ∧ z = { s with heap := s.heap.push (setE w) }) ⟨rfl, rfl⟩) fun r z hr => ?_
  rcases r with e | fl
  · exact hr
  · cases fl with
    | ret ob =>
      obtain ⟨rfl, rfl⟩ := hr
      have g1 : (s.heap.push (setE w)).get? s.heap.objs.size = some (setE w) := Heap.get?_push_size _ rfl
      have g2 : Shared.TypeIs { s with heap := s.heap.push (setE w) } (.ref s.heap.objs.size) "set" := ⟨_, g1, rfl⟩
      have m7 := F.called_set.init.lookup; have m8 := F.called_set.init.bind (.ref s.heap.objs.size)
      repeat (any_goals (first | assumption | wp_step))
      refine codeAny_mono (codeAny_call_builtin (R := wants (fun r z => r = .none ∧ ∃ h' tk c, z = { s with heap := h', toks := tk } ∧ SetR w h' s.heap.objs.size (fun j => decide (j ∈ ns)) c ∧ c ≤ ns.length ∧ (∀ b o, s.heap.get? b = some o → h'.get? b = some o)) E) F.called_set.init.plain F.entry_set_init (check_set_init_1 g2 ?_)) fun r z hr => ?_
      · obtain ⟨⟨oc, od, oa, os⟩, l1, l2, n, l3⟩ := hl
        dsimp only at l2 l3
        subst l2 l3
        have l4 : (s.heap.push (setE w)).get? l = some { cls := .type "list", dict := od, data := .seq xs n, slots := os } := Heap.get?_push_of_some _ l1
        have n1 := F.sub_list_set; have n2 := F.sub_list_frozenset
        have n3 : (Value.type "list" == Value.type "dict") = false := by decide
        have l5 : (s.heap.push (setE w)).IsList l xs := ⟨_, l4, rfl, n, rfl⟩
        unfold Builtin.«set.__init__» noKeywords Builtin.Frozenset.updateFrom
        generalize hp : pyIter = PP
        wp_walk
        subst hp
        refine wpAny_pyIter_list l5 ?_; refine wpAny_bind (wpAny_runValue ?_)
        have k1 : l < s.heap.objs.size := Heap.lt_size l1
        have k2 : A.in1.in1.in1.handled = none := by simp [hh]
        have k3 : l ≠ (s.heap.push (setE w)).objs.size := by rw [Heap.size_push]; exact Nat.ne_of_lt (Nat.lt_succ_of_lt k1)
        have k4 : s.heap.objs.size ∉ [(s.heap.push (setE w)).objs.size, l] := by
          intro q
          rw [Heap.size_push] at q
          rcases List.mem_cons.mp q with e | q
          · omega
          · rcases List.mem_cons.mp q with e | q
            · rw [← e] at k1; exact Nat.lt_irrefl _ k1
            · cases q
        have k5 : ∀ (i : Nat) (v : Value), xs[i]? = some v → ∃ k t, ns[i]? = some k ∧ v = .int k t := fun i v hv => by
          have q : i < ns.length := by rw [← hn]; exact (Array.getElem?_eq_some_iff.mp hv).1
          obtain ⟨t, e⟩ := IntsAre.int_at hx i v (by rw [Array.getElem?_toList]; exact hv)
          exact ⟨ns[i], t, List.getElem?_eq_getElem q, by rw [e, List.getD_eq_getElem?_getD, List.getElem?_eq_getElem q]; rfl⟩
        refine set_update_ints ((Walks.list k2 _ l k3 xs).toS) s.heap.objs.size k4 ns hn hb k5 (xs.size - 0) 0 _ (by omega) (Nat.zero_le _) ⟨⟨_, Heap.get?_push_size _ rfl, rfl, rfl⟩, (l5.push _)⟩ ⟨0, Nat.le_refl 0, setR_new_at (Heap.get?_push_of_some _ g1)⟩ fun z c hm hc hS => ?_
        obtain ⟨zh, zg, zd, zt, zo⟩ := z
        obtain rfl : zg = s.gens := hm.gens
        obtain rfl : zd = s.drawn := hm.drawn
        obtain rfl : zo = s.os := hm.os
        show wpAny _ _ _ _ _ _
        refine wpAny_pure ?_; show wpAny _ _ (ret Value.none) _ _ _
        rw [hn] at hc
        refine wpAny_pure ⟨rfl, zh, zt, c, rfl, hS, hc, fun b o e => ?_⟩
        have q := Heap.lt_size e
        refine hm.heap b o (fun w => ?_) (Heap.get?_push_of_some _ (Heap.get?_push_of_some _ e))
        rcases List.mem_cons.mp w with w | w
        · exact absurd w (Nat.ne_of_lt q)
        · rcases List.mem_cons.mp w with w | w
          · rw [Heap.size_push] at w; exact absurd w (Nat.ne_of_lt (Nat.lt_succ_of_lt q))
          · cases w
      · rcases r with e | fl
        · exact hr
        · cases fl with
          | ret r =>
            obtain ⟨rfl, h', tk, c, rfl, q1, q2, q3⟩ := hr
            repeat (any_goals (first | assumption | wp_step))
            exact h _ _ _ q1 q2 q3
          | _ => exact hr.elim
    | _ => exact hr.elim
end

section
variable {X : Cx} {C : Exs} {W : WX} {K : PySem.W.Frag} {a : Expr} {ma : ME PyData} {M : Md} {pos pos2 p p2 : Pos}
def rSetLI (K : PySem.W.Frag) (w : World) : List V → Hp → VK → Prop := fun vs H Q => ∃ (l : Addr) (ns : List Int), vs = [V.ref l] ∧ SqL K H l (ns.map V.int) ∧ ns.length ≤ 1000 ∧
  ∀ (p : Addr) (c : Nat), H p = none → c ≤ ns.length → Q (.ref p) (upd H p (SetO w p (fun j => decide (j ∈ ns)) c))
theorem cr_setLI (hc : X.calm = true) : CallR X (.type "set") (rSetLI X.K X.w) := by
  intro pins s σ H vs us Q I r h
  obtain ⟨l, ns, rfl, hs, hn, q⟩ := h
  obtain ⟨its, rv, hl, hz⟩ := I.list hs
  rw [Vals.ref1 r]
  refine set_of_ints ns (I.ok.hd hc) hl.isList (ints_of_vals rv) (by unfold scanBound; omega) fun h' tk c R hcn k => ?_
  have hf : H s.heap.objs.size = none := I.hok.fresh (Nat.le_refl _)
  exact ⟨.ref _, upd H s.heap.objs.size (SetO X.w s.heap.objs.size (fun j => decide (j ∈ ns)) c), I.laid (t' := tk) k (Nat.le_refl _) (setO_new R), rfl, q _ c hf hcn⟩
/-- sorted(set(e)), e a list of ints -/
def fSortSet : PyData → Option (List PyData)
  | .list ds => (intsOf ds).bind fun ns => if decide (ns.length < 64) then some ((sortU ns).map .int) else none
  | _ => none
theorem sortU_len (l : List Int) : (sortU l).length ≤ l.length := by
  have h : ∀ (x : Int) (l : List Int), (insU x l).length ≤ l.length + 1 := fun x l => by
    induction l with
    | nil => exact Nat.le_refl _
    | cons y r ih =>
      unfold insU
      split
      · rw [List.length_cons, List.length_cons]; omega
      · split <;> simp
  induction l with
  | nil => exact Nat.le_refl _
  | cons x r ih =>
    have := h x (sortU r)
    show (insU x (sortU r)).length ≤ r.length + 1
    omega
theorem sf_sortSet (hc : X.calm = true) (p1 : Pers M) (hms : X.mg "sorted" = none) (hmt : X.mg "set" = none) (ha : PE X a (rdG M X.K C W ma)) (hgs : Gl X "sorted" := by rfl) (hgt : Gl X "set" := by rfl)
    (he : starEach (a :: []) X.env = (false, eval a X.env) :: starEach [] X.env := by rfl) (hpl : (backTo pos2 (starEach [] X.env)).any (·.1) = false := by rfl)
    (he2 : starEach (.Call (.Name "set" p2) [a] [] pos2 :: []) X.env = (false, eval (.Call (.Name "set" p2) [a] [] pos2) X.env) :: starEach [] X.env := by rfl) (hpl2 : (backTo pos (starEach [] X.env)).any (·.1) = false := by rfl) :
    SF X C W (.Call (.Name "sorted" p) [.Call (.Name "set" p2) [a] [] pos2] [] pos) (mUnF fSortSet ma) :=
  PE.imp (pe_callB (cr_sortedSet hc) hgs hms PyProof.Rows.boot_sorted (pa_cons (pe_callTy (cr_setLI hc) hgt hmt PyProof.Rows.boot_set (pa_cons ha pa_nil he) (by decide) (by decide) he hpl) pa_nil he2) (by decide) (by decide) he2 hpl2) fun σ H Q ⟨Γ, env, ds, R, h⟩ => by
    refine ⟨Γ, env, ds, R, h.bind.imp fun d ds1 H1 e1 d1 q x hx => ?_⟩
    obtain ⟨z, hz, q⟩ := lift_some q
    have R1 := R.go e1 d1
    unfold fSortSet at hz
    split at hz
    · rename_i es
      obtain ⟨ns, k1, k2⟩ := Option.bind_eq_some_iff.mp hz
      obtain rfl := intsOf_eq k1
      split at k2
      · rename_i k3
        cases k2
        have k3 := of_decide_eq_true k3
        obtain ⟨l, us, rfl, hS, hl, hA⟩ := (p1.pk hx).list
        have eu := hA.ints_inv
        subst eu
        refine ⟨l, ns, rfl, SqL.of hS, by omega, fun p c hp hcn => ?_⟩
        have x1 : Ext Γ H1 (upd H1 p (SetO X.w p (fun j => decide (j ∈ ns)) c)) := ext_new hp
        have y1 := d1.new (o := SetO X.w p (fun j => decide (j ∈ ns)) c) hp
        refine ⟨p, _, c, rfl, upd_same, by omega, fun ns' p' h1 h2 h3 h4 => ?_⟩
        have en : ns' = sortU ns := pair_one h1 (sortU_pair ns) fun k => (h2 k).trans (by rw [sortU_mem]; exact decide_eq_true_iff)
        subst en
        have h5 : ((sortU ns).map V.int).length ≤ sizeLine := by have := sortU_len ns; rw [List.length_map, sizeLine_eq]; omega
        have R2 := R1.go x1 y1
        exact q _ (x1.trans (ext_new h4)) (y1.new h4) p' _ (R.none_back (e1.trans x1) y1 h4) upd_same h5 (DfAll.newx (DfAll.of_ints _) h4 y1)
      · cases k2
    · cases hz
/-! ### repr -/
/-- repr(x), x a list or a tuple; where no repr is under way -/
def isSeq : PyData → Bool
  | .list _ => true
  | .tuple _ => true
  | _ => false
def fRepr (d : PyData) : Option PyData := if isSeq d && d.showable && !d.hasDict && decide (d.depth ≤ 60) && short d.shown.length then some (.str d.shown) else none
def rReprD (K : PySem.W.Frag) : List V → Hp → VK → Prop := fun vs H Q => ∃ (a : Addr) (d : PyData), vs = [V.ref a] ∧ Dp K H (.ref a) d ∧ d.showable = true ∧ d.hasDict = false ∧ d.depth ≤ 60 ∧ d.shown.length ≤ sizeLine ∧ Q (.str d.shown) H
theorem cr_repr (hu : X.A.units + 65 < cLine) (hg : X.A.guards = some []) : CallR X (.builtin "repr") (rReprD X.K) := by
  intro pins s σ H vs us Q I r h
  obtain ⟨a, d, rfl, hd, h1, h2, h3, h4, q⟩ := h
  rw [Vals.ref1 r]
  obtain ⟨as, hr⟩ := Dp.reads I d _ _ hd (rfl : RelV (.ref a) (.ref a))
  exact repr_of_reads' hr h1 (fun z => by rw [h2] at z; cases z) hg (by omega) (fun _ _ e => e) (fun h' u tk hk => ⟨.str d.shown, H, I.kept (t' := tk) hk, ⟨u, rfl⟩, q⟩) h4
theorem un_repr : Un1 K (rReprD K) fRepr := Un1.same fun Γ σ H env x d z hx hf Q q => by
  unfold fRepr at hf
  split at hf
  · rename_i hc
    cases hf
    rw [Bool.and_eq_true, Bool.and_eq_true, Bool.and_eq_true, Bool.and_eq_true] at hc
    obtain ⟨⟨⟨⟨c1, c2⟩, c3⟩, c4⟩, c5⟩ := hc
    have c3 : d.hasDict = false := by cases w : d.hasDict with | false => rfl | true => rw [w] at c3; cases c3
    have fin : ∀ a, x = .ref a → rReprD K [x] H Q := fun a e => by
      subst e
      exact ⟨a, d, rfl, persP.dp hx, c2, c3, of_decide_eq_true c4, short_iff c5, q _ (.str _)⟩
    cases d with
    | list ds =>
      obtain ⟨a, us, e, _⟩ := hx.list
      exact fin a e
    | tuple ds =>
      obtain ⟨a, us, e, _⟩ := hx.tuple
      exact fin a e
    | _ => cases c1
  · cases hf
end
end DL

/-! DL13: list(range(..)), tuple(range(..)); the law's own def. -/
namespace DL
open PySem PySem.Spec L2
open PyProof.Rows hiding St

section
variable {X : Cx} {C : Exs} {W : WX} {K : PySem.W.Frag} {a b : Expr} {ma mb : ME PyData} {pos pos2 p p2 : Pos}
def smallI (j : Int) : Bool := decide (-1048576 ≤ j ∧ j < 1048576)
def mRgL1 (a : ME PyData) : ME (List PyData) := a.bind fun x => ME.lift (match x with | .int j => if smallI j then some (rangeD 0 j.toNat) else none | _ => none)
def mRgL2 (a b : ME PyData) : ME (List PyData) := a.bind fun x => b.bind fun y => ME.lift (match x, y with | .int i, .int j => if smallI i && smallI j then some (rangeD i (j - i).toNat) else none | _, _ => none)
theorem rgV_df {H : Hp} {g : Addr → Prop} (i j : Int) : DfAll K H g (rgV i j) (rangeD i (j - i).toNat) := by
  have h : ∀ l : List Nat, DfAll K H g (l.map fun k => V.int (i + (k : Nat))) (l.map fun (k : Nat) => PyData.int (i + (k : Int))) := fun l => by
    induction l with
    | nil => exact .nil
    | cons x r ih => exact .cons (.int _) ih
  exact h _
theorem rgV_short {i j : Int} (hi : smallI i = true) (hj : smallI j = true) : RgOk i j ∧ (rgV i j).length ≤ sizeLine := by
  have hi := of_decide_eq_true hi
  have hj := of_decide_eq_true hj
  refine ⟨⟨by omega, by omega, by omega, by omega, by omega⟩, ?_⟩
  rw [rgV_length, sizeLine_eq]
  omega
theorem sf_listRg1 (hc : X.calm = true) (hml : X.mg "list" = none) (hmr : X.mg "range" = none) (ha : SE X C W a ma) (hgl : Gl X "list" := by rfl) (hgr : Gl X "range" := by rfl) (na : starEach [a] X.env = (false, eval a X.env) :: starEach [] X.env := by rfl)
    (na2 : starEach [.Call (.Name "range" p2) [a] [] pos2] X.env = (false, eval (.Call (.Name "range" p2) [a] [] pos2) X.env) :: starEach [] X.env := by rfl) : SF X C W (.Call (.Name "list" p) [.Call (.Name "range" p2) [a] [] pos2] [] pos) (mRgL1 ma) :=
  PE.imp (pe_listRg hc hgl hml (prg_1 hgr hmr ha na) na2) fun σ H Q ⟨Γ, env, ds, R, h⟩ => by
    refine ⟨Γ, env, ds, R, h.bind.imp fun d ds1 H1 e1 d1 q x hx => ?_⟩
    obtain ⟨z, hz, q⟩ := lift_some q
    cases d with
    | int j =>
      cases hx
      dsimp only at hz
      split at hz
      · rename_i hj
        cases hz
        obtain ⟨k1, k2⟩ := rgV_short (i := 0) (by decide) hj
        refine ⟨j, rfl, k1, fun r hr => q _ (ext_new hr) (d1.new hr) r _ (R.none_back e1 d1 hr) upd_same k2 (DfAll.newx ?_ hr d1)⟩
        have z := rgV_df (K := X.K) (H := H1) (g := gd Γ σ env) 0 j
        rw [Int.sub_zero] at z
        exact z
      · cases hz
    | _ => cases hz
theorem se_tupRg1 (hc : X.calm = true) (hml : X.mg "tuple" = none) (hmr : X.mg "range" = none) (ha : SE X C W a ma) (hgl : Gl X "tuple" := by rfl) (hgr : Gl X "range" := by rfl) (na : starEach [a] X.env = (false, eval a X.env) :: starEach [] X.env := by rfl)
    (na2 : starEach [.Call (.Name "range" p2) [a] [] pos2] X.env = (false, eval (.Call (.Name "range" p2) [a] [] pos2) X.env) :: starEach [] X.env := by rfl) : SE X C W (.Call (.Name "tuple" p) [.Call (.Name "range" p2) [a] [] pos2] [] pos) (mTup (mRgL1 ma)) :=
  PE.imp (pe_tupRg hc hgl hml (prg_1 hgr hmr ha na) na2) fun σ H Q ⟨Γ, env, ds, R, h⟩ => by
    refine ⟨Γ, env, ds, R, h.bind.bind.imp fun d ds1 H1 e1 d1 q x hx => ?_⟩
    obtain ⟨z, hz, q⟩ := lift_some q
    cases d with
    | int j =>
      cases hx
      dsimp only at hz
      split at hz
      · rename_i hj
        cases hz
        obtain ⟨k1, k2⟩ := rgV_short (i := 0) (by decide) hj
        refine ⟨j, rfl, k1, fun r hr => ?_⟩
        obtain ⟨z, hz, q⟩ := lift_some (q H1 Ext.refl d1)
        split at hz
        · cases hz
          have w := rgV_df (K := X.K) (H := H1) (g := gd Γ σ env) 0 j
          rw [Int.sub_zero] at w
          obtain ⟨x1, x2, x3⟩ := new_tup (R.go e1 d1) w k2 hr
          exact q _ x1 x2 _ x3
        · cases hz
      · cases hz
    | _ => cases hz
theorem sf_listRg2 (hc : X.calm = true) (hml : X.mg "list" = none) (hmr : X.mg "range" = none) (ha : SE X C W a ma) (hb : SE X C W b mb) (hgl : Gl X "list" := by rfl) (hgr : Gl X "range" := by rfl) (na : starEach [a, b] X.env = (false, eval a X.env) :: starEach [b] X.env := by rfl)
    (nb : starEach [b] X.env = (false, eval b X.env) :: starEach [] X.env := by rfl) (hpl : (backTo pos2 (starEach [b] X.env)).any (·.1) = false := by rfl)
    (na2 : starEach [.Call (.Name "range" p2) [a, b] [] pos2] X.env = (false, eval (.Call (.Name "range" p2) [a, b] [] pos2) X.env) :: starEach [] X.env := by rfl) : SF X C W (.Call (.Name "list" p) [.Call (.Name "range" p2) [a, b] [] pos2] [] pos) (mRgL2 ma mb) :=
  PE.imp (pe_listRg hc hgl hml (prg_2 hgr hmr ha hb na nb hpl) na2) fun σ H Q ⟨Γ, env, ds, R, h⟩ => by
    refine ⟨Γ, env, ds, R, h.bind.imp fun d ds1 H1 e1 d1 q x hx => ⟨Γ, env, ds1, R.go e1 d1, q.bind.imp fun e ds2 H2 e2 d2 q y hy => ?_⟩⟩
    obtain ⟨z, hz, q⟩ := lift_some q
    cases d with
    | int i =>
      cases e with
      | int j =>
        cases hx
        cases hy
        dsimp only at hz
        split at hz
        · rename_i hj
          cases hz
          rw [Bool.and_eq_true] at hj
          obtain ⟨k1, k2⟩ := rgV_short hj.1 hj.2
          exact ⟨i, j, rfl, rfl, k1, fun r hr => q _ (ext_new hr) (d2.new hr) r _ (R.none_back e1 d1 ((R.go e1 d1).none_back e2 d2 hr)) upd_same k2 (DfAll.newx (rgV_df i j) hr d2)⟩
        · cases hz
      | _ => cases hz
    | _ => cases hz
end

/-! ### the law's own def, called from the claim's caller: there no repr is under way -/
section
variable {P : Program} {w : World} {K : PySem.W.Frag} {mg mb : Str → Option Value}
def noX : XK := fun _ _ _ => False
/-- what is wanted of the law's body -/
def LawBody (P : Program) (w : World) (K : PySem.W.Frag) (mg : Str → Option Value) (k : Nat) (st : Stmt) (N : List Str) (fa : Addr) (C : Exs) (m : MS) : Prop :=
  ∀ (base : Heap) (cdv : Value) (s : Shared) (H : Hp), K.In base → base.Ns mainGlobals mg → Room k (callerA.deeper (envOfC "law" (defScope st) s.heap.objs.size fa cdv)) → SSs (cxOf (L2.CX P w) P w K mg base N "law" (defScope st) fa cdv callerA [] s H noX) C W0 false (defBody st) m
theorem law_run {st : Stmt} {N : List Str} {k : Nat} {fa a : Addr} {fd : FuncData} {C : Exs} {m : MS} {base : Heap} {s : Shared} {H : Hp} {ns : List Int} (F : Fun K "law" "law" st fa fd) (S : FnScope N ["script"] (defScope st)) (hbind : ∀ (s : Shared) (u : Value), BindsTo s fd ⟨[u], []⟩ [("script", u)]) (hr : Room (k + 1) callerA)
    (hB : LawBody P w K mg k st N fa C m) (e0 : Env0 P w K mg base callerA [] s H) (hbs : base.Ns mainGlobals mg) (hS : ScrAt K H a (ns.map V.int)) (hn : ns.length ≤ 63) (hm : runB N.length 1 false m [.scr ns] none = some (.ok (.bool true), none)) :
    codeAny (model P w) callerA (.call (.ref fa) ⟨[.ref a], []⟩) (CR (L2.CX P w) [] P w H s (fun v _ => v = .bl true) noX) s := by
  obtain ⟨oc, od, kV, doc, pm, an, cdv, ct, osl, efd, lk, hcd⟩ := F.ex
  subst efd
  have inK : K.In s.heap := e0.mod.kin.keeps fun b o e => (e0.bs b o e).1
  have noL : s.heap.NoLimit := e0.mod.nolimit.keeps fun b o e => (e0.bs b o e).1
  have par : ∀ y ∈ [(("script" : Str), Value.ref a)], (defScope st).names.lookup y.1 = some .local ∨ ((defScope st).names.lookup y.1 = some .cell ∧ ((cellsFrom (s.heap.objs.size + 1) (defScope st).names []).lookup y.1).isSome = true) := fun y hy => by
    obtain rfl := List.mem_singleton.mp hy
    exact (S.par "script" List.mem_cons_self).imp id fun q => ⟨q, PySem.W.cellsFrom_some _ _ _ (.inl q)⟩
  refine codeAny_call_function hr.depth (inK _ _ lk) rfl S.co S.gen rfl (PySem.W.codeRec_of inK hcd) (hbind s (.ref a) _ _ _ _ ?_); refine wpAny_newFunctionEnv_cells S.kind par fun env he s1 x => ?_
  subst he
  refine ⟨noL.keeps x.toInCall.keep, codeAny_func ?_⟩
  have I := inv_start (CX := L2.CX P w) (E := noX) (ps := ["script"]) (us := [Value.ref a]) (vs := [V.ref a]) S hr.hd e0 rfl (.cons rfl .nil) x
  have rel := rel_start (K := K) (Γ := ⟨fun _ => True, H, none, []⟩) (H := H) (ds := none) (vs := [V.ref a]) (args := [.scr ns]) (N := N) rfl rfl (fun _ _ => trivial) trivial (.cons ⟨a, rfl, hS, hn⟩ .nil)
  have body := hB base cdv s H e0.mod.kin hbs (hr.deeper _)
  refine wpAny_mono (body.run [] s1 (start N [V.ref a]) H { nx := fun _ H' => (fun v _ => v = V.bl true : VK) .non H', rt := fun v _ => v = V.bl true } I ⟨_, _, _, rel, ?_⟩) (fun fl s' hs => ?_) fun e s' hs => hs
  · show Aft2 K C W0 false _ _ (m ([.scr ns] ++ List.replicate (N.length - 1) .un) none)
    unfold runB at hm
    rcases q : m ([.scr ns] ++ List.replicate (N.length - 1) .un) none with _ | ⟨fl, ds'⟩
    · rw [q] at hm; cases hm
    · rw [q] at hm
      cases fl with
      | rt d =>
        cases hm
        try rw [q]
        refine (fun v H' (r : RetR false K _ H' none v (.bool true)) => ?_ : ∀ (v : V) (H' : Hp), RetR false K _ H' none v (.bool true) → v = V.bl true)
        obtain ⟨_, _, r⟩ := r
        cases r
        rfl
      | nx e => dsimp only at hm; rw [if_neg Bool.false_ne_true] at hm; cases hm
      | bk e => cases hm
      | ct e => cases hm
      | ex x e => cases hm
  · cases fl with
    | ret u =>
      obtain ⟨v, σ', H', J, rv, q⟩ := hs
      exact ⟨v, H', J.os, J.bare, J.base, J.hok, rv, q⟩
    | next =>
      obtain ⟨σ', H', J, q⟩ := hs
      cases q
    | brk => obtain ⟨_, _, _, q⟩ := hs; exact q.elim
    | cont => obtain ⟨_, _, _, q⟩ := hs; exact q.elim
theorem hid_ns {h : Heap} {H : Hp} {b : Addr} {m : Str → Option Value} (x : h.Ns b m) (hn : ∀ (c : Addr) (o : Obj) (es : Array DictEntry) (ep : Nat), h.get? c = some o → o.data = .dict es ep → H c = none) : (hidT h H).Ns b m := by
  obtain ⟨o, es, ep, e, d, r⟩ := x
  exact ⟨o, es, ep, hidT_get e (hn b o es ep e d), d, r⟩
/-- THE END: the law's def, from the caller; nothing is tracked but the script -/
theorem law_go {st : Stmt} {N : List Str} {k : Nat} {fa a : Addr} {fd : FuncData} {C : Exs} {m : MS} {s : Shared} {vs : List Value} {ns : List Int} (KX : K.In s.heap) (hns : s.heap.Ns mainGlobals mg) (hb : s.heap.Ns builtinsNs mb) (hbb : ∀ x : Str, x ≠ "__name__" → mb x = bootBuiltins x) (hlim : s.heap.NoLimit) (hg : s.gens = #[])
    (ha : s.heap.get? a = some { cls := .type "list", data := .seq vs.toArray }) (hi : IntsAre vs ns) (hn : ns.length ≤ 63) (F : Fun K "law" "law" st fa fd) (S : FnScope N ["script"] (defScope st)) (hbind : ∀ (s : Shared) (u : Value), BindsTo s fd ⟨[u], []⟩ [("script", u)]) (hr : Room (k + 1) callerA)
    (hB : LawBody P w K mg k st N fa C m) (hm : runB N.length 1 false m [.scr ns] none = some (.ok (.bool true), none)) :
    codeAny (model P w) callerA (.call (.ref fa) ⟨[.ref a], []⟩) (fun r s' => r = .ok (.ret (.bool true)) ∧ OldK s.heap s'.heap ∧ s'.os = s.os ∧ AllBare s'.gens) s := by
  have rv := vals_ints hi
  have lv := hi.length
  have z63 : (63 : Nat) ≤ sizeLine := by rw [sizeLine_eq]; decide
  have go : ∀ H : Hp, (∀ b, H b = none ∨ (b = a ∧ K.lookup a = none ∧ ∃ o, H b = some (.frz o (.lst (ns.map V.int))))) → ScrAt K H a (ns.map V.int) → HOk P w H s.heap → codeAny (model P w) callerA (.call (.ref fa) ⟨[.ref a], []⟩) (fun r s' => r = .ok (.ret (.bool true)) ∧ OldK s.heap s'.heap ∧ s'.os = s.os ∧ AllBare s'.gens) s := by
    intro H hH hS hok
    have dn : ∀ (c : Addr) (o : Obj) (es : Array DictEntry) (ep : Nat), s.heap.get? c = some o → o.data = .dict es ep → H c = none := fun c o es ep e d => by
      rcases hH c with q | ⟨rfl, _, _⟩
      · exact q
      · rw [ha] at e
        cases e
        cases d
    have inB : K.In (hidT s.heap H) := fun b o e => by
      refine hidT_get (KX b o e) ?_
      rcases hH b with q | ⟨rfl, q, _⟩
      · exact q
      · rw [q] at e; cases e
    have lim : (hidT s.heap H).NoLimit := by
      obtain ⟨mc, h1, h2⟩ := hlim
      exact ⟨mc, hid_ns h1 dn, h2⟩
    have e0 : Env0 P w K mg (hidT s.heap H) callerA [] s H := ⟨rfl, ⟨inB, hid_ns hns dn, ⟨mb, hid_ns hb dn, hbb⟩, lim⟩, fun b o e => of_hidT e, Nat.le_of_eq (hidT_size _ _), trivial, (fun b z => nomatch z), hok, AllBare.of_eq hg⟩
    refine codeAny_mono (law_run F S hbind hr hB e0 (hid_ns hns dn) hS hn hm) fun r s' h => ?_
    rcases r with e | fl
    · obtain ⟨_, _, _, _, _, _, _, _, _, _, _, _, q⟩ := h
      exact q.elim
    · cases fl with
      | ret u =>
        obtain ⟨v, H', os, bare, un, hok', r, q⟩ := h
        have q : v = .bl true := q
        subst q
        obtain rfl : u = Value.bool true := r
        refine ⟨rfl, OldK.of_keep fun b o e => ?_, os, bare⟩
        rcases hH b with q | ⟨rfl, _, ob, q⟩
        · exact un.keep b o e q (fun z => nomatch z) (by simp)
        · obtain ⟨e1, _⟩ := hok b _ q
          obtain ⟨e2, _⟩ := hok' b _ (un.frzs b ob _ q)
          rw [e] at e1
          cases e1
          exact e2
      | next => exact h.elim
      | brk => exact h.elim
      | cont => exact h.elim
  cases hk : K.lookup a with
  | some o =>
    have e := KX a o hk
    rw [ha] at e
    cases e
    exact go (fun _ => none) (fun _ => .inl rfl) (.inr ⟨_, vs.toArray, _, hk, rfl, rfl, rfl, by rw [List.size_toArray, lv]; omega, by simpa using rv⟩) fun b u z => nomatch z
  | none =>
    refine go (fun b => if b = a then some (.frz { cls := .type "list", data := .seq vs.toArray } (.lst (ns.map V.int))) else none) (fun b => ?_) (.inl ⟨_, if_pos rfl⟩) fun b u z => ?_
    · by_cases q : b = a
      · exact .inr ⟨q, hk, _, if_pos q⟩
      · exact .inl (if_neg q)
    · by_cases q : b = a
      · have z2 := (if_pos q).symm.trans z
        cases z2
        subst q
        exact ⟨ha, by rw [List.length_map]; omega, vs, _, rv, ha⟩
      · have z2 := (if_neg q).symm.trans z
        cases z2
end
/-- what the text gives: the law's def, its body's meaning, and that it answers True -/
structure LawTxt (P : Program) (w : World) (K : PySem.W.Frag) (mg : Str → Option Value) (fa : Addr) (k : Nat) (C : Exs) (st : Stmt) (N : List Str) (fd : FuncData) (m : MS) : Prop where
  fn : Fun K "law" "law" st fa fd
  sc : FnScope N ["script"] (defScope st)
  bind : ∀ (s : Shared) (u : Value), BindsTo s fd ⟨[u], []⟩ [("script", u)]
  body : LawBody P w K mg k st N fa C m
  ans : ∀ ns : List Int, ns.length ≤ 63 → runB N.length 1 false m [.scr ns] none = some (.ok (.bool true), none)
theorem walk_law {l : PySem.W.OpenLaw} {k : Nat} {q : Program} {loose : List Str} {XP : (Str → Option Value) → Heap → Prop} {YP : World → Heap → Prop} {d : DefRec} {K : Params → PySem.W.Frag} (hn : l.most = some 63) (hdf : d.params.defaults = []) (hr : Room (k + 1) callerA) (hY : ∀ (w : World) (h : Heap), YP w h → (K w.params).In h)
    (F : ∀ (w : World) (mg : Str → Option Value) (fa : Addr) (h : Heap), (K w.params).In h → h.Ns mainGlobals mg → mg d.name = some (.ref fa) → ∃ C st N fd m, LawTxt l.prog w (K w.params) mg fa k C st N fd m) : PySem.W.WalkO q loose XP YP l.row.toRowW d [] (fun f vs => PySem.call f vs) := by
  refine Att.attach_call hn hdf fun w s₀ s₁ mg mb fa o pm cd doc a vs ns G Y ho hd hcd hmg hobj hints hlen hg => ?_
  obtain ⟨C, st, N, fd, m, T⟩ := F w mg fa _ (hY w _ Y) G.T.g hmg
  exact law_go (hY w _ Y) G.T.g G.T.b G.T.builtins G.T.nolimit hg hobj hints hlen T.fn T.sc T.bind hr T.body (T.ans ns hlen)
end DL

/-! DL14: a, b = e1, e2. -/
namespace DL
open PySem PySem.Spec L2
open PyProof.Rows hiding St

def putS (i j : Nat) (x y : Sl) : MS := fun env ds => match (put i x env).bind (put j y) with
  | some env' => some (.nx env', ds)
  | none => none
def mParDD (i j : Nat) (a b : ME PyData) : MS := exS a fun x => exS b fun y => putS i j (.d x) (.d y)
def mParLD (i j : Nat) (a : ME (List PyData)) (b : ME PyData) : MS := exS a fun x => exS b fun y => putS i j (.l x) (.d y)
def mParDL (i j : Nat) (a : ME PyData) (b : ME (List PyData)) : MS := exS a fun x => exS b fun y => putS i j (.d x) (.l y)
def mParLL (i j : Nat) (a b : ME (List PyData)) : MS := exS a fun x => exS b fun y => putS i j (.l x) (.l y)
section
variable {X : Cx} {C : Exs} {W : WX} {fr : Bool} {K : PySem.W.Frag} {Γ : Gm} {σ : St} {H H1 : Hp} {env : Ev} {ds ds1 : DS}
theorem putS_aft {D : Ends} {i j : Nat} {x y : Sl} (h : Aft2 K C W fr Γ D (putS i j x y env ds)) : ∃ env1 env2, put i x env = some env1 ∧ put j y env1 = some env2 ∧ ∀ σ' H', Rel K Γ σ' H' env2 ds → D.nx σ' H' := by
  unfold putS at h
  cases h1 : put i x env with
  | none => rw [h1] at h; exact h.elim
  | some env1 =>
    rw [h1] at h
    dsimp only [Option.bind] at h
    cases h2 : put j y env1 with
    | none => rw [h2] at h; exact h.elim
    | some env2 => rw [h2] at h; exact ⟨env1, env2, rfl, h2, h⟩
theorem Aft.blk {α : Type} {Hb : Hp} {E : Addr} {r : Rz α} {P : α → DS → Hp → Prop} (h : Aft K C W Γ σ H r P) : Aft K C W (Γ.blk σ env Hb E) σ H r P := by
  unfold Aft at h ⊢
  rcases r with _ | ⟨a | x, ds⟩
  · exact h
  · exact fun H' e d => h H' e d.unblk
  · exact fun cls dd H' e d => h cls dd H' e d.unblk
/-- what is good in the ground apart from p is good behind the storing of p -/
theorem blk_good {Hb : Hp} {p a : Addr} {i : Nat} {xs : List PyData} {env1 : Ev} (hp : put i (.l xs) env = some env1) (hi : i < σ.length) (h : gd (Γ.blk σ env Hb p) σ env a) : gd Γ (σ.set i (some (.ref p))) env1 a := by
  obtain ⟨h1, h2, rfl⟩ := put_some hp
  refine ⟨h.1.1, fun ⟨j, x, q1, q2, q3⟩ => ?_, h.2.2⟩
  by_cases e : i = j
  · subst e
    rw [List.getElem?_set_self hi] at q3
    cases q3
    exact h.1.2 rfl
  · rw [List.getElem?_set_ne e] at q1 q3
    exact h.2.1 ⟨j, x, q1, q2, q3⟩
variable {i j : Nat} {x y : Str} {a b : Expr} {px py pt pos : Pos} {kt k2 : Nat} {pt2 : Pos} {ma mb : ME PyData} {fa fb : ME (List PyData)}
theorem ss_parDD (i j : Nat) (hN : X.N.Nodup) (ha : SE X C W a ma) (hb : SE X C W b mb) (hc : X.calm = true := by rfl) (hi : X.N[i]? = some x := by rfl) (hj : X.N[j]? = some y := by rfl) (hij : i ≠ j := by decide) (hx : X.env.scope.names.lookup x = some .local := by rfl) (hy : X.env.scope.names.lookup y = some .local := by rfl)
    (he : starEach (a :: [b]) X.env = (false, eval a X.env) :: starEach [b] X.env := by rfl) (he2 : starEach (b :: []) X.env = (false, eval b X.env) :: starEach [] X.env := by rfl)
    (hw : swappedStores [.Tuple [.Name x px, .Name y py] kt pt] (.Tuple [a, b] k2 pt2) X.env = pure (some [x, y]) := by rfl) (hs : swapsWithSole [.Tuple [.Name x px, .Name y py] kt pt] (.Tuple [a, b] k2 pt2) pos.line X.env = pure false := by rfl) :
    SS X C W fr (.Assign [.Tuple [.Name x px, .Name y py] kt pt] (.Tuple [a, b] k2 pt2) pos) (mParDD i j ma mb) :=
  PS.imp (ps_par hc hN hi hj hij hx hy (pa_cons ha (pa_cons hb pa_nil he2) he) hw hs) fun D σ H ⟨Γ, env, ds, R, h⟩ => by
    refine ⟨Γ, env, ds, R, (exS_aft R h).imp fun d ds1 H1 e1 d1 q v hv => ?_⟩
    have R1 := R.go e1 d1
    refine ⟨Γ, env, ds1, R1, (exS_aft R1 q).imp fun e ds2 H2 e2 d2 q w hw => ?_⟩
    have R2 := R1.go e2 d2
    obtain ⟨env1, env2, p1, p2, q⟩ := putS_aft q
    refine ⟨v, w, rfl, q _ _ ?_⟩
    have S1 := R2.set_d (Df.ext e2 d1 hv) p1
    refine S1.set_d ((show Df X.K H2 (gd Γ σ env) w e from hw).mono (fun a u z k => ⟨?_, k⟩) fun _ _ z => z) p2
    obtain ⟨_, _, rfl⟩ := put_some p1
    exact gd_set_d rfl z
theorem ss_parDL (i j : Nat) (hN : X.N.Nodup) (ha : SE X C W a ma) (hb : SF X C W b fb) (hc : X.calm = true := by rfl) (hi : X.N[i]? = some x := by rfl) (hj : X.N[j]? = some y := by rfl) (hij : i ≠ j := by decide) (hx : X.env.scope.names.lookup x = some .local := by rfl) (hy : X.env.scope.names.lookup y = some .local := by rfl)
    (he : starEach (a :: [b]) X.env = (false, eval a X.env) :: starEach [b] X.env := by rfl) (he2 : starEach (b :: []) X.env = (false, eval b X.env) :: starEach [] X.env := by rfl)
    (hw : swappedStores [.Tuple [.Name x px, .Name y py] kt pt] (.Tuple [a, b] k2 pt2) X.env = pure (some [x, y]) := by rfl) (hs : swapsWithSole [.Tuple [.Name x px, .Name y py] kt pt] (.Tuple [a, b] k2 pt2) pos.line X.env = pure false := by rfl) :
    SS X C W fr (.Assign [.Tuple [.Name x px, .Name y py] kt pt] (.Tuple [a, b] k2 pt2) pos) (mParDL i j ma fb) :=
  PS.imp (ps_par hc hN hi hj hij hx hy (pa_cons ha (pa_cons hb pa_nil he2) he) hw hs) fun D σ H ⟨Γ, env, ds, R, h⟩ => by
    refine ⟨Γ, env, ds, R, (exS_aft R h).imp fun d ds1 H1 e1 d1 q v hv => ?_⟩
    have R1 := R.go e1 d1
    refine ⟨Γ, env, ds1, R1, (exS_aft R1 q).imp fun e ds2 H2 e2 d2 q p us g1 g2 g3 g4 => ?_⟩
    obtain ⟨env1, env2, p1, p2, q⟩ := putS_aft q
    refine ⟨v, _, rfl, q _ _ ?_⟩
    have S1 := R1.set_d hv p1
    refine S1.set_l e2 d2 g1 g2 g3 (g4.mono (fun a u z k => ⟨⟨?_, z.2⟩, k⟩) fun _ _ z => z) p2
    obtain ⟨_, _, rfl⟩ := put_some p1
    exact gd_set_d rfl z.1
theorem ss_parLD (i j : Nat) (hN : X.N.Nodup) (ha : SF X C W a fa) (hb : SE X C W b mb) (hc : X.calm = true := by rfl) (hi : X.N[i]? = some x := by rfl) (hj : X.N[j]? = some y := by rfl) (hij : i ≠ j := by decide) (hx : X.env.scope.names.lookup x = some .local := by rfl) (hy : X.env.scope.names.lookup y = some .local := by rfl)
    (he : starEach (a :: [b]) X.env = (false, eval a X.env) :: starEach [b] X.env := by rfl) (he2 : starEach (b :: []) X.env = (false, eval b X.env) :: starEach [] X.env := by rfl)
    (hw : swappedStores [.Tuple [.Name x px, .Name y py] kt pt] (.Tuple [a, b] k2 pt2) X.env = pure (some [x, y]) := by rfl) (hs : swapsWithSole [.Tuple [.Name x px, .Name y py] kt pt] (.Tuple [a, b] k2 pt2) pos.line X.env = pure false := by rfl) :
    SS X C W fr (.Assign [.Tuple [.Name x px, .Name y py] kt pt] (.Tuple [a, b] k2 pt2) pos) (mParLD i j fa mb) :=
  PS.imp (ps_par hc hN hi hj hij hx hy (pa_cons ha (pa_cons hb pa_nil he2) he) hw hs) fun D σ H ⟨Γ, env, ds, R, h⟩ => by
    refine ⟨Γ, env, ds, R, (exS_aft R h).imp fun d ds1 H1 e1 d1 q p us g1 g2 g3 g4 => ?_⟩
    have R1 := R.go e1 d1
    have RB : Rel X.K (Γ.blk σ env H1 p) σ H1 env ds1 := R.blk (vs := []) g1 e1 d1 ⟨_, g2⟩ rfl
    refine ⟨_, env, ds1, RB, (exS_aft R1 q).blk.imp fun e ds2 H2 e2 d2 q w hw => ?_⟩
    obtain ⟨env1, env2, p1, p2, q⟩ := putS_aft q
    refine ⟨_, w, rfl, q _ _ ?_⟩
    have S1 := (R.set_l e1 d1 g1 g2 g3 g4 p1).go e2 d2.unblk
    exact S1.set_d ((show Df X.K H2 (gd (Γ.blk σ env H1 p) σ env) w e from hw).mono (fun a u z k => ⟨blk_good p1 (by rw [R.len]; exact (put_some p1).2.1) z, k⟩) fun _ _ z => z) p2
theorem ss_parLL (i j : Nat) (hN : X.N.Nodup) (ha : SF X C W a fa) (hb : SF X C W b fb) (hc : X.calm = true := by rfl) (hi : X.N[i]? = some x := by rfl) (hj : X.N[j]? = some y := by rfl) (hij : i ≠ j := by decide) (hx : X.env.scope.names.lookup x = some .local := by rfl) (hy : X.env.scope.names.lookup y = some .local := by rfl)
    (he : starEach (a :: [b]) X.env = (false, eval a X.env) :: starEach [b] X.env := by rfl) (he2 : starEach (b :: []) X.env = (false, eval b X.env) :: starEach [] X.env := by rfl)
    (hw : swappedStores [.Tuple [.Name x px, .Name y py] kt pt] (.Tuple [a, b] k2 pt2) X.env = pure (some [x, y]) := by rfl) (hs : swapsWithSole [.Tuple [.Name x px, .Name y py] kt pt] (.Tuple [a, b] k2 pt2) pos.line X.env = pure false := by rfl) :
    SS X C W fr (.Assign [.Tuple [.Name x px, .Name y py] kt pt] (.Tuple [a, b] k2 pt2) pos) (mParLL i j fa fb) :=
  PS.imp (ps_par hc hN hi hj hij hx hy (pa_cons ha (pa_cons hb pa_nil he2) he) hw hs) fun D σ H ⟨Γ, env, ds, R, h⟩ => by
    refine ⟨Γ, env, ds, R, (exS_aft R h).imp fun d ds1 H1 e1 d1 q p us g1 g2 g3 g4 => ?_⟩
    have R1 := R.go e1 d1
    have RB : Rel X.K (Γ.blk σ env H1 p) σ H1 env ds1 := R.blk (vs := []) g1 e1 d1 ⟨_, g2⟩ rfl
    refine ⟨_, env, ds1, RB, (exS_aft R1 q).blk.imp fun e ds2 H2 e2 d2 q p' us' f1 f2 f3 f4 => ?_⟩
    obtain ⟨env1, env2, p1, p2, q⟩ := putS_aft q
    refine ⟨_, _, rfl, q _ _ ?_⟩
    have S1 := R.set_l e1 d1 g1 g2 g3 g4 p1
    exact S1.set_l e2 d2.unblk f1 f2 f3 (f4.mono (fun a u z k => ⟨⟨blk_good p1 (by rw [R.len]; exact (put_some p1).2.1) z.1, z.2⟩, k⟩) fun _ _ z => z) p2
end
/-! ### the text's parts -/
/-- an error's class catches itself -/
theorem exm_own {K : PySem.W.Frag} {c : Addr} (hb : PySem.W.subIn K (.ref c) (.type "BaseException") = some true) (hi : PySem.W.isClsIn K c = true) (ht : PySem.W.typeIn K (.ref c) = some (.type "type")) (hs : PySem.W.subIn K (.ref c) (.ref c) = some true) : PySem.W.exmOne K (.ref c) (.ref c) = some true := by
  have a1 : (PySem.W.subIn K (.ref c) (.type "BaseException") == some true) = true := by rw [hb]; rfl
  have a2 : ((PySem.W.clsIn K c).isSome && PySem.W.typeIn K (.ref c) == some (.type "type")) = true := by
    rw [ht, show (PySem.W.clsIn K c).isSome = true from hi]
    rfl
  show (if _ then (if _ then PySem.W.subIn K (.ref c) (.ref c) else none) else none) = some true
  rw [if_pos a1, if_pos a2, hs]
/-- a def of the text -/
structure Dn (K : PySem.W.Frag) (mg : Str → Option Value) (x : Str) (st : Stmt) (ps : List Str) (f : Addr) (fd : FuncData) : Prop where
  fn : Fun K x x st f fd
  mg : mg x = some (.ref f)
  kp : PySem.W.keepIn K (.ref f) = true
  bd : Binds K fd ps []
/-- an error without a field of its own -/
structure Xn (K : PySem.W.Frag) (mg : Str → Option Value) (x : Str) (C : Exs) : Prop where
  g : mg x = some (.ref C.m)
  q : PySem.W.excIn K C.m [.type "ValueError", .type "Exception", .type "BaseException", .type "object"] "ValueError.__new__" = true
  kp : PySem.W.keepIn K (.ref C.m) = true
  r : ∀ {X : Cx}, X.K = K → Raises X (.ref C.m)
  ex : ∀ y cls d H, ExR C y cls d H → PySem.W.exmOne K cls (.ref C.m) = some true
/-- the rule for a def, its meaning by name -/
theorem okD2 {P : Program} {w : World} {K : PySem.W.Frag} {mg : Str → Option Value} {base : Heap} {x qual : Str} {st : Stmt} {fa : Addr} {fd : FuncData} {N ps : List Str} {k n p : Nat} {C : Exs} {fr : Bool} {m : MS} {f : FS} (hf : f = runB n p fr m) (hn : N.length = n) (hp : ps.length = p) (F : Fun K x qual st fa fd) (S : FnScope N ps (defScope st))
    (hbody : ∀ (cdv : Value) (A : Around) (outer : List Env) (s : Shared) (H : Hp) (E : XK), Room k (A.deeper (envOfC qual (defScope st) s.heap.objs.size fa cdv)) → SSs (cxOf (L2.CX P w) P w K mg base N qual (defScope st) fa cdv A outer s H E) C (fun cls d _ H' => E cls d H') fr (defBody st) m) :
    FnOk P w K mg base (L2.CX P w) (k + 1) fa fd ps (spD K C fr p f) := by
  subst hf hn hp
  exact DL.Fun.okD F S hbody
end DL

/-! DL15: meanings evaluated. -/
namespace DL
open PySem PySem.Spec L2
open PyProof.Rows hiding St

section
variable {α β : Type} {env env' : Ev} {ds ds' : DS}
@[simp] theorem rb_ok (x : α) (f : α → DS → Rz β) : Rz.bind (some (.ok x, ds)) f = f x ds := rfl
@[simp] theorem rb_exc (x : Exn) (f : α → DS → Rz β) : Rz.bind (some (.exc x, ds)) f = some (.exc x, ds) := rfl
@[simp] theorem rb_none (f : α → DS → Rz β) : Rz.bind none f = none := rfl
@[simp] theorem lift_ok (x : α) : ME.lift (some x) env ds = some (.ok x, ds) := rfl
@[simp] theorem lift_no : ME.lift (none : Option α) env ds = none := rfl
@[simp] theorem mbind_ev (a : ME α) (f : α → ME β) : ME.bind a f env ds = (a env ds).bind fun x ds => f x env ds := rfl
@[simp] theorem mpure_ev (x : α) : ME.pure x env ds = some (.ok x, ds) := rfl
@[simp] theorem mC_ev (d : PyData) : mC d env ds = some (.ok d, ds) := rfl
@[simp] theorem mV_ev (i : Nat) : mV i env ds = (match env[i]? with | some (.d x) => some (.ok x, ds) | _ => none) := rfl
@[simp] theorem mVp_ev (i : Nat) : mVp i env ds = (match env[i]? with | some (.d x) => some (.ok x, ds) | some (.l xs) => some (.ok (.list xs), ds) | some (.lk xs) => some (.ok (.list xs), ds) | _ => none) := rfl
@[simp] theorem mF_ev (a : ME (List PyData)) : mF a env ds = (a env ds).bind fun xs ds => some (.ok (.list xs), ds) := rfl
@[simp] theorem mOp_ev (f : PyData → PyData → Option PyData) (a b : ME PyData) : mOp f a b env ds = (a env ds).bind fun x ds => (b env ds).bind fun y ds => ME.lift (f x y) env ds := rfl
@[simp] theorem mUn_ev (f : PyData → Option PyData) (a : ME PyData) : mUn f a env ds = (a env ds).bind fun x ds => ME.lift (f x) env ds := rfl
@[simp] theorem mUnF_ev (f : PyData → Option (List PyData)) (a : ME PyData) : mUnF f a env ds = (a env ds).bind fun x ds => ME.lift (f x) env ds := rfl
@[simp] theorem mTst_ev (a : ME PyData) : mTst a env ds = (a env ds).bind fun x ds => ME.lift (match x with | .bool b => some b | _ => none) env ds := rfl
@[simp] theorem mB_ev (a : ME Bool) : mB a env ds = (a env ds).bind fun b ds => some (.ok (.bool b), ds) := rfl
@[simp] theorem mAnd_ev (a b : ME Bool) : mAnd a b env ds = (a env ds).bind fun x ds => (if x then b else ME.pure false) env ds := rfl
@[simp] theorem mOr_ev (a b : ME Bool) : mOr a b env ds = (a env ds).bind fun x ds => (if x then ME.pure true else b) env ds := rfl
@[simp] theorem mNot_ev (a : ME Bool) : mNot a env ds = (a env ds).bind fun x ds => some (.ok (!x), ds) := rfl
@[simp] theorem mIf_ev (c : ME Bool) (a b : ME α) : mIf c a b env ds = (c env ds).bind fun x ds => (if x then a else b) env ds := rfl
@[simp] theorem mNil_ev : mNil env ds = some (.ok [], ds) := rfl
@[simp] theorem mCons_ev (a : ME PyData) (b : ME (List PyData)) : mCons a b env ds = (a env ds).bind fun x ds => (b env ds).bind fun xs ds => some (.ok (x :: xs), ds) := rfl
@[simp] theorem mTup_ev (a : ME (List PyData)) : mTup a env ds = (a env ds).bind fun xs ds => ME.lift (if short xs.length then some (.tuple xs) else none) env ds := rfl
@[simp] theorem mLst_ev (a : ME (List PyData)) : mLst a env ds = (a env ds).bind fun xs ds => ME.lift (if short xs.length then some xs else none) env ds := rfl
@[simp] theorem mIsi_ev (n : Nat) (a : ME PyData) : mIsi n a env ds = (a env ds).bind fun x ds => ME.lift ((isOf (["int", "bool", "tuple", "str", "list"].getD n "") x).map .bool) env ds := rfl
@[simp] theorem mAndV_ev (a b : ME PyData) : mAndV a b env ds = (a env ds).bind fun x ds => (match x with | .bool true => b env ds | .bool false => some (.ok (.bool false), ds) | _ => none) := by
  unfold mAndV
  show (a env ds).bind _ = _
  congr 1
  funext x ds
  rcases x with _ | b | _ | _ | _ | _ | _ <;> first | rfl | (cases b <;> rfl)
@[simp] theorem mOrV_ev (a b : ME PyData) : mOrV a b env ds = (a env ds).bind fun x ds => (match x with | .bool true => some (.ok (.bool true), ds) | .bool false => b env ds | _ => none) := by
  unfold mOrV
  show (a env ds).bind _ = _
  congr 1
  funext x ds
  rcases x with _ | b | _ | _ | _ | _ | _ <;> first | rfl | (cases b <;> rfl)
@[simp] theorem mChain_ev (f f' : PyData → PyData → Option PyData) (a b c : ME PyData) : mChain f f' a b c env ds = (a env ds).bind fun x ds => (b env ds).bind fun y ds => (ME.lift (f x y) env ds).bind fun z ds => (match z with | .bool true => (c env ds).bind fun u ds => ME.lift (f' y u) env ds | .bool false => some (.ok (.bool false), ds) | _ => none) := by
  unfold mChain
  show (a env ds).bind _ = _
  congr 1
  funext x ds
  show (b env ds).bind _ = _
  congr 1
  funext y ds
  show (ME.lift (f x y) env ds).bind _ = _
  congr 1
  funext z ds
  rcases z with _ | b | _ | _ | _ | _ | _ <;> first | rfl | (cases b <;> rfl)
@[simp] theorem mItems_ev (a : ME PyData) : mItems a env ds = (a env ds).bind fun x ds => ME.lift (itemsOf x) env ds := rfl
@[simp] theorem mPart_ev (a : ME PyData) : mPart a env ds = (a env ds).bind fun x ds => ME.lift (match x with | .int i => some (some i) | _ => none) env ds := rfl
@[simp] theorem mNoPart_ev : mNoPart env ds = some (.ok none, ds) := rfl
@[simp] theorem mSlice_ev (a : ME PyData) (l h : ME (Option Int)) : mSlice a l h env ds = (a env ds).bind fun x ds => (l env ds).bind fun lo ds => (h env ds).bind fun hi ds => ME.lift (fSlice x lo hi) env ds := rfl
@[simp] theorem mScr_ev (i : Nat) : mScr i env ds = (match env[i]? with | some (.scr ns) => some (.ok (ns.map .int), ds) | _ => none) := rfl
@[simp] theorem mYes_ev : mYes env ds = some (.ok true, ds) := rfl
@[simp] theorem axNil_ev : axNil env ds = some (.ok [], ds) := rfl
@[simp] theorem axD_ev (a : ME PyData) (r : ME (List Sl)) : axD a r env ds = (a env ds).bind fun x ds => (r env ds).bind fun xs ds => some (.ok (.d x :: xs), ds) := rfl
@[simp] theorem axV_ev (i : Nat) (r : ME (List Sl)) : axV i r env ds = (match env[i]? with | some .drw => (r env ds).bind fun xs ds' => some (.ok (.drw :: xs), ds') | some (.scr ns) => (r env ds).bind fun xs ds' => some (.ok (.scr ns :: xs), ds') | _ => none) := rfl
@[simp] theorem mCall_ev (f : FS) (a : ME (List Sl)) : mCall f a env ds = (a env ds).bind fun args ds => f args ds := rfl
@[simp] theorem mCallP_ev (f : FS) (a : ME (List Sl)) : mCallP f a env ds = (a env ds).bind fun args ds => (f args ds).bind fun d ds' => if noL d then some (.ok d, ds') else none := rfl
@[simp] theorem mCallF_ev (f : FS) (a : ME (List Sl)) : mCallF f a env ds = (a env ds).bind fun args ds => (f args ds).bind fun d ds' => (match d with | .list xs => some (.ok xs, ds') | _ => none) := rfl
@[simp] theorem chk_ev (n : Nat) (f : FS) (args : List Sl) : chk n f args ds = if args.length = n then f args ds else none := rfl
@[simp] theorem mRng1_int (a : ME PyData) {j : Int} (h : a env ds = some (.ok (.int j), ds')) (hj : -(2 ^ 62) ≤ j ∧ j < 2 ^ 62) : mRng1 a env ds = some (.ok (rangeD 0 j.toNat), ds') := by
  unfold mRng1
  rw [mbind_ev, h, rb_ok]
  show ME.lift (if decide _ then _ else _) env ds' = _
  rw [decide_eq_true hj]
  rfl
@[simp] theorem mRgL1_int (a : ME PyData) {j : Int} (h : a env ds = some (.ok (.int j), ds')) (hj : smallI j = true) : mRgL1 a env ds = some (.ok (rangeD 0 j.toNat), ds') := by
  unfold mRgL1
  rw [mbind_ev, h, rb_ok]
  show ME.lift (if smallI j then _ else _) env ds' = _
  rw [hj]
  rfl
/-! statements -/
@[simp] theorem exS_ev (a : ME α) (f : α → MS) : exS a f env ds = (match a env ds with | some (.ok x, ds') => f x env ds' | some (.exc e, ds') => some (.ex e env, ds') | none => none) := rfl
@[simp] theorem mSkip_ev : mSkip env ds = some (.nx env, ds) := rfl
theorem mSeq_nx {a b : MS} (h : a env ds = some (.nx env', ds')) : mSeq a b env ds = b env' ds' := by unfold mSeq; rw [h]
theorem mSeq_rt {a b : MS} {d : PyData} (h : a env ds = some (.rt d, ds')) : mSeq a b env ds = some (.rt d, ds') := by unfold mSeq; rw [h]
theorem mSeq_ex {a b : MS} {x : Exn} (h : a env ds = some (.ex x env', ds')) : mSeq a b env ds = some (.ex x env', ds') := by unfold mSeq; rw [h]
@[simp] theorem mSeq_ev (a b : MS) : mSeq a b env ds = (match a env ds with | some (.nx env', ds') => b env' ds' | r => r) := rfl
@[simp] theorem mSet_ev (i : Nat) (a : ME PyData) : mSet i a env ds = (match a env ds with | some (.ok x, ds') => (match put i (.d x) env with | some env' => some (.nx env', ds') | none => none) | some (.exc e, ds') => some (.ex e env, ds') | none => none) := by
  unfold mSet exS
  rcases a env ds with _ | ⟨_ | _, _⟩ <;> rfl
@[simp] theorem mSetL_ev (i : Nat) (a : ME (List PyData)) : mSetL i a env ds = (match a env ds with | some (.ok x, ds') => (match put i (.l x) env with | some env' => some (.nx env', ds') | none => none) | some (.exc e, ds') => some (.ex e env, ds') | none => none) := by
  unfold mSetL exS
  rcases a env ds with _ | ⟨_ | _, _⟩ <;> rfl
@[simp] theorem mDrop_ev (a : ME PyData) : mDrop a env ds = (match a env ds with | some (.ok x, ds') => some (.nx env, ds') | some (.exc e, ds') => some (.ex e env, ds') | none => none) := by
  unfold mDrop exS
  rcases a env ds with _ | ⟨_ | _, _⟩ <;> rfl
@[simp] theorem mRet_ev (a : ME PyData) : mRet a env ds = (match a env ds with | some (.ok x, ds') => some (.rt x, ds') | some (.exc e, ds') => some (.ex e env, ds') | none => none) := by
  unfold mRet exS
  rcases a env ds with _ | ⟨_ | _, _⟩ <;> rfl
@[simp] theorem mRetF_ev (a : ME (List PyData)) : mRetF a env ds = (match a env ds with | some (.ok x, ds') => some (.rt (.list x), ds') | some (.exc e, ds') => some (.ex e env, ds') | none => none) := by
  unfold mRetF exS
  rcases a env ds with _ | ⟨_ | _, _⟩ <;> rfl
@[simp] theorem mRetL_ev (i : Nat) : mRetL i env ds = (match env[i]? with | some (.l xs) => some (.rt (.list xs), ds) | _ => none) := rfl
@[simp] theorem mRetN_ev : mRetN env ds = some (.rt .none, ds) := rfl
@[simp] theorem mRaise_ev (x : Exn) : mRaise x env ds = some (.ex x env, ds) := rfl
@[simp] theorem mIfS_ev (c : ME Bool) (a b : MS) : mIfS c a b env ds = (match c env ds with | some (.ok x, ds') => (if x then a else b) env ds' | some (.exc e, ds') => some (.ex e env, ds') | none => none) := by
  unfold mIfS exS
  rcases c env ds with _ | ⟨_ | _, _⟩ <;> rfl
@[simp] theorem mAsg_ev (t : Tg) (a : ME PyData) : mAsg t a env ds = (match a env ds with | some (.ok x, ds') => (match t x env with | some env' => some (.nx env', ds') | none => none) | some (.exc e, ds') => some (.ex e env, ds') | none => none) := by
  unfold mAsg exS
  rcases a env ds with _ | ⟨_ | _, _⟩ <;> rfl
@[simp] theorem mApp_ev (i : Nat) (a : ME PyData) : mApp i a env ds = (match env[i]? with | some (.l xs) => (match a env ds with | some (.ok x, ds') => (if decide (xs.length < sizeLine) then some (.nx (env.set i (.l (xs ++ [x]))), ds') else none) | some (.exc e, ds') => some (.ex e env, ds') | none => none) | _ => none) := by
  unfold mApp onL
  rcases env[i]? with _ | (_ | _ | _ | _ | _ | _)
  any_goals rfl
  dsimp only
  rw [exS_ev]
  rcases a env ds with _ | ⟨_ | _, _⟩ <;> rfl
@[simp] theorem tName_ev (i : Nat) (d : PyData) : tName i d env = put i (.d d) env := rfl
@[simp] theorem tTup_ev (n : Nat) (ts : Tgs) (xs : List PyData) : tTup n ts (.tuple xs) env = if xs.length = n then ts xs env else none := rfl
@[simp] theorem tNilT_ev : tNilT [] env = some env := rfl
@[simp] theorem tConsT_ev (t : Tg) (ts : Tgs) (x : PyData) (r : List PyData) : tConsT t ts (x :: r) env = (t x env).bind (ts r) := rfl
/-! evaluated step by step -/
section
variable {ds1 ds2 : DS} {x y z : PyData} {a b : ME PyData}
theorem gOp {f : PyData → PyData → Option PyData} (ha : a env ds = some (.ok x, ds1)) (hb : b env ds1 = some (.ok y, ds2)) (hf : f x y = some z) : mOp f a b env ds = some (.ok z, ds2) := by rw [mOp_ev, ha, rb_ok, hb, rb_ok, hf]; rfl
theorem gUn {f : PyData → Option PyData} (ha : a env ds = some (.ok x, ds1)) (hf : f x = some z) : mUn f a env ds = some (.ok z, ds1) := by rw [mUn_ev, ha, rb_ok, hf]; rfl
theorem gUnF {f : PyData → Option (List PyData)} {zs : List PyData} (ha : a env ds = some (.ok x, ds1)) (hf : f x = some zs) : mUnF f a env ds = some (.ok zs, ds1) := by rw [mUnF_ev, ha, rb_ok, hf]; rfl
theorem gF {m : ME (List PyData)} {xs : List PyData} (ha : m env ds = some (.ok xs, ds1)) : mF m env ds = some (.ok (.list xs), ds1) := by rw [mF_ev, ha]; rfl
theorem gTst {k : Bool} (ha : a env ds = some (.ok (.bool k), ds1)) : mTst a env ds = some (.ok k, ds1) := by rw [mTst_ev, ha]; rfl
theorem gNot {m : ME Bool} {k : Bool} (ha : m env ds = some (.ok k, ds1)) : mNot m env ds = some (.ok (!k), ds1) := by rw [mNot_ev, ha]; rfl
theorem gOr {m m' : ME Bool} {k k' : Bool} (ha : m env ds = some (.ok k, ds1)) (hb : m' env ds1 = some (.ok k', ds1)) : mOr m m' env ds = some (.ok (k || k'), ds1) := by
  rw [mOr_ev, ha, rb_ok]
  cases k
  · exact hb
  · rfl
theorem gAnd {m m' : ME Bool} {k k' : Bool} (ha : m env ds = some (.ok k, ds1)) (hb : m' env ds1 = some (.ok k', ds1)) : mAnd m m' env ds = some (.ok (k && k'), ds1) := by
  rw [mAnd_ev, ha, rb_ok]
  cases k
  · rfl
  · exact hb
theorem gAndV {k k' : Bool} (ha : a env ds = some (.ok (.bool k), ds1)) (hb : b env ds1 = some (.ok (.bool k'), ds1)) : mAndV a b env ds = some (.ok (.bool (k && k')), ds1) := by
  rw [mAndV_ev, ha, rb_ok]
  cases k
  · rfl
  · exact hb
theorem gOrV {k k' : Bool} (ha : a env ds = some (.ok (.bool k), ds1)) (hb : b env ds1 = some (.ok (.bool k'), ds1)) : mOrV a b env ds = some (.ok (.bool (k || k')), ds1) := by
  rw [mOrV_ev, ha, rb_ok]
  cases k
  · exact hb
  · rfl
theorem gChain {c : ME PyData} {f f' : PyData → PyData → Option PyData} {u : PyData} {k k' : Bool} (ha : a env ds = some (.ok x, ds)) (hb : b env ds = some (.ok y, ds)) (hf : f x y = some (.bool k)) (hc : c env ds = some (.ok u, ds)) (hf' : f' y u = some (.bool k')) : mChain f f' a b c env ds = some (.ok (.bool (k && k')), ds) := by
  rw [mChain_ev, ha, rb_ok, hb, rb_ok, hf, lift_ok, rb_ok]
  cases k
  · rfl
  · dsimp only
    rw [hc, rb_ok, hf']
    rfl
theorem gCons {r : ME (List PyData)} {xs : List PyData} (ha : a env ds = some (.ok x, ds1)) (hr : r env ds1 = some (.ok xs, ds2)) : mCons a r env ds = some (.ok (x :: xs), ds2) := by rw [mCons_ev, ha, rb_ok, hr]; rfl
theorem gTup {r : ME (List PyData)} {xs : List PyData} (ha : r env ds = some (.ok xs, ds1)) (hs : short xs.length = true) : mTup r env ds = some (.ok (.tuple xs), ds1) := by rw [mTup_ev, ha, rb_ok, hs]; rfl
theorem gLst {r : ME (List PyData)} {xs : List PyData} (ha : r env ds = some (.ok xs, ds1)) (hs : short xs.length = true) : mLst r env ds = some (.ok xs, ds1) := by rw [mLst_ev, ha, rb_ok, hs]; rfl
theorem gItems {xs : List PyData} (ha : a env ds = some (.ok x, ds1)) (hx : itemsOf x = some xs) : mItems a env ds = some (.ok xs, ds1) := by rw [mItems_ev, ha, rb_ok, hx]; rfl
theorem gCall {f : FS} {n : Nat} {r : ME (List Sl)} {args : List Sl} (ha : r env ds = some (.ok args, ds1)) (hn : args.length = n) {o : Rz PyData} (hf : f args ds1 = o) : mCall (chk n f) r env ds = o := by rw [mCall_ev, ha, rb_ok, chk_ev, if_pos hn, hf]
theorem gAx {r : ME (List Sl)} {xs : List Sl} (ha : a env ds = some (.ok x, ds1)) (hr : r env ds1 = some (.ok xs, ds2)) : axD a r env ds = some (.ok (.d x :: xs), ds2) := by rw [axD_ev, ha, rb_ok, hr]; rfl
theorem gSet {i : Nat} (ha : a env ds = some (.ok x, ds1)) (hp : put i (.d x) env = some env') : mSet i a env ds = some (.nx env', ds1) := by rw [mSet_ev, ha]; dsimp only; rw [hp]
theorem gSetL {i : Nat} {m : ME (List PyData)} {xs : List PyData} (ha : m env ds = some (.ok xs, ds1)) (hp : put i (.l xs) env = some env') : mSetL i m env ds = some (.nx env', ds1) := by rw [mSetL_ev, ha]; dsimp only; rw [hp]
theorem gDrop (ha : a env ds = some (.ok x, ds1)) : mDrop a env ds = some (.nx env, ds1) := by rw [mDrop_ev, ha]
theorem gRet (ha : a env ds = some (.ok x, ds1)) : mRet a env ds = some (.rt x, ds1) := by rw [mRet_ev, ha]
theorem gIfS {c : ME Bool} {m m' : MS} {k : Bool} (hc : c env ds = some (.ok k, ds1)) : mIfS c m m' env ds = (if k then m else m') env ds1 := by rw [mIfS_ev, hc]
theorem gIfT {c : ME Bool} {m m' : MS} (hc : c env ds = some (.ok true, ds1)) : mIfS c m m' env ds = m env ds1 := by rw [mIfS_ev, hc]; rfl
theorem gIfF {c : ME Bool} {m m' : MS} (hc : c env ds = some (.ok false, ds1)) : mIfS c m m' env ds = m' env ds1 := by rw [mIfS_ev, hc]; rfl
theorem gIf {γ : Type} {c : ME Bool} {m m' : ME γ} {k : Bool} (hc : c env ds = some (.ok k, ds1)) : mIf c m m' env ds = (if k then m else m') env ds1 := by rw [mIf_ev, hc]; rfl
theorem gSeq {m m' : MS} {o : Option (Fl × DS)} (h : m env ds = some (.nx env', ds1)) (h' : m' env' ds1 = o) : mSeq m m' env ds = o := by rw [mSeq_nx h, h']
theorem gFor {mi : ME (List PyData)} {t : Tg} {body : MS} {xs : List PyData} {o : Option (Fl × DS)} (hi : mi env ds = some (.ok xs, ds1)) (h : forGo t body xs env ds1 = o) : mFor mi t body env ds = o := by
  unfold mFor
  rw [exS_ev, hi]
  exact h
theorem gRunRt {nN np : Nat} {fr : Bool} {m : MS} {args : List Sl} (h : m (args ++ List.replicate (nN - np) .un) ds = some (.rt x, ds1)) : runB nN np fr m args ds = some (.ok x, ds1) := by unfold runB; rw [h]
theorem gRunNx {nN np : Nat} {m : MS} {args : List Sl} (h : m (args ++ List.replicate (nN - np) .un) ds = some (.nx env', ds1)) : runB nN np false m args ds = some (.ok .none, ds1) := by unfold runB; rw [h]; rfl
theorem gRunEx {nN np : Nat} {fr : Bool} {m : MS} {args : List Sl} {e : Exn} (h : m (args ++ List.replicate (nN - np) .un) ds = some (.ex e env', ds1)) : runB nN np fr m args ds = some (.exc e, ds1) := by unfold runB; rw [h]
theorem gApp {i : Nat} {xs : List PyData} (hs : env[i]? = some (.l xs)) (ha : a env ds = some (.ok x, ds1)) (hl : xs.length < 16777216) : mApp i a env ds = some (.nx (env.set i (.l (xs ++ [x]))), ds1) := by
  rw [mApp_ev, hs]
  dsimp only
  rw [ha]
  dsimp only
  rw [show decide (xs.length < sizeLine) = true from decide_eq_true (by rw [sizeLine_eq]; exact hl), if_pos rfl]
theorem gAsg {t : Tg} (ha : a env ds = some (.ok x, ds1)) (ht : t x env = some env') : mAsg t a env ds = some (.nx env', ds1) := by rw [mAsg_ev, ha]; dsimp only; rw [ht]
end
theorem short_of {n : Nat} (h : n ≤ 16777216) : short n = true := decide_eq_true (by rw [sizeLine_eq]; exact h)
theorem lt_line {n : Nat} (h : n < 16777216) : decide (n < sizeLine) = true := decide_eq_true (by rw [sizeLine_eq]; exact h)
/-! the walks -/
theorem compGo_ev {γ : Type} {e : γ → PyData} {t : Tg} {c : ME Bool} {elt : ME PyData} {p : γ → Bool} {g : γ → PyData} : ∀ (xs : List γ) (acc : List PyData), (∀ x ∈ xs, ∃ env1, t (e x) env = some env1 ∧ c env1 ds = some (.ok (p x), ds) ∧ (p x = true → elt env1 ds = some (.ok (g x), ds))) → acc.length + xs.length ≤ 16777216 →
    compGo t c elt env (xs.map e) ds acc = some (acc ++ (xs.filter p).map g, ds)
  | [], acc, _, _ => by show some (acc, ds) = _; rw [List.filter_nil, List.map_nil, List.append_nil]
  | x :: r, acc, h, hl => by
    obtain ⟨env1, h1, h2, h3⟩ := h x List.mem_cons_self
    rw [List.length_cons] at hl
    show (match t (e x) env with | none => none | some env1 => _) = _
    rw [h1]
    dsimp only
    rw [h2]
    cases hp : p x with
    | true =>
      dsimp only
      rw [h3 hp]
      dsimp only
      rw [lt_line (by omega), if_pos rfl, compGo_ev r (acc ++ [g x]) (fun y hy => h y (List.mem_cons_of_mem _ hy)) (by rw [List.length_append, List.length_singleton]; omega), List.filter_cons, if_pos hp, List.map_cons, List.append_assoc]
      rfl
    | false =>
      dsimp only
      rw [compGo_ev r acc (fun y hy => h y (List.mem_cons_of_mem _ hy)) (by omega), List.filter_cons, if_neg (by rw [hp]; exact Bool.false_ne_true)]
theorem comp_ev {γ : Type} {e : γ → PyData} {xs : List γ} {vs : List Nat} {mi : ME (List PyData)} {t : Tg} {c : ME Bool} {elt : ME PyData} {env1 : Ev} (p : γ → Bool) (g : γ → PyData) (hi : mi env ds = some (.ok (xs.map e), ds)) (hw : wipeE env vs = some env1)
    (h : ∀ x ∈ xs, ∃ env2, t (e x) env1 = some env2 ∧ c env2 ds = some (.ok (p x), ds) ∧ (p x = true → elt env2 ds = some (.ok (g x), ds))) (hl : xs.length ≤ 16777216) : mComp vs mi t c elt env ds = some (.ok ((xs.filter p).map g), ds) := by
  unfold mComp
  rw [mbind_ev, hi, rb_ok, hw]
  dsimp only
  rw [compGo_ev xs [] h (by rw [List.length_nil]; omega)]
  rfl
theorem comp2Go_ev {γ δ : Type} {e : γ → PyData} {e' : δ → PyData} {t : Tg} {c : ME Bool} {mi : ME (List PyData)} {vs1 : List Nat} {t1 : Tg} {c1 : ME Bool} {elt : ME PyData} {ys : γ → List δ} {g : γ → δ → PyData} {b : Nat} : ∀ (xs : List γ) (acc : List PyData),
    (∀ x ∈ xs, (ys x).length ≤ b ∧ ∃ env1 env2, t (e x) env = some env1 ∧ c env1 ds = some (.ok true, ds) ∧ mi env1 ds = some (.ok ((ys x).map e'), ds) ∧ wipeE env1 vs1 = some env2 ∧ ∀ y ∈ ys x, ∃ env3, t1 (e' y) env2 = some env3 ∧ c1 env3 ds = some (.ok true, ds) ∧ elt env3 ds = some (.ok (g x y), ds)) → acc.length + xs.length * b ≤ 16777216 →
    comp2Go t c mi vs1 t1 c1 elt env (xs.map e) ds acc = some (acc ++ xs.flatMap (fun x => (ys x).map (g x)), ds)
  | [], acc, _, _ => by show some (acc, ds) = _; rw [List.flatMap_nil, List.append_nil]
  | x :: r, acc, h, hl => by
    obtain ⟨hb, env1, env2, h1, h2, h3, h4, h5⟩ := h x List.mem_cons_self
    rw [List.length_cons, Nat.succ_mul] at hl
    show (match t (e x) env with | none => none | some env1 => _) = _
    rw [h1]
    dsimp only
    rw [h2]
    dsimp only
    rw [h3]
    dsimp only
    rw [h4]
    dsimp only
    rw [compGo_ev (p := fun _ => true) (g := g x) (ys x) acc (fun y hy => by obtain ⟨env3, q1, q2, q3⟩ := h5 y hy; exact ⟨env3, q1, q2, fun _ => q3⟩) (by omega)]
    dsimp only
    have hf : (ys x).filter (fun _ => true) = ys x := List.filter_eq_self.mpr fun _ _ => rfl
    rw [hf, comp2Go_ev r _ (fun y hy => h y (List.mem_cons_of_mem _ hy)) (by rw [List.length_append, List.length_map]; omega), List.flatMap_cons, List.append_assoc]
theorem comp2_ev {γ δ : Type} {e : γ → PyData} {e' : δ → PyData} {xs : List γ} {vs : List Nat} {m0 mi : ME (List PyData)} {t : Tg} {c : ME Bool} {vs1 : List Nat} {t1 : Tg} {c1 : ME Bool} {elt : ME PyData} {env1 : Ev} (ys : γ → List δ) (g : γ → δ → PyData) (b : Nat) (hi : m0 env ds = some (.ok (xs.map e), ds)) (hw : wipeE env vs = some env1)
    (h : ∀ x ∈ xs, (ys x).length ≤ b ∧ ∃ env2 env3, t (e x) env1 = some env2 ∧ c env2 ds = some (.ok true, ds) ∧ mi env2 ds = some (.ok ((ys x).map e'), ds) ∧ wipeE env2 vs1 = some env3 ∧ ∀ y ∈ ys x, ∃ env4, t1 (e' y) env3 = some env4 ∧ c1 env4 ds = some (.ok true, ds) ∧ elt env4 ds = some (.ok (g x y), ds)) (hl : xs.length * b ≤ 16777216) :
    mComp2 vs m0 t c mi vs1 t1 c1 elt env ds = some (.ok (xs.flatMap fun x => (ys x).map (g x)), ds) := by
  unfold mComp2
  rw [mbind_ev, hi, rb_ok, hw]
  dsimp only
  rw [comp2Go_ev xs [] h (by rw [List.length_nil]; omega)]
  rfl
/-- a comprehension that draws: I holds between, each item is given what P tells -/
theorem compGo_draw {t : Tg} {elt : ME PyData} {I : DS → Prop} {P : PyData → PyData → Prop} : ∀ (items acc : List PyData) (ds : DS), (∀ x ∈ items, ∃ env1, t x env = some env1 ∧ ∀ ds, I ds → ∃ y ds', elt env1 ds = some (.ok y, ds') ∧ I ds' ∧ P x y) → I ds → acc.length + items.length ≤ 16777216 →
    ∃ ys ds', compGo t mYes elt env items ds acc = some (acc ++ ys, ds') ∧ I ds' ∧ Paired P items ys
  | [], acc, ds, _, hI, _ => ⟨[], ds, by rw [List.append_nil]; rfl, hI, .nil⟩
  | x :: r, acc, ds, h, hI, hl => by
    obtain ⟨env1, h1, h2⟩ := h x List.mem_cons_self
    obtain ⟨y, ds1, h3, h4, h5⟩ := h2 ds hI
    rw [List.length_cons] at hl
    obtain ⟨ys, ds', k1, k2, k3⟩ := compGo_draw r (acc ++ [y]) ds1 (fun z hz => h z (List.mem_cons_of_mem _ hz)) h4 (by rw [List.length_append, List.length_singleton]; omega)
    refine ⟨y :: ys, ds', ?_, k2, .cons h5 k3⟩
    show (match t x env with | none => none | some env1 => _) = _
    rw [h1]
    dsimp only
    rw [mYes_ev]
    dsimp only
    rw [h3]
    dsimp only
    rw [lt_line (by omega), if_pos rfl, k1, List.append_assoc]
    rfl
theorem comp_draw {items : List PyData} {vs : List Nat} {mi : ME (List PyData)} {t : Tg} {elt : ME PyData} {env1 : Ev} {I : DS → Prop} {P : PyData → PyData → Prop} (hi : mi env ds = some (.ok items, ds)) (hw : wipeE env vs = some env1)
    (h : ∀ x ∈ items, ∃ env2, t x env1 = some env2 ∧ ∀ ds, I ds → ∃ y ds', elt env2 ds = some (.ok y, ds') ∧ I ds' ∧ P x y) (hI : I ds) (hl : items.length ≤ 16777216) : ∃ ys ds', mComp vs mi t mYes elt env ds = some (.ok ys, ds') ∧ I ds' ∧ Paired P items ys := by
  obtain ⟨ys, ds', k1, k2, k3⟩ := compGo_draw items [] ds h hI (by rw [List.length_nil]; omega)
  refine ⟨ys, ds', ?_, k2, k3⟩
  unfold mComp
  rw [mbind_ev, hi, rb_ok, hw]
  dsimp only
  rw [k1]
  rfl
/-- for, by what holds ahead of each turn -/
theorem for_inv {t : Tg} {body : MS} {I : Nat → Ev → DS → Prop} : ∀ (items : List PyData) (k : Nat) (env : Ev) (ds : DS), (∀ (i : Nat) (x : PyData) (env : Ev) (ds : DS), items[i]? = some x → I (k + i) env ds → ∃ env1 env2 ds2, t x env = some env1 ∧ body env1 ds = some (.nx env2, ds2) ∧ I (k + i + 1) env2 ds2) → I k env ds →
    ∃ env' ds', forGo t body items env ds = some (.nx env', ds') ∧ I (k + items.length) env' ds'
  | [], k, env, ds, _, hI => ⟨env, ds, rfl, hI⟩
  | x :: r, k, env, ds, h, hI => by
    obtain ⟨env1, env2, ds2, h1, h2, h3⟩ := h 0 x env ds rfl hI
    obtain ⟨env', ds', k1, k2⟩ := for_inv (I := I) r (k + 1) env2 ds2 (fun i y e d hy hi => by
      have q := h (i + 1) y e d (by simpa using hy) (by rw [show k + (i + 1) = k + 1 + i by omega]; exact hi)
      rw [show k + (i + 1) + 1 = k + 1 + i + 1 by omega] at q
      exact q) h3
    refine ⟨env', ds', ?_, by rw [List.length_cons, show k + (r.length + 1) = k + 1 + r.length by omega]; exact k2⟩
    show (match t x env with | none => none | some env1 => _) = _
    rw [h1]
    dsimp only
    rw [h2]
    exact k1
/-- while, by a bound of the turns -/
theorem while_inv {c : ME Bool} {body : MS} {I : Nat → Ev → DS → Prop} {Post : Ev → DS → Prop} (h : ∀ (k : Nat) (env : Ev) (ds : DS), I k env ds → (∃ ds', c env ds = some (.ok false, ds') ∧ Post env ds') ∨ ∃ ds1 env2 ds2 j, c env ds = some (.ok true, ds1) ∧ body env ds1 = some (.nx env2, ds2) ∧ j < k ∧ I j env2 ds2) :
    ∀ (n k : Nat) (env : Ev) (ds : DS), k < n → I k env ds → ∃ env' ds', whileGo c body n env ds = some (.nx env', ds') ∧ Post env' ds'
  | 0, k, _, _, hk, _ => absurd hk (Nat.not_lt_zero _)
  | n + 1, k, env, ds, hk, hI => by
    rcases h k env ds hI with ⟨ds', h1, h2⟩ | ⟨ds1, env2, ds2, j, h1, h2, h3, h4⟩
    · exact ⟨env, ds', by show (match c env ds with | some (.ok true, ds1) => _ | some (.ok false, ds1) => _ | some (.exc x, ds1) => _ | none => _) = _; rw [h1], h2⟩
    · obtain ⟨env', ds', k1, k2⟩ := while_inv h n j env2 ds2 (by omega) h4
      refine ⟨env', ds', ?_, k2⟩
      show (match c env ds with | some (.ok true, ds1) => _ | some (.ok false, ds1) => _ | some (.exc x, ds1) => _ | none => _) = _
      rw [h1]
      dsimp only
      rw [h2]
      exact k1
end
end DL

/-! DL16: what repr shows: how long, of which signs; orders of ints. -/
namespace DL
open PySem PySem.Spec L2
open PyProof.Rows hiding St

theorem strOk_of (s : String) : PyData.strOk (Str.ofString s) = true := by
  rw [Str.ofString_eq_toList]
  unfold PyData.strOk
  rw [Array.all_eq_true_iff_forall_mem]
  intro c hc
  have hc : c ∈ s.toList.map Char.toNat := by simpa using hc
  obtain ⟨ch, _, rfl⟩ := List.mem_map.mp hc
  refine decide_eq_true ?_
  have h := ch.valid
  show ch.val.toNat < 1114112
  rcases h with h | h
  · exact Nat.lt_trans h (by decide)
  · exact h.2
theorem strOk_app {a b : Str} (ha : PyData.strOk a = true) (hb : PyData.strOk b = true) : PyData.strOk (a ++ b) = true := by
  unfold PyData.strOk at ha hb ⊢
  rw [Array.all_eq_true_iff_forall_mem] at ha hb ⊢
  intro c hc
  have hc : c ∈ a.cps ++ b.cps := hc
  rcases Array.mem_append.mp hc with h | h
  · exact ha c h
  · exact hb c h
theorem strOk_join : ∀ ts : List Str, (∀ t ∈ ts, PyData.strOk t = true) → PyData.strOk (Str.join ", " ts) = true
  | [], _ => by decide +kernel
  | [x], h => h x List.mem_cons_self
  | x :: y :: r, h => strOk_app (strOk_app (h x List.mem_cons_self) (strOk_of _)) (strOk_join (y :: r) fun t ht => h t (List.mem_cons_of_mem _ ht))
theorem strOk_from : ∀ (ts : List Str) (k : Nat) (acc : Str), PyData.strOk acc = true → (∀ t ∈ ts, PyData.strOk t = true) → PyData.strOk (textFrom k acc ts) = true
  | [], _, _, ha, _ => ha
  | t :: r, k, acc, ha, h => strOk_from r (k + 1) _ (strOk_app (strOk_app ha (strOk_of _)) (h t List.mem_cons_self)) fun u hu => h u (List.mem_cons_of_mem _ hu)
theorem len_join : ∀ ts : List Str, (Str.join ", " ts).length ≤ piled ts
  | [] => Nat.le_refl _
  | x :: r => by have := join_length_add (x :: r) (by simp); omega
theorem len_from : ∀ (ts : List Str) (k : Nat) (acc : Str), (textFrom k acc ts).length ≤ acc.length + piled ts
  | [], _, _ => Nat.le_refl _
  | t :: r, k, acc => by
    refine Nat.le_trans (len_from r (k + 1) _) ?_
    rw [strLen_append, strLen_append, piled_cons]
    have : (((if k > 0 then ", " else "" : String) : Str)).length ≤ 2 := by split <;> decide
    omega
mutual
def cost : PyData → Nat
  | .none => 4
  | .bool _ => 5
  | .int i => if 0 ≤ i ∧ i < 100 then 2 else 100000000
  | .str _ => 100000000
  | .list xs => costs xs + 4
  | .tuple xs => costs xs + 4
  | .dict _ => 100000000
def costs : List PyData → Nat
  | [] => 0
  | x :: r => cost x + 2 + costs r
end
structure Shows (d : PyData) : Prop where
  len : d.shown.length ≤ cost d
  ok : PyData.strOk d.shown = true
  sh : d.showable = true
  nd : d.hasDict = false
theorem small_text : ∀ n : Nat, n < 100 → (Str.ofString (toString (n : Int))).length ≤ 2 := by decide +kernel
mutual
theorem shows : ∀ d : PyData, cost d ≤ 10000000 → Shows d
  | .none, _ => ⟨by decide +kernel, by decide +kernel, rfl, rfl⟩
  | .bool true, _ => ⟨by decide +kernel, by decide +kernel, rfl, rfl⟩
  | .bool false, _ => ⟨by decide +kernel, by decide +kernel, rfl, rfl⟩
  | .int i, h => by
    have hc : 0 ≤ i ∧ i < 100 := by
      by_cases c : 0 ≤ i ∧ i < 100
      · exact c
      · have e : cost (.int i) = 100000000 := by
          show (if 0 ≤ i ∧ i < 100 then 2 else 100000000) = _
          rw [if_neg c]
        omega
    have e : cost (.int i) = 2 := by
      show (if 0 ≤ i ∧ i < 100 then 2 else 100000000) = _
      rw [if_pos hc]
    obtain ⟨n, rfl⟩ : ∃ n : Nat, i = (n : Int) := ⟨i.toNat, by omega⟩
    refine ⟨by rw [e]; exact small_text n (by omega), strOk_of _, ?_, rfl⟩
    show decide ((n : Int).natAbs.log2 < 1920) = true
    refine decide_eq_true ?_
    rw [Int.natAbs_natCast]
    have h0 : ∀ n : Nat, n < 100 → n.log2 < 1920 := by decide +kernel
    exact h0 n (by omega)
  | .str _, h => absurd h (by show ¬ 100000000 ≤ 10000000; decide)
  | .dict _, h => absurd h (by show ¬ 100000000 ≤ 10000000; decide)
  | .list xs, h => by
    have e : cost (.list xs) = costs xs + 4 := rfl
    obtain ⟨h1, h2, h3, h4⟩ := showsAll xs (by omega)
    refine ⟨?_, ?_, h3, h4⟩
    · show (textFrom 0 "[" (PyData.shownAll xs) ++ ("]" : Str)).length ≤ _
      have := len_from (PyData.shownAll xs) 0 "["
      have l1 : (("[" : String) : Str).length = 1 := rfl
      have l2 : (("]" : String) : Str).length = 1 := rfl
      rw [strLen_append, l2, e]
      omega
    · exact strOk_app (strOk_from _ _ _ (strOk_of _) h2) (strOk_of _)
  | .tuple xs, h => by
    have e : cost (.tuple xs) = costs xs + 4 := rfl
    obtain ⟨h1, h2, h3, h4⟩ := showsAll xs (by omega)
    refine ⟨?_, ?_, h3, h4⟩
    · show (("(" : Str) ++ Str.join ", " (PyData.shownAll xs) ++ (((if (PyData.shownAll xs).length == 1 then ",)" else ")" : String) : Str))).length ≤ _
      have := len_join (PyData.shownAll xs)
      have l1 : (("(" : String) : Str).length = 1 := rfl
      have l2 : (((if (PyData.shownAll xs).length == 1 then ",)" else ")" : String) : Str)).length ≤ 2 := by split <;> decide
      rw [strLen_append, strLen_append, l1, e]
      omega
    · exact strOk_app (strOk_app (strOk_of _) (strOk_join _ h2)) (strOk_of _)
theorem showsAll : ∀ xs : List PyData, costs xs ≤ 10000000 → piled (PyData.shownAll xs) ≤ costs xs ∧ (∀ t ∈ PyData.shownAll xs, PyData.strOk t = true) ∧ PyData.showableAll xs = true ∧ PyData.hasDictAll xs = false
  | [], _ => ⟨Nat.le_refl _, (fun _ h => nomatch h), rfl, rfl⟩
  | x :: r, h => by
    have e : costs (x :: r) = cost x + 2 + costs r := rfl
    obtain ⟨a1, a2, a3, a4⟩ := shows x (by omega)
    obtain ⟨b1, b2, b3, b4⟩ := showsAll r (by omega)
    refine ⟨?_, fun t ht => ?_, ?_, ?_⟩
    · show piled (x.shown :: PyData.shownAll r) ≤ _
      rw [piled_cons, e]
      omega
    · rcases List.mem_cons.mp (show t ∈ x.shown :: PyData.shownAll r from ht) with q | q
      · subst q; exact a2
      · exact b2 t q
    · show (x.showable && PyData.showableAll r) = true
      rw [a3, b3]; rfl
    · show (x.hasDict || PyData.hasDictAll r) = false
      rw [a4, b4]; rfl
end
/-- repr of small data -/
theorem fRepr_ok {d : PyData} (h1 : isSeq d = true) (h2 : cost d ≤ 10000000) (h3 : d.depth ≤ 60) : fRepr d = some (.str d.shown) ∧ SeqAt.shaped (.str d.shown) = true := by
  obtain ⟨a1, a2, a3, a4⟩ := shows d h2
  refine ⟨?_, ?_⟩
  · unfold fRepr
    rw [h1, a3, a4, decide_eq_true h3, show short d.shown.length = true from decide_eq_true (by rw [sizeLine_eq]; omega)]
    rfl
  · unfold SeqAt.shaped
    rw [show (PyData.str d.shown).canLay0 = true from a2]
    rfl
theorem eqv_str (x : Str) : PyData.eqv (.str x) (.str x) = true := beq_self_eq_true x
/-- how much lists of small data cost -/
theorem costs_le {k : Nat} : ∀ xs : List PyData, (∀ x ∈ xs, cost x ≤ k) → costs xs ≤ (k + 2) * xs.length
  | [], _ => Nat.zero_le _
  | x :: r, h => by
    have h1 := h x List.mem_cons_self
    have h2 := costs_le r fun y hy => h y (List.mem_cons_of_mem _ hy)
    rw [List.length_cons, Nat.mul_succ]
    show cost x + 2 + costs r ≤ _
    omega
theorem depthAll_le {k : Nat} : ∀ xs : List PyData, (∀ x ∈ xs, x.depth ≤ k) → PyData.depthAll xs ≤ k
  | [], _ => Nat.zero_le _
  | x :: r, h => by
    have h1 := h x List.mem_cons_self
    have h2 := depthAll_le r fun y hy => h y (List.mem_cons_of_mem _ hy)
    have e : PyData.depthAll (x :: r) = max x.depth (PyData.depthAll r) := by first | rfl | rw [PyData.depthAll]
    rw [e]
    exact Nat.max_le.mpr ⟨h1, h2⟩
theorem depth_tuple (xs : List PyData) : (PyData.tuple xs).depth = PyData.depthAll xs + 1 := by first | rfl | simp [PyData.depth] | (simp [PyData.depth]; omega)
theorem depth_list (xs : List PyData) : (PyData.list xs).depth = PyData.depthAll xs + 1 := by first | rfl | simp [PyData.depth] | (simp [PyData.depth]; omega)
/-! ### ints in order -/
def sortI (l : List Int) : List Int := sortB (fun a b => decide (a < b)) l
theorem insB_map {α β : Type} {lt : α → α → Bool} {lt' : β → β → Bool} (f : α → β) (h : ∀ a b, lt' (f a) (f b) = lt a b) (x : α) : ∀ l : List α, insB lt' (f x) (l.map f) = (insB lt x l).map f
  | [] => rfl
  | y :: r => by
    show (if lt' (f y) (f x) then f y :: insB lt' (f x) (r.map f) else f x :: f y :: r.map f) = (if lt y x then y :: insB lt x r else x :: y :: r).map f
    rw [h, insB_map f h x r]
    by_cases c : lt y x = true
    · rw [if_pos c, if_pos c]; rfl
    · rw [if_neg c, if_neg c]; rfl
theorem sortB_map {α β : Type} {lt : α → α → Bool} {lt' : β → β → Bool} (f : α → β) (h : ∀ a b, lt' (f a) (f b) = lt a b) : ∀ l : List α, sortB lt' (l.map f) = (sortB lt l).map f
  | [] => rfl
  | x :: r => by
    show insB lt' (f x) (sortB lt' (r.map f)) = _
    rw [sortB_map f h r, insB_map f h x]
    rfl
theorem sorts_ints (l : List Int) : sorts (l.map .int) = true := by
  unfold sorts
  rw [PySem.W.depth_ints, Bool.and_eq_true, Bool.and_eq_true, Bool.or_eq_true, Bool.or_eq_true]
  refine ⟨⟨List.all_eq_true.mpr fun d hd => List.all_eq_true.mpr fun e he => ?_, .inl (.inr (List.all_eq_true.mpr fun d hd => ?_))⟩, rfl⟩
  · obtain ⟨a, _, rfl⟩ := List.mem_map.mp hd
    obtain ⟨b, _, rfl⟩ := List.mem_map.mp he
    rfl
  · obtain ⟨a, _, rfl⟩ := List.mem_map.mp hd
    rfl
theorem fSort_ints (l : List Int) : fSort (.list (l.map .int)) = some ((sortI l).map .int) := by
  unfold fSort
  dsimp only
  rw [sorts_ints, if_pos rfl]
  exact congrArg some (sortB_map (lt := fun a b => decide (a < b)) PyData.int (fun a b => rfl) l)
theorem sortI_mem {l : List Int} {x : Int} : x ∈ sortI l ↔ x ∈ l := (sortB_perm l).mem_iff
theorem int_total : PySem.W.TotalLe (fun a b : Int => decide (a ≤ b)) where
  total a b := by rcases Int.le_total a b with h | h <;> simp [h]
  trans a b c h1 h2 := by
    have h1 := of_decide_eq_true h1
    have h2 := of_decide_eq_true h2
    exact decide_eq_true (Int.le_trans h1 h2)
theorem sortI_le (l : List Int) : (sortI l).Pairwise (· ≤ ·) := by
  have e : (fun a b : Int => !decide (b ≤ a)) = fun a b => decide (a < b) := by
    funext a b
    by_cases h : a < b
    · rw [decide_eq_true h, decide_eq_false (by omega)]; rfl
    · rw [decide_eq_false h, decide_eq_true (by omega)]; rfl
  have q := sortB_pair int_total l
  rw [e] at q
  exact q.imp fun h => of_decide_eq_true h
/-- sorted of ints each met once -/
theorem sortI_nodup {l : List Int} (h : l.Nodup) : sortI l = sortU l := by
  refine pair_one ?_ (sortU_pair l) fun k => by rw [sortI_mem, sortU_mem]
  have n : (sortI l).Nodup := (sortB_perm l).nodup_iff.mpr h
  exact (List.Pairwise.and (sortI_le l) n).imp fun ⟨a, b⟩ => by omega
theorem nodup_len : ∀ {l m : List Int}, l.Nodup → (∀ x ∈ l, x ∈ m) → l.length ≤ m.length
  | [], _, _, _ => Nat.zero_le _
  | x :: r, m, h, hs => by
    rw [List.nodup_cons] at h
    have hm := hs x List.mem_cons_self
    have h2 : ∀ y ∈ r, y ∈ m.erase x := fun y hy => (List.mem_erase_of_ne (fun e => h.1 (by rw [← e]; exact hy))).mpr (hs y (List.mem_cons_of_mem _ hy))
    have q := nodup_len h.2 h2
    rw [List.length_erase_of_mem hm] at q
    have := List.length_pos_of_mem hm
    rw [List.length_cons]
    omega
end DL

/-! Mk54: what the defs of the law mean. -/
namespace Lw
open PySem PySem.Spec L2 DL

def k_MOST_STATES : PyData := (.int 5)
def k_INPUTS : PyData := (.tuple [(.int 0), (.int 1)])
def m__law_draw : MS :=
  (mSeq (mSet 1 (mC (.int 7)))
  (mSeq (mFor (mScr 0) (tName 2) (mSet 1 (mOp fMod (mUn fInt (mOp fAdd (mOp fAdd (mOp fMul (mV 1) (mC (.int 48271))) (mOp fMod (mUn fAbs (mUn fInt (mV 2))) (mC (.int 65521)))) (mC (.int 1)))) (mC (.int 2147483647)))))
  (mRetF (mLst (mCons (mF (mComp [2] (mScr 0) (tName 2) mYes (mUn fAbs (mUn fInt (mV 2))))) (mCons (mUn fNeg (mC (.int 1))) (mCons (mC (.int 0)) (mCons (mV 1) mNil))))))))
def f__law_draw : FS := runB 3 1 true m__law_draw
def m__law_take : MS :=
  (mSeq (mIfS (mTst (mOp fEq (mDrw 0 2) (mC (.int 0)))) (mSeq (mDrwSet 0 1 (mOp fAdd (mDrw 0 1) (mC (.int 1))))
  (mSeq (mIfS (mTst (mOp fLt (mDrw 0 1) (mUn fLen (mDrw 0 0)))) (mDrwSet 0 2 (mOp fIx (mDrw 0 0) (mDrw 0 1))) mSkip)
  (mIfS (mTst (mOp fEq (mDrw 0 2) (mC (.int 0)))) (mSeq (mDrwSet 0 3 (mOp fMod (mUn fInt (mOp fAdd (mOp fMul (mDrw 0 3) (mC (.int 48271))) (mC (.int 11)))) (mC (.int 2147483647))))
  (mDrwSet 0 2 (mDrw 0 3))) mSkip))) mSkip)
  (mSeq (mSet 2 (mOp fMod (mUn fInt (mDrw 0 2)) (mV 1)))
  (mSeq (mDrwSet 0 2 (mOp fFdiv (mDrw 0 2) (mV 1)))
  (mRet (mV 2)))))
def f__law_take : FS := runB 3 2 false m__law_take
def m__law_order : MS :=
  (mSeq (mParLL 2 3 (mRgL1 (mV 1)) (mLst mNil))
  (mSeq (whileGo (mTst (mOp fNe (mVp 2) (mF (mLst mNil)))) (mAppPop 3 2 (mCall (chk 2 f__law_take) (axV 0 (axD (mUn fLen (mVp 2)) axNil)))) 1000)
  (mRetL 3)))
def f__law_order : FS := runB 4 2 false m__law_order
def m__law_box : MS :=
  (mSeq (mSet 2 (mOp fAdd (mC (.int 1)) (mCall (chk 2 f__law_take) (axV 0 (axD (mV 1) axNil)))))
  (mSeq (mSet 3 (mCall (chk 2 f__law_take) (axV 0 (axD (mC (.int 4)) axNil))))
  (mSeq (mSetL 4 (mLst mNil))
  (mSeq (mFor (mRng1 (mV 2)) (tName 5) (mSeq (mSet 6 (mF (mComp [9] (mRng1 (mC (.int 2))) (tName 9) mYes (mTup (mCons (mCall (chk 2 f__law_take) (axV 0 (axD (mV 2) axNil))) (mCons (mCall (chk 2 f__law_take) (axV 0 (axD (mC (.int 2)) axNil))) mNil))))))
  (mSeq (mIfS (mTst (mOp fEq (mV 3) (mC (.int 0)))) (mSet 6 (mF (mComp [10, 11] (mItems (mV 6)) (tTup 2 (tConsT (tName 10) (tConsT (tName 11) tNilT))) mYes (mTup (mCons (mV 10) (mCons (mOp fIx (mOp fIx (mV 6) (mC (.int 0))) (mC (.int 1))) mNil)))))) mSkip)
  (mApp 4 (mUn fTuple (mV 6))))))
  (mSeq (mIfS (mTst (mOp fEq (mV 3) (mC (.int 1)))) (mSeq (mAsg (tTup 2 (tConsT (tName 7) (tConsT (tName 8) tNilT))) (mTup (mCons (mCall (chk 2 f__law_order) (axV 0 (axD (mV 2) axNil))) (mCons (mCall (chk 2 f__law_order) (axV 0 (axD (mV 2) axNil))) mNil))))
  (mSetL 4 (mComp [12] (mRng1 (mV 2)) (tName 12) mYes (mTup (mCons (mTup (mCons (mOp fIx (mV 7) (mV 12)) (mCons (mOp fIx (mOp fIx (mOp fIx (mVp 4) (mV 12)) (mC (.int 0))) (mC (.int 1))) mNil))) (mCons (mTup (mCons (mOp fIx (mV 8) (mV 12)) (mCons (mOp fIx (mOp fIx (mOp fIx (mVp 4) (mV 12)) (mC (.int 1))) (mC (.int 1))) mNil))) mNil)))))) mSkip)
  (mRet (mUn fTuple (mVp 4))))))))
def f__law_box : FS := runB 13 2 false m__law_box
def m__law_sets : MS :=
  (mSeq (mSet 1 (mF (mLst (mCons (mTup mNil) mNil))))
  (mSeq (mFor (mRng1 (mV 0)) (tName 2) (mSet 1 (mOp fAdd (mV 1) (mF (mComp [3] (mItems (mV 1)) (tName 3) mYes (mOp fAdd (mV 3) (mTup (mCons (mV 2) mNil))))))))
  (mRet (mF (mUnF fSort (mSlice (mV 1) (mPart (mC (.int 1))) mNoPart))))))
def f__law_sets : FS := runB 4 1 false m__law_sets
def m_is_whole : MS :=
  (mRet (mAndV (mIsi 0 (mV 0)) (mUn fNot (mIsi 1 (mV 0)))))
def f_is_whole : FS := runB 1 1 false m_is_whole
def m_is_move : MS :=
  (mSeq (mIfS (mOr (mNot (mTst (mIsi 2 (mV 0)))) (mOr (mTst (mOp fNe (mUn fLen (mV 0)) (mC (.int 2)))) (mNot (mTst (mUn fAll (mF (mComp [2] (mItems (mV 0)) (tName 2) mYes (mCall (chk 1 f_is_whole) (axD (mV 2) axNil))))))))) (mRet (mC (.bool false))) mSkip)
  (mRet (mAndV (mChain fLe fLt (mC (.int 0)) (mOp fIx (mV 0) (mC (.int 0))) (mV 1)) (mChain fLe fLe (mC (.int 0)) (mOp fIx (mV 0) (mC (.int 1))) (mC (.int 1))))))
def f_is_move : FS := runB 3 2 false m_is_move
def m_is_box : MS :=
  (mSeq (mIfS (mOr (mNot (mTst (mIsi 2 (mV 0)))) (mNot (mTst (mChain fLe fLe (mC (.int 1)) (mUn fLen (mV 0)) (mC k_MOST_STATES))))) (mRet (mC (.bool false))) mSkip)
  (mSeq (mIfS (mNot (mTst (mUn fAll (mF (mComp [1] (mItems (mV 0)) (tName 1) mYes (mAndV (mIsi 2 (mV 1)) (mOp fEq (mUn fLen (mV 1)) (mC (.int 2))))))))) (mRet (mC (.bool false))) mSkip)
  (mRet (mUn fAll (mF (mComp2 [1, 2] (mItems (mV 0)) (tName 1) mYes (mItems (mV 1)) [2] (tName 2) mYes (mCall (chk 2 f_is_move) (axD (mV 2) (axD (mUn fLen (mV 0)) axNil)))))))))
def f_is_box : FS := runB 3 1 false m_is_box
def m_check_box : MS :=
  (mIfS (mNot (mTst (mCall (chk 1 f_is_box) (axD (mV 0) axNil)))) (mRaise .malformed) mSkip)
def f_check_box : FS := runB 1 1 false m_check_box
def m_sets_of : MS :=
  (mSeq (mSet 1 (mF (mLst (mCons (mTup mNil) mNil))))
  (mSeq (mFor (mRng1 (mV 0)) (tName 2) (mSet 1 (mOp fAdd (mV 1) (mF (mComp [3] (mItems (mV 1)) (tName 3) mYes (mOp fAdd (mV 3) (mTup (mCons (mV 2) mNil))))))))
  (mRet (mF (mUnF fSort (mSlice (mV 1) (mPart (mC (.int 1))) mNoPart))))))
def f_sets_of : FS := runB 4 1 false m_sets_of
def m_does_stay : MS :=
  (mRet (mUn fAll (mF (mComp2 [2, 3] (mItems (mV 1)) (tName 2) mYes (mItems (mC k_INPUTS)) [3] (tName 3) mYes (mOp fIn (mOp fIx (mOp fIx (mOp fIx (mV 0) (mV 2)) (mV 3)) (mC (.int 0))) (mV 1))))))
def f_does_stay : FS := runB 4 2 false m_does_stay
def m_found_staying : MS :=
  (mRet (mF (mComp [1] (mItems (mCall (chk 1 f_sets_of) (axD (mUn fLen (mV 0)) axNil))) (tName 1) (mTst (mCall (chk 2 f_does_stay) (axD (mV 0) (axD (mV 1) axNil)))) (mV 1))))
def f_found_staying : FS := runB 2 1 false m_found_staying
def m_staying : MS :=
  (mSeq (mDrop (mCall (chk 1 f_check_box) (axD (mV 0) axNil)))
  (mRet (mUn fTuple (mCall (chk 1 f_found_staying) (axD (mV 0) axNil)))))
def f_staying : FS := runB 1 1 false m_staying
def m_closed_sets : MS :=
  (mSeq (mDrop (mCall (chk 1 f_check_box) (axD (mV 0) axNil)))
  (mSeq (mSet 1 (mCall (chk 1 f_found_staying) (axD (mV 0) axNil)))
  (mSeq (mSetL 2 (mLst mNil))
  (mSeq (mFor (mItems (mV 1)) (tName 3) (mIfS (mNot (mTst (mUn fAny (mF (mComp [4] (mItems (mV 1)) (tName 4) mYes (mAndV (mOp fNe (mV 4) (mV 3)) (mUn fAll (mF (mComp [5] (mItems (mV 4)) (tName 5) mYes (mOp fIn (mV 5) (mV 3))))))))))) (mApp 2 (mV 3)) mSkip))
  (mRet (mUn fTuple (mVp 2)))))))
def f_closed_sets : FS := runB 6 1 false m_closed_sets
def m__law_told : MS :=
  (mTry (fun _ => true) (mRet (mIf (mTst (mOp fEq (mV 0) (mC (.int 0)))) (mCall (chk 1 f_staying) (axD (mV 1) axNil)) (mCall (chk 1 f_closed_sets) (axD (mV 1) axNil)))) (mRet (mC (.str "<malformed>"))))
def f__law_told : FS := runB 2 2 false m__law_told
def m__law_odd_box : MS :=
  (mSeq (mSet 1 (mF (mLst (mCons (mC .none) (mCons (mTup mNil) (mCons (mC (.int 5)) (mCons (mF (mLst (mCons (mTup (mCons (mTup (mCons (mC (.int 0)) (mCons (mC (.int 0)) mNil))) (mCons (mTup (mCons (mC (.int 0)) (mCons (mC (.int 0)) mNil))) mNil))) mNil))) (mCons (mTup (mCons (mTup (mCons (mTup (mCons (mC (.int 0)) (mCons (mC (.int 0)) mNil))) mNil)) mNil)) (mCons (mTup (mCons (mTup (mCons (mTup (mCons (mC (.int 1)) (mCons (mC (.int 0)) mNil))) (mCons (mTup (mCons (mC (.int 0)) (mCons (mC (.int 0)) mNil))) mNil))) mNil)) (mCons (mTup (mCons (mTup (mCons (mTup (mCons (mC (.int 0)) (mCons (mC (.int 2)) mNil))) (mCons (mTup (mCons (mC (.int 0)) (mCons (mC (.int 0)) mNil))) mNil))) mNil)) (mCons (mTup (mCons (mTup (mCons (mTup (mCons (mC (.int 0)) (mCons (mC (.bool true)) mNil))) (mCons (mTup (mCons (mC (.int 0)) (mCons (mC (.int 0)) mNil))) mNil))) mNil)) (mCons (mTup (mCons (mTup (mCons (mTup (mCons (mC (.int 0)) (mCons (mC (.int 0)) mNil))) (mCons (mTup (mCons (mC (.int 0)) (mCons (mC (.int 0)) mNil))) (mCons (mTup (mCons (mC (.int 0)) (mCons (mC (.int 0)) mNil))) mNil)))) mNil)) (mCons (mTup (mCons (mTup (mCons (mTup (mCons (mUn fNeg (mC (.int 1))) (mCons (mC (.int 0)) mNil))) (mCons (mTup (mCons (mC (.int 0)) (mCons (mC (.int 0)) mNil))) mNil))) mNil)) mNil)))))))))))))
  (mRet (mOp fIx (mOp fAdd (mV 1) (mF (mLst (mCons (mTup (mCons (mF (mLst (mCons (mTup (mCons (mC (.int 0)) (mCons (mC (.int 0)) mNil))) (mCons (mTup (mCons (mC (.int 0)) (mCons (mC (.int 0)) mNil))) mNil)))) mNil)) (mCons (mTup (mCons (mTup (mCons (mTup (mCons (mC (.int 0)) (mCons (mC (.int 0)) mNil))) (mCons (mF (mLst (mCons (mC (.int 0)) (mCons (mC (.int 0)) mNil)))) mNil))) mNil)) (mCons (mOp fMul (mTup (mCons (mTup (mCons (mTup (mCons (mC (.int 0)) (mCons (mC (.int 0)) mNil))) (mCons (mTup (mCons (mC (.int 0)) (mCons (mC (.int 0)) mNil))) mNil))) mNil)) (mC (.int 7))) (mCons (mTup (mCons (mTup (mCons (mTup (mCons (mC (.int 0)) mNil)) (mCons (mTup (mCons (mC (.int 0)) (mCons (mC (.int 0)) mNil))) mNil))) mNil)) (mCons (mTup (mCons (mC .none) mNil)) mNil)))))))) (mCall (chk 2 f__law_take) (axV 0 (axD (mC (.int 15)) axNil))))))
def f__law_odd_box : FS := runB 2 1 false m__law_odd_box
def m__law_reached : MS :=
  (mSeq (mSet 2 (mF (mLst (mCons (mV 1) mNil))))
  (mSeq (mFor (mItems (mV 0)) (tName 3) (mSeq (mSet 4 (mF (mUnF fSortSet (mOp fAdd (mF (mComp [5] (mItems (mV 2)) (tName 5) mYes (mOp fIx (mOp fIx (mOp fIx (mV 0) (mV 5)) (mC (.int 0))) (mC (.int 0))))) (mF (mComp [5] (mItems (mV 2)) (tName 5) mYes (mOp fIx (mOp fIx (mOp fIx (mV 0) (mV 5)) (mC (.int 1))) (mC (.int 0)))))))))
  (mSet 2 (mOp fAdd (mV 2) (mF (mComp [6] (mItems (mV 4)) (tName 6) (mTst (mOp fNotIn (mV 6) (mV 2))) (mV 6)))))))
  (mRet (mF (mUnF fSort (mV 2))))))
def f__law_reached : FS := runB 7 2 false m__law_reached
def m_law : MS :=
  (mDraw 1 (mCallF (chk 1 f__law_draw) (axV 0 axNil))
  (mSeq (mFor (mRng1 (mC (.int 6))) (tName 2) (mSeq (mSet 3 (mCall (chk 2 f__law_box) (axV 1 (axD (mC (.int 5)) axNil))))
  (mSeq (mSet 4 (mCall (chk 1 f__law_sets) (axD (mUn fLen (mV 3)) axNil)))
  (mSeq (mSet 5 (mF (mComp [7] (mItems (mV 4)) (tName 7) (mTst (mUn fAll (mF (mComp [8] (mItems (mV 7)) (tName 8) mYes (mAndV (mOp fIn (mOp fIx (mOp fIx (mOp fIx (mV 3) (mV 8)) (mC (.int 0))) (mC (.int 0))) (mV 7)) (mOp fIn (mOp fIx (mOp fIx (mOp fIx (mV 3) (mV 8)) (mC (.int 1))) (mC (.int 0))) (mV 7))))))) (mV 7))))
  (mSeq (mSet 6 (mF (mComp [7] (mItems (mV 5)) (tName 7) (mTst (mUn fAll (mF (mComp [8] (mItems (mV 7)) (tName 8) mYes (mOp fEq (mCall (chk 2 f__law_reached) (axD (mV 3) (axD (mV 8) axNil))) (mF (mUnF fList (mV 7)))))))) (mV 7))))
  (mSeq (mIfS (mOr (mTst (mOp fNe (mUn fRepr (mCall (chk 1 f_staying) (axD (mV 3) axNil))) (mUn fRepr (mUn fTuple (mV 5))))) (mTst (mOp fNe (mUn fRepr (mCall (chk 1 f_closed_sets) (axD (mV 3) axNil))) (mUn fRepr (mUn fTuple (mV 6)))))) (mRet (mC (.bool false))) mSkip)
  (mIfS (mNot (mTst (mUn fAll (mF (mComp [7] (mItems (mV 5)) (tName 7) mYes (mUn fAny (mF (mComp [9] (mItems (mV 6)) (tName 9) mYes (mUn fAll (mF (mComp [8] (mItems (mV 9)) (tName 8) mYes (mOp fIn (mV 8) (mV 7))))))))))))) (mRet (mC (.bool false))) mSkip)))))))
  (mRet (mOp fEq (mF (mComp [10] (mItems (mTup (mCons (mC (.int 0)) (mCons (mC (.int 1)) mNil)))) (tName 10) mYes (mCall (chk 2 f__law_told) (axD (mV 10) (axD (mCall (chk 1 f__law_odd_box) (axV 1 axNil)) axNil))))) (mOp fMul (mF (mLst (mCons (mC (.str "<malformed>")) mNil))) (mC (.int 2)))))))
def f_law : FS := runB 11 1 false m_law
end Lw

/-! Dr: the draws, the boxes drawn. -/
namespace Lw
open PySem PySem.Spec L2 DL

@[simp] theorem fAdd_int (a b : Int) : fAdd (.int a) (.int b) = some (.int (a + b)) := rfl
@[simp] theorem fSub_int (a b : Int) : fSub (.int a) (.int b) = some (.int (a - b)) := rfl
theorem fMul_lit {a b : Int} (h : -(2 ^ 64) < b ∧ b < 2 ^ 64) : fMul (.int a) (.int b) = some (.int (a * b)) := by
  unfold fMul
  dsimp only
  rw [decide_eq_true h, Bool.or_true]
  rfl
theorem fMod_pos {a b : Int} (h : 0 < b) : fMod (.int a) (.int b) = some (.int (a % b)) := by
  unfold fMod
  dsimp only
  rw [decide_eq_true h]
  rfl
theorem fFdiv_pos {a b : Int} (h : 0 < b ∧ b < 1073741824) : fFdiv (.int a) (.int b) = some (.int (a / b)) := by
  unfold fFdiv
  dsimp only
  rw [decide_eq_true h]
  rfl
@[simp] theorem fEq_int (a b : Int) : fEq (.int a) (.int b) = some (.bool (a == b)) := rfl
@[simp] theorem fNe_int (a b : Int) : fNe (.int a) (.int b) = some (.bool (!(a == b))) := rfl
@[simp] theorem fLt_int (a b : Int) : fLt (.int a) (.int b) = some (.bool (decide (a < b))) := rfl
@[simp] theorem fLe_int (a b : Int) : fLe (.int a) (.int b) = some (.bool (decide (a ≤ b))) := rfl
@[simp] theorem fInt_int (a : Int) : fInt (.int a) = some (.int a) := rfl
@[simp] theorem fLen_list (a : List PyData) : fLen (.list a) = some (.int a.length) := rfl
@[simp] theorem fLen_tuple (a : List PyData) : fLen (.tuple a) = some (.int a.length) := rfl
@[simp] theorem fNeg_int (a : Int) : fNeg (.int a) = some (.int (-a)) := rfl
theorem fIx_list {xs : List PyData} {i : Int} {x : PyData} (h : 0 ≤ i) (hx : xs[i.toNat]? = some x) : fIx (.list xs) (.int i) = some x := by
  show atI xs i = some x
  have hl := (List.getElem?_eq_some_iff.mp hx).1
  unfold atI ixN
  rw [if_pos h, if_pos (by omega)]
  exact hx
theorem fIx_tuple {xs : List PyData} {i : Int} {x : PyData} (h : 0 ≤ i) (hx : xs[i.toNat]? = some x) : fIx (.tuple xs) (.int i) = some x := by
  show atI xs i = some x
  have hl := (List.getElem?_eq_some_iff.mp hx).1
  unfold atI ixN
  rw [if_pos h, if_pos (by omega)]
  exact hx
/-- the draw may go on -/
def DI : DS → Prop
  | some s => -1 ≤ s.place
  | none => False
theorem mDrw_ev {env : Ev} {i k : Nat} {s : DSt} {x : PyData} (h : env[i]? = some .drw) (hx : drGet s k = some x) : mDrw i k env (some s) = some (.ok x, some s) := by
  unfold mDrw
  rw [h]
  dsimp only
  rw [hx]
theorem mDrwSet_ev {env : Ev} {i k : Nat} {a : ME PyData} {ds : DS} {s s' : DSt} {j : Int} (h : env[i]? = some .drw) (ha : a env ds = some (.ok (.int j), some s)) (hs : drSet s k j = some s') : mDrwSet i k a env ds = some (.nx env, some s') := by
  unfold mDrwSet
  rw [exS_ev, ha]
  dsimp only
  rw [h]
  dsimp only
  rw [hs]
def tCur (s : DSt) : DSt :=
  if s.cur = 0 then
    let p := s.place + 1
    let c := if p < s.cells.length then s.cells.getD p.toNat 0 else s.cur
    if c = 0 then ⟨s.cells, p, (s.seed * 48271 + 11) % 2147483647, (s.seed * 48271 + 11) % 2147483647⟩ else ⟨s.cells, p, c, s.seed⟩
  else s
theorem take_run (s : DSt) (h : -1 ≤ s.place) {many : Int} (h0 : 0 < many) (h1 : many < 1073741824) : f__law_take [.drw, .d (.int many)] (some s) = some (.ok (.int ((tCur s).cur % many)), some { tCur s with cur := (tCur s).cur / many }) := by
  obtain ⟨cells, place, cur, seed⟩ := s
  dsimp only at h
  have fin : ∀ s : DSt, (mSeq (mSet 2 (mOp fMod (mUn fInt (mDrw 0 2)) (mV 1))) (mSeq (mDrwSet 0 2 (mOp fFdiv (mDrw 0 2) (mV 1))) (mRet (mV 2)))) [.drw, .d (.int many), .un] (some s) = some (.rt (.int (s.cur % many)), some { s with cur := s.cur / many }) := fun s => by
    rw [mSeq_nx (env' := [.drw, .d (.int many), .d (.int (s.cur % many))]) (ds' := some s)]
    · rw [mSeq_nx (mDrwSet_ev (env := [.drw, .d (.int many), .d (.int (s.cur % many))]) (ds := some s) (s := s) (j := s.cur / many) (s' := { s with cur := s.cur / many }) rfl (by
        rw [mOp_ev, mDrw_ev (x := .int s.cur) rfl rfl, rb_ok, mV_ev]
        show ME.lift (fFdiv (.int s.cur) (.int many)) [.drw, .d (.int many), .d (.int (s.cur % many))] _ = _
        rw [fFdiv_pos ⟨h0, h1⟩]
        rfl) rfl)]
      rfl
    · rw [mSet_ev, mOp_ev, mUn_ev, mDrw_ev (x := .int s.cur) rfl rfl, rb_ok, fInt_int, lift_ok, rb_ok, mV_ev]
      show (match ME.lift (fMod (.int s.cur) (.int many)) [.drw, .d (.int many), .un] (some s) with | some (.ok x, ds') => _ | some (.exc e, ds') => _ | none => _) = _
      rw [fMod_pos h0]
      rfl
  unfold f__law_take runB m__law_take
  show (match mSeq _ _ [.drw, .d (.int many), .un] _ with | some (.rt d, ds') => _ | some (.nx _, ds') => _ | some (.ex x _, ds') => _ | _ => _) = _
  rw [mSeq_nx (env' := [.drw, .d (.int many), .un]) (ds' := some (tCur ⟨cells, place, cur, seed⟩)), fin]
  rw [mIfS_ev, mTst_ev, mOp_ev, mDrw_ev (x := .int cur) rfl rfl, rb_ok, mC_ev, rb_ok, fEq_int, lift_ok, rb_ok, lift_ok]
  dsimp only
  unfold tCur
  dsimp only
  by_cases hc : cur = 0
  · subst hc
    rw [if_pos (show ((0 : Int) == 0) = true from rfl), if_pos (rfl : (0 : Int) = 0)]
    rw [mSeq_nx (mDrwSet_ev (s := ⟨cells, place, 0, seed⟩) (j := place + 1) (s' := ⟨cells, place + 1, 0, seed⟩) rfl (by rw [mOp_ev, mDrw_ev (x := .int place) rfl rfl]; rfl) rfl)]
    rw [mSeq_nx (env' := [.drw, .d (.int many), .un]) (ds' := some ⟨cells, place + 1, (if place + 1 < cells.length then cells.getD (place + 1).toNat 0 else 0), seed⟩)]
    · generalize (if place + 1 < (cells.length : Int) then cells.getD (place + 1).toNat 0 else 0) = c
      rw [mIfS_ev, mTst_ev, mOp_ev, mDrw_ev (x := .int c) rfl rfl, rb_ok, mC_ev, rb_ok, fEq_int, lift_ok, rb_ok, lift_ok]
      dsimp only
      by_cases hz : c = 0
      · subst hz
        rw [if_pos (show ((0 : Int) == 0) = true from rfl), if_pos (rfl : (0 : Int) = 0)]
        rw [mSeq_nx (mDrwSet_ev (s := ⟨cells, place + 1, 0, seed⟩) (j := (seed * 48271 + 11) % 2147483647) (s' := ⟨cells, place + 1, 0, (seed * 48271 + 11) % 2147483647⟩) rfl (by
          rw [mOp_ev, mUn_ev, mOp_ev, mOp_ev, mDrw_ev (x := .int seed) rfl rfl, rb_ok, mC_ev, rb_ok, fMul_lit (by decide), lift_ok, rb_ok, mC_ev, rb_ok, fAdd_int, lift_ok, rb_ok, fInt_int, lift_ok, rb_ok, mC_ev, rb_ok, fMod_pos (by decide), lift_ok]) rfl)]
        exact mDrwSet_ev rfl (mDrw_ev rfl rfl) rfl
      · rw [if_neg (by simpa using hz), if_neg hz]
        rfl
    · rw [mIfS_ev, mTst_ev, mOp_ev, mDrw_ev (x := .int (place + 1)) rfl rfl, rb_ok, mUn_ev, mDrw_ev (x := .list (cells.map .int)) rfl rfl, rb_ok, fLen_list, lift_ok, rb_ok, fLt_int, lift_ok, rb_ok, lift_ok, List.length_map]
      dsimp only
      by_cases hp : place + 1 < (cells.length : Int)
      · rw [if_pos (decide_eq_true hp), if_pos hp]
        have hl : (place + 1).toNat < cells.length := by omega
        refine mDrwSet_ev (s := ⟨cells, place + 1, 0, seed⟩) (j := cells.getD (place + 1).toNat 0) rfl ?_ rfl
        rw [mOp_ev, mDrw_ev (x := .list (cells.map .int)) rfl rfl, rb_ok, mDrw_ev (x := .int (place + 1)) rfl rfl, rb_ok, fIx_list (x := .int (cells.getD (place + 1).toNat 0)) (by omega) (by rw [List.getElem?_map, List.getElem?_eq_getElem hl, List.getD_eq_getElem?_getD, List.getElem?_eq_getElem hl]; rfl), lift_ok]
      · rw [if_neg (by rw [decide_eq_false hp]; exact Bool.false_ne_true), if_neg hp]
        rfl
  · rw [if_neg (by simpa using hc), if_neg hc]
    rfl
theorem tCur_place {s : DSt} (h : -1 ≤ s.place) : -1 ≤ (tCur s).place := by
  unfold tCur
  by_cases c : s.cur = 0
  · rw [if_pos c]
    dsimp only
    generalize (if s.place + 1 < (s.cells.length : Int) then s.cells.getD (s.place + 1).toNat 0 else s.cur) = z
    by_cases d : z = 0
    · rw [if_pos d]
      show -1 ≤ s.place + 1
      omega
    · rw [if_neg d]
      show -1 ≤ s.place + 1
      omega
  · rw [if_neg c]
    exact h
/-- a draw below many -/
theorem take_ok {ds : DS} (h : DI ds) {many : Int} (h0 : 0 < many) (h1 : many < 1073741824) : ∃ r ds', f__law_take [.drw, .d (.int many)] ds = some (.ok (.int r), ds') ∧ 0 ≤ r ∧ r < many ∧ DI ds' := by
  cases ds with
  | none => exact h.elim
  | some s => exact ⟨_, _, take_run s h h0 h1, Int.emod_nonneg _ (by omega), Int.emod_lt_of_pos _ h0, show -1 ≤ (tCur s).place from tCur_place h⟩
end Lw

/-! Bx: the script's draw, orders, boxes. -/
namespace Lw
open PySem PySem.Spec L2 DL

theorem canLay_ints : ∀ xs : List Int, PyData.canLayAll0 (xs.map .int) = true
  | [] => rfl
  | x :: r => by
    show (true && PyData.canLayAll0 (r.map .int)) = true
    rw [canLay_ints r]; rfl
theorem shaped_ints (xs : List Int) : SeqAt.shaped (.list (xs.map .int)) = true ∧ SeqAt.shaped (.tuple (xs.map .int)) = true := by
  have e := PySem.W.depth_ints xs
  have c := canLay_ints xs
  refine ⟨?_, ?_⟩
  · unfold SeqAt.shaped
    rw [show (PyData.list (xs.map .int)).canLay0 = true from c, show (PyData.list (xs.map .int)).depth = PyData.depthAll (xs.map .int) + 1 by first | rfl | simp [PyData.depth] | (simp [PyData.depth]; omega), e]
    rfl
  · unfold SeqAt.shaped
    rw [show (PyData.tuple (xs.map .int)).canLay0 = true from c, show (PyData.tuple (xs.map .int)).depth = PyData.depthAll (xs.map .int) + 1 by first | rfl | simp [PyData.depth] | (simp [PyData.depth]; omega), e]
    rfl
/-- the script's draw -/
theorem draw_ok (ns : List Int) (hn : ns.length ≤ 63) : ∃ (cs : List Int) (seed : Int), f__law_draw [.scr ns] none = some (.ok (.list [.list (cs.map .int), .int (-1), .int 0, .int seed]), none) := by
  have h := for_inv (t := tName 2) (body := mSet 1 (mOp fMod (mUn fInt (mOp fAdd (mOp fAdd (mOp fMul (mV 1) (mC (.int 48271))) (mOp fMod (mUn fAbs (mUn fInt (mV 2))) (mC (.int 65521)))) (mC (.int 1)))) (mC (.int 2147483647))))
    (I := fun _ env ds => ds = none ∧ ∃ (z : Int) (x : Sl), (x = .un ∨ ∃ d, x = .d d) ∧ env = [.scr ns, .d (.int z), x]) (ns.map .int) 0 [.scr ns, .d (.int 7), .un] none (fun i x env ds hx ⟨e1, z, y, hy, e2⟩ => by
      subst e1 e2
      rw [List.getElem?_map] at hx
      obtain ⟨n, _, rfl⟩ := Option.map_eq_some_iff.mp hx
      refine ⟨[.scr ns, .d (.int z), .d (.int n)], [.scr ns, .d (.int (((z * 48271) + (if n < 0 then -n else n) % 65521 + 1) % 2147483647)), .d (.int n)], none, by rcases hy with rfl | ⟨d, rfl⟩ <;> rfl, ?_, rfl, _, _, .inr ⟨_, rfl⟩, rfl⟩
      exact gSet (gOp (gUn (gOp (gOp (gOp rfl rfl (fMul_lit (by decide))) (gOp rfl rfl (fMod_pos (by decide))) rfl) rfl rfl) rfl) rfl (fMod_pos (by decide))) rfl) ⟨rfl, 7, .un, .inl rfl, rfl⟩
  obtain ⟨env', ds', h1, rfl, z, y, hy, rfl⟩ := h
  refine ⟨ns.map fun n => if n < 0 then -n else n, z, ?_⟩
  have hc : mComp [2] (mScr 0) (tName 2) mYes (mUn fAbs (mUn fInt (mV 2))) [.scr ns, .d (.int z), y] none = some (.ok ((ns.filter fun _ => true).map fun n => .int (if n < 0 then -n else n)), none) :=
    comp_ev (env1 := [.scr ns, .d (.int z), .un]) (e := .int) (fun _ => true) (fun n => .int (if n < 0 then -n else n)) rfl (by rcases hy with rfl | ⟨d, rfl⟩ <;> rfl) (fun x _ => ⟨_, rfl, rfl, fun _ => rfl⟩) (by omega)
  have hf : ns.filter (fun _ => true) = ns := List.filter_eq_self.mpr fun _ _ => rfl
  rw [hf] at hc
  refine gRunRt (gSeq (env' := [.scr ns, .d (.int 7), .un]) rfl (gSeq (gFor rfl h1) ?_))
  rw [mRetF_ev, mLst_ev, mCons_ev, mF_ev, hc, List.map_map]
  rfl
/-- a draw, called -/
theorem take_ev {env : Ev} {ds : DS} {i : Nat} {a : ME PyData} {k : Int} (h0 : env[i]? = some .drw) (ha : a env ds = some (.ok (.int k), ds)) : mCall (chk 2 f__law_take) (axV i (axD a axNil)) env ds = f__law_take [.drw, .d (.int k)] ds := by
  rw [mCall_ev, axV_ev, h0]
  dsimp only
  rw [axD_ev, ha]
  rfl
/-! ### an order -/
theorem erase_map {α β : Type} (f : α → β) : ∀ (l : List α) (k : Nat), (l.map f).eraseIdx k = (l.eraseIdx k).map f
  | [], _ => rfl
  | _ :: _, 0 => rfl
  | x :: r, k + 1 => congrArg (f x :: ·) (erase_map f r k)
theorem fNe_sh {d e : PyData} (h1 : SeqAt.shaped d = true) (h2 : SeqAt.shaped e = true) : fNe d e = some (.bool (!PyData.eqv d e)) := by
  unfold fNe
  rw [h1, h2]
  rfl
theorem fEq_sh {d e : PyData} (h1 : SeqAt.shaped d = true) (h2 : SeqAt.shaped e = true) : fEq d e = some (.bool (PyData.eqv d e)) := by
  unfold fEq
  rw [h1, h2]
  rfl
theorem eqv_nil (xs : List PyData) : PyData.eqv (.list xs) (.list []) = xs.isEmpty := by
  cases xs <;> rfl
theorem order_ok {ds : DS} (h : DI ds) {n : Int} (h0 : 0 ≤ n) (h1 : n ≤ 100) : ∃ (xs : List Int) (ds' : DS), f__law_order [.drw, .d (.int n)] ds = some (.ok (.list (xs.map .int)), ds') ∧ DI ds' ∧ (xs.length : Int) = n ∧ ∀ x ∈ xs, 0 ≤ x ∧ x < n := by
  have w := while_inv (c := mTst (mOp fNe (mVp 2) (mF (mLst mNil)))) (body := mAppPop 3 2 (mCall (chk 2 f__law_take) (axV 0 (axD (mUn fLen (mVp 2)) axNil))))
    (I := fun k env ds => DI ds ∧ ∃ left found : List Int, env = [.drw, .d (.int n), .l (left.map .int), .l (found.map .int)] ∧ left.length = k ∧ (left.length + found.length : Int) = n ∧ ∀ x, x ∈ left ∨ x ∈ found → 0 ≤ x ∧ x < n)
    (Post := fun env ds => DI ds ∧ ∃ found : List Int, env = [.drw, .d (.int n), .l [], .l (found.map .int)] ∧ (found.length : Int) = n ∧ ∀ x ∈ found, 0 ≤ x ∧ x < n) (fun k env ds ⟨hd, left, found, e1, e2, e3, e4⟩ => by
      subst e1
      have hc : mTst (mOp fNe (mVp 2) (mF (mLst mNil))) [.drw, .d (.int n), .l (left.map .int), .l (found.map .int)] ds = some (.ok (!left.isEmpty), ds) := by
        exact gTst (gOp rfl rfl (by rw [fNe_sh (shaped_ints left).1 rfl, eqv_nil]; cases left <;> rfl))
      cases left with
      | nil => exact .inl ⟨ds, hc, hd, found, rfl, by simpa using e3, fun x hx => e4 x (.inr hx)⟩
      | cons a r =>
        right
        obtain ⟨j, ds2, t1, t2, t3, t4⟩ := take_ok hd (many := ((a :: r).length : Int)) (by rw [List.length_cons]; omega) (by omega)
        have jl : j.toNat < (a :: r).length := by omega
        refine ⟨ds, [.drw, .d (.int n), .l (((a :: r).eraseIdx j.toNat).map .int), .l ((found ++ [(a :: r)[j.toNat]]).map .int)], ds2, ((a :: r).eraseIdx j.toNat).length, hc, ?_, ?_, t4, _, _, rfl, rfl, ?_, fun x hx => ?_⟩
        · unfold mAppPop onL
          show exS _ _ [.drw, .d (.int n), .l ((a :: r).map .int), .l (found.map .int)] ds = _
          rw [exS_ev, take_ev (k := ((a :: r).length : Int)) rfl (gUn (x := .list ((a :: r).map .int)) rfl (by rw [fLen_list, List.length_map])), t1]
          dsimp only
          have g : ((a :: r).map PyData.int)[j.toNat]? = some (.int (a :: r)[j.toNat]) := by rw [List.getElem?_map, List.getElem?_eq_getElem jl]; rfl
          rw [if_pos (by
            rw [Bool.and_eq_true, Bool.and_eq_true]
            refine ⟨⟨decide_eq_true ⟨t2, by omega⟩, rfl⟩, ?_⟩
            rw [List.length_map]
            exact lt_line (by omega)), g]
          dsimp only
          rw [erase_map, List.map_append]
          rfl
        · rw [List.length_eraseIdx, if_pos jl]; omega
        · rw [List.length_eraseIdx, if_pos jl, List.length_append, List.length_singleton]
          rw [List.length_cons] at jl e3 ⊢
          omega
        · rcases hx with hx | hx
          · exact e4 x (.inl (List.mem_of_mem_eraseIdx hx))
          · rcases List.mem_append.mp hx with hx | hx
            · exact e4 x (.inr hx)
            · rw [List.mem_singleton] at hx
              subst hx
              exact e4 _ (.inl (List.getElem_mem jl)))
    1000 n.toNat [.drw, .d (.int n), .l (rangeD 0 n.toNat), .l []] ds (by omega) ⟨h, (List.range n.toNat).map fun (k : Nat) => (0 + (k : Int)), [], by
      unfold rangeD
      rw [List.map_map]
      rfl, by rw [List.length_map, List.length_range], by rw [List.length_map, List.length_range, List.length_nil]; omega, fun x hx => by
        rcases hx with hx | hx
        · obtain ⟨k, hk, rfl⟩ := List.mem_map.mp hx
          have := List.mem_range.mp hk
          omega
        · cases hx⟩
  obtain ⟨env', ds', h2, hd, found, rfl, h3, h4⟩ := w
  refine ⟨found, ds', ?_, hd, h3, h4⟩
  unfold f__law_order runB m__law_order
  show (match mSeq _ _ [.drw, .d (.int n), .un, .un] ds with | some (.rt d, ds') => _ | some (.nx _, ds') => _ | some (.ex x _, ds') => _ | _ => _) = _
  rw [mSeq_nx (env' := [.drw, .d (.int n), .l (rangeD 0 n.toNat), .l []]) (ds' := ds)]
  · rw [mSeq_nx h2]
    rfl
  · unfold mParLL
    rw [exS_ev, mRgL1_int (mV 1) (j := n) (ds' := ds) rfl (decide_eq_true (by omega))]
    rfl
end Lw

/-! By: boxes drawn. -/
namespace Lw
open PySem PySem.Spec L2 DL

/-- a state's two moves: where to and what is put out -/
abbrev Row := (Int × Int) × (Int × Int)
def eMv (m : Int × Int) : PyData := .tuple [.int m.1, .int m.2]
def eRow (r : Row) : PyData := .tuple [eMv r.1, eMv r.2]
def eBox (b : List Row) : PyData := .tuple (b.map eRow)
def okMv (n : Int) (m : Int × Int) : Prop := (0 ≤ m.1 ∧ m.1 < n) ∧ 0 ≤ m.2 ∧ m.2 < 2
def okRow (n : Int) (r : Row) : Prop := okMv n r.1 ∧ okMv n r.2
def frS (x : Sl) : Prop := x = .un ∨ ∃ d, x = .d d
theorem sh2 : short 2 = true := short_of (by decide)
theorem two_ok {env : Ev} {ds : DS} (h : DI ds) {i : Nat} {a b : ME PyData} {p q : Int} (h0 : env[i]? = some .drw) (ha : ∀ ds, a env ds = some (.ok (.int p), ds)) (hb : ∀ ds, b env ds = some (.ok (.int q), ds)) (hp : 0 < p ∧ p < 1073741824) (hq : 0 < q ∧ q < 1073741824) :
    ∃ (x y : Int) (ds' : DS), mTup (mCons (mCall (chk 2 f__law_take) (axV i (axD a axNil))) (mCons (mCall (chk 2 f__law_take) (axV i (axD b axNil))) mNil)) env ds = some (.ok (.tuple [.int x, .int y]), ds') ∧ DI ds' ∧ (0 ≤ x ∧ x < p) ∧ 0 ≤ y ∧ y < q := by
  obtain ⟨x, ds1, x1, x2, x3, x4⟩ := take_ok h hp.1 hp.2
  obtain ⟨y, ds2, y1, y2, y3, y4⟩ := take_ok x4 hq.1 hq.2
  exact ⟨x, y, ds2, gTup (gCons ((take_ev h0 (ha _)).trans x1) (gCons ((take_ev h0 (hb _)).trans y1) rfl)) sh2, y4, ⟨x2, x3⟩, y2, y3⟩
/-- how far a box is drawn -/
def BI (most n kind : Int) (i : Nat) (env : Ev) (ds : DS) : Prop := DI ds ∧ ∃ (b : List Row) (x5 x6 : Sl), frS x5 ∧ frS x6 ∧ b.length = i ∧ (∀ r ∈ b, okRow n r) ∧ env = [.drw, .d (.int most), .d (.int n), .d (.int kind), .l (b.map eRow), x5, x6, .un, .un, .un, .un, .un, .un]
theorem row_step {most n kind : Int} (hn : 0 < n ∧ n < 1000) {i : Nat} {x : PyData} {env : Ev} {ds : DS} (hi : i < 1000) (h : BI most n kind i env ds) : ∃ env1 env2 ds2, tName 5 x env = some env1 ∧ (mSeq (mSet 6 (mF (mComp [9] (mRng1 (mC (.int 2))) (tName 9) mYes (mTup (mCons (mCall (chk 2 f__law_take) (axV 0 (axD (mV 2) axNil))) (mCons (mCall (chk 2 f__law_take) (axV 0 (axD (mC (.int 2)) axNil))) mNil))))))
  (mSeq (mIfS (mTst (mOp fEq (mV 3) (mC (.int 0)))) (mSet 6 (mF (mComp [10, 11] (mItems (mV 6)) (tTup 2 (tConsT (tName 10) (tConsT (tName 11) tNilT))) mYes (mTup (mCons (mV 10) (mCons (mOp fIx (mOp fIx (mV 6) (mC (.int 0))) (mC (.int 1))) mNil)))))) mSkip)
  (mApp 4 (mUn fTuple (mV 6))))) env1 ds = some (.nx env2, ds2) ∧ BI most n kind (i + 1) env2 ds2 := by
  obtain ⟨hd, b, x5, x6, h5, h6, hb, hr, rfl⟩ := h
  have e1 : tName 5 x [.drw, .d (.int most), .d (.int n), .d (.int kind), .l (b.map eRow), x5, x6, .un, .un, .un, .un, .un, .un] = some [.drw, .d (.int most), .d (.int n), .d (.int kind), .l (b.map eRow), .d x, x6, .un, .un, .un, .un, .un, .un] := by
    rcases h5 with rfl | ⟨d, rfl⟩ <;> rfl
  obtain ⟨ys, ds1, c1, c2, c3⟩ := comp_draw (env := [.drw, .d (.int most), .d (.int n), .d (.int kind), .l (b.map eRow), .d x, x6, .un, .un, .un, .un, .un, .un]) (vs := [9]) (mi := mRng1 (mC (.int 2))) (t := tName 9) (I := DI)
    (elt := mTup (mCons (mCall (chk 2 f__law_take) (axV 0 (axD (mV 2) axNil))) (mCons (mCall (chk 2 f__law_take) (axV 0 (axD (mC (.int 2)) axNil))) mNil)))
    (P := fun _ y => ∃ m : Int × Int, y = eMv m ∧ okMv n m) (items := [.int 0, .int 1]) (ds := ds) (env1 := [.drw, .d (.int most), .d (.int n), .d (.int kind), .l (b.map eRow), .d x, x6, .un, .un, .un, .un, .un, .un]) rfl rfl (fun z hz => ⟨_, rfl, fun ds hd => by
      obtain ⟨p, q, ds', t1, t2, t3, t4⟩ := two_ok (env := [.drw, .d (.int most), .d (.int n), .d (.int kind), .l (b.map eRow), .d x, x6, .un, .un, .d z, .un, .un, .un]) hd (i := 0) (a := mV 2) (b := mC (.int 2)) (p := n) (q := 2) rfl (fun _ => rfl) (fun _ => rfl) ⟨hn.1, by omega⟩ ⟨by decide, by decide⟩
      exact ⟨_, ds', t1, t2, (p, q), rfl, t3, t4⟩⟩) hd (by decide)
  cases c3 with
  | cons k1 c3 =>
    cases c3 with
    | cons k2 c3 =>
      cases c3
      obtain ⟨m1, rfl, g1⟩ := k1
      obtain ⟨m2, rfl, g2⟩ := k2
      have s1 : mSet 6 (mF (mComp [9] (mRng1 (mC (.int 2))) (tName 9) mYes (mTup (mCons (mCall (chk 2 f__law_take) (axV 0 (axD (mV 2) axNil))) (mCons (mCall (chk 2 f__law_take) (axV 0 (axD (mC (.int 2)) axNil))) mNil))))) [.drw, .d (.int most), .d (.int n), .d (.int kind), .l (b.map eRow), .d x, x6, .un, .un, .un, .un, .un, .un] ds = some (.nx [.drw, .d (.int most), .d (.int n), .d (.int kind), .l (b.map eRow), .d x, .d (.list [eMv m1, eMv m2]), .un, .un, .un, .un, .un, .un], ds1) :=
        gSet (gF c1) (by rcases h6 with rfl | ⟨d, rfl⟩ <;> rfl)
      have s2 : ∃ m2' : Int × Int, okMv n m2' ∧ mIfS (mTst (mOp fEq (mV 3) (mC (.int 0)))) (mSet 6 (mF (mComp [10, 11] (mItems (mV 6)) (tTup 2 (tConsT (tName 10) (tConsT (tName 11) tNilT))) mYes (mTup (mCons (mV 10) (mCons (mOp fIx (mOp fIx (mV 6) (mC (.int 0))) (mC (.int 1))) mNil)))))) mSkip [.drw, .d (.int most), .d (.int n), .d (.int kind), .l (b.map eRow), .d x, .d (.list [eMv m1, eMv m2]), .un, .un, .un, .un, .un, .un] ds1
          = some (.nx [.drw, .d (.int most), .d (.int n), .d (.int kind), .l (b.map eRow), .d x, .d (.list [eMv m1, eMv m2']), .un, .un, .un, .un, .un, .un], ds1) := by
        by_cases hk : kind = 0
        · subst hk
          exact ⟨(m2.1, m1.2), ⟨g2.1, g1.2⟩, (gIfT rfl).trans rfl⟩
        · exact ⟨m2, g2, (gIfF (gTst (gOp rfl rfl (by rw [fEq_int, show (kind == 0) = false from beq_eq_false_iff_ne.mpr hk])))).trans rfl⟩
      obtain ⟨m3, g3, s2⟩ := s2
      have hl : (b.map eRow).length < 16777216 := by rw [List.length_map]; omega
      refine ⟨_, _, _, e1, gSeq s1 (gSeq s2 (gApp (xs := b.map eRow) (x := eRow (m1, m3)) rfl rfl hl)), c2, b ++ [(m1, m3)], .d x, .d (.list [eMv m1, eMv m3]), .inr ⟨_, rfl⟩, .inr ⟨_, rfl⟩, by rw [List.length_append, hb]; rfl, fun r hrr => ?_, ?_⟩
      · rcases List.mem_append.mp hrr with q | q
        · exact hr r q
        · rw [List.mem_singleton] at q
          subst q
          exact ⟨g1, g3⟩
      · rw [List.map_append]
        rfl
theorem box_ok {ds : DS} (h : DI ds) {most : Int} (hm : 0 < most ∧ most ≤ 60) : ∃ (b : List Row) (ds' : DS), f__law_box [.drw, .d (.int most)] ds = some (.ok (eBox b), ds') ∧ DI ds' ∧ 1 ≤ b.length ∧ (b.length : Int) ≤ most ∧ ∀ r ∈ b, okRow b.length r := by
  obtain ⟨r0, ds0, a1, a2, a3, a4⟩ := take_ok h hm.1 (by omega)
  obtain ⟨kind, ds1, b1, b2, b3, b4⟩ := take_ok a4 (many := 4) (by decide) (by decide)
  have hn : 0 < 1 + r0 ∧ 1 + r0 < 1000 := by omega
  obtain ⟨env2, ds2, c1, c2⟩ := for_inv (t := tName 5) (I := BI most (1 + r0) kind) (rangeD 0 (1 + r0).toNat) 0 [.drw, .d (.int most), .d (.int (1 + r0)), .d (.int kind), .l [], .un, .un, .un, .un, .un, .un, .un, .un] ds1 (fun i x env ds hx hI => row_step hn (by
    have := (List.getElem?_eq_some_iff.mp hx).1
    unfold rangeD at this
    rw [List.length_map, List.length_range] at this
    omega) hI) ⟨b4, [], .un, .un, .inl rfl, .inl rfl, rfl, (fun _ q => by cases q), rfl⟩
  obtain ⟨d2, b, x5, x6, h5, h6, hb, hr, rfl⟩ := c2
  have hbl : (b.length : Int) = 1 + r0 := by
    rw [hb]
    unfold rangeD
    rw [List.length_map, List.length_range]
    omega
  have head : ∀ {o : Option (Fl × DS)} {m : MS}, m [.drw, .d (.int most), .d (.int (1 + r0)), .d (.int kind), .l (b.map eRow), x5, x6, .un, .un, .un, .un, .un, .un] ds2 = o →
      (mSeq (mSet 2 (mOp fAdd (mC (.int 1)) (mCall (chk 2 f__law_take) (axV 0 (axD (mV 1) axNil))))) (mSeq (mSet 3 (mCall (chk 2 f__law_take) (axV 0 (axD (mC (.int 4)) axNil)))) (mSeq (mSetL 4 (mLst mNil)) (mSeq (mFor (mRng1 (mV 2)) (tName 5) (mSeq (mSet 6 (mF (mComp [9] (mRng1 (mC (.int 2))) (tName 9) mYes (mTup (mCons (mCall (chk 2 f__law_take) (axV 0 (axD (mV 2) axNil))) (mCons (mCall (chk 2 f__law_take) (axV 0 (axD (mC (.int 2)) axNil))) mNil))))))
  (mSeq (mIfS (mTst (mOp fEq (mV 3) (mC (.int 0)))) (mSet 6 (mF (mComp [10, 11] (mItems (mV 6)) (tTup 2 (tConsT (tName 10) (tConsT (tName 11) tNilT))) mYes (mTup (mCons (mV 10) (mCons (mOp fIx (mOp fIx (mV 6) (mC (.int 0))) (mC (.int 1))) mNil)))))) mSkip)
  (mApp 4 (mUn fTuple (mV 6)))))) m)))) [.drw, .d (.int most), .un, .un, .un, .un, .un, .un, .un, .un, .un, .un, .un] ds = o := fun {o m} q =>
    gSeq (gSet (gOp rfl ((take_ev rfl rfl).trans a1) rfl) rfl) (gSeq (gSet ((take_ev rfl rfl).trans b1) rfl) (gSeq (gSetL rfl rfl) (gSeq (gFor (mRng1_int (mV 2) rfl (by omega)) c1) q)))
  by_cases hk : kind = 1
  · subst hk
    obtain ⟨one, ds3, o1, o2, o3, o4⟩ := order_ok d2 (n := 1 + r0) (by omega) (by omega)
    obtain ⟨two, ds4, t1, t2, t3, t4⟩ := order_ok o2 (n := 1 + r0) (by omega) (by omega)
    have ord : ∀ {env : Ev} {ds ds' : DS} {xs : List Int}, env[0]? = some .drw → env[2]? = some (.d (.int (1 + r0))) → f__law_order [.drw, .d (.int (1 + r0))] ds = some (.ok (.list (xs.map .int)), ds') → mCall (chk 2 f__law_order) (axV 0 (axD (mV 2) axNil)) env ds = some (.ok (.list (xs.map .int)), ds') := fun {env ds ds' xs} q0 q2 q => by
      refine gCall (args := [.drw, .d (.int (1 + r0))]) (ds1 := ds) ?_ rfl q
      rw [axV_ev, q0]
      dsimp only
      rw [axD_ev, mV_ev, q2]
      rfl
    let g : Nat → Row := fun k => ((one.getD k 0, (b.getD k ((0, 0), (0, 0))).1.2), (two.getD k 0, (b.getD k ((0, 0), (0, 0))).2.2))
    have hc : mComp [12] (mRng1 (mV 2)) (tName 12) mYes (mTup (mCons (mTup (mCons (mOp fIx (mV 7) (mV 12)) (mCons (mOp fIx (mOp fIx (mOp fIx (mVp 4) (mV 12)) (mC (.int 0))) (mC (.int 1))) mNil))) (mCons (mTup (mCons (mOp fIx (mV 8) (mV 12)) (mCons (mOp fIx (mOp fIx (mOp fIx (mVp 4) (mV 12)) (mC (.int 1))) (mC (.int 1))) mNil))) mNil))) [.drw, .d (.int most), .d (.int (1 + r0)), .d (.int 1), .l (b.map eRow), x5, x6, .d (.list (one.map .int)), .d (.list (two.map .int)), .un, .un, .un, .un] ds4
        = some (.ok (((List.range (1 + r0).toNat).filter fun _ => true).map fun k => eRow (g k)), ds4) := by
      refine comp_ev (env1 := [.drw, .d (.int most), .d (.int (1 + r0)), .d (.int 1), .l (b.map eRow), x5, x6, .d (.list (one.map .int)), .d (.list (two.map .int)), .un, .un, .un, .un]) (e := fun (k : Nat) => .int (0 + (k : Int))) (fun _ => true) (fun k => eRow (g k)) (mRng1_int (mV 2) rfl (by omega)) rfl (fun k hk => ⟨[.drw, .d (.int most), .d (.int (1 + r0)), .d (.int 1), .l (b.map eRow), x5, x6, .d (.list (one.map .int)), .d (.list (two.map .int)), .un, .un, .un, .d (.int (0 + (k : Int)))], rfl, rfl, fun _ => ?_⟩) (by rw [List.length_range]; omega)
      have hk := List.mem_range.mp hk
      have k1 : k < one.length := by omega
      have k2 : k < two.length := by omega
      have k3 : k < b.length := by omega
      have kz : (0 + (k : Int)).toNat = k := by omega
      have gb : fIx (.list (b.map eRow)) (.int (0 + (k : Int))) = some (eRow (b.getD k ((0, 0), (0, 0)))) := fIx_list (by omega) (by rw [kz, List.getElem?_map, List.getElem?_eq_getElem k3, List.getD_eq_getElem?_getD, List.getElem?_eq_getElem k3]; rfl)
      have g1 : fIx (.list (one.map .int)) (.int (0 + (k : Int))) = some (.int (one.getD k 0)) := fIx_list (by omega) (by rw [kz, List.getElem?_map, List.getElem?_eq_getElem k1, List.getD_eq_getElem?_getD, List.getElem?_eq_getElem k1]; rfl)
      have g2 : fIx (.list (two.map .int)) (.int (0 + (k : Int))) = some (.int (two.getD k 0)) := fIx_list (by omega) (by rw [kz, List.getElem?_map, List.getElem?_eq_getElem k2, List.getD_eq_getElem?_getD, List.getElem?_eq_getElem k2]; rfl)
      exact gTup (gCons (gTup (gCons (gOp rfl rfl g1) (gCons (gOp (gOp (gOp rfl rfl gb) rfl rfl) rfl rfl) rfl)) sh2) (gCons (gTup (gCons (gOp rfl rfl g2) (gCons (gOp (gOp (gOp rfl rfl gb) rfl rfl) rfl rfl) rfl)) sh2) rfl)) sh2
    have hf : (List.range (1 + r0).toNat).filter (fun _ => true) = List.range (1 + r0).toNat := List.filter_eq_self.mpr fun _ _ => rfl
    rw [hf] at hc
    have ln : ((List.range (1 + r0).toNat).map g).length = b.length := by rw [List.length_map, List.length_range]; omega
    refine ⟨(List.range (1 + r0).toNat).map g, ds4, gRunRt (head (gSeq (env' := [.drw, .d (.int most), .d (.int (1 + r0)), .d (.int 1), .l (((List.range (1 + r0).toNat).map g).map eRow), x5, x6, .d (.list (one.map .int)), .d (.list (two.map .int)), .un, .un, .un, .un]) ((gIfT rfl).trans (gSeq (gAsg (gTup (gCons (ord rfl rfl o1) (gCons (ord rfl rfl t1) rfl)) sh2) rfl) (gSetL hc (by rw [List.map_map]; rfl)))) rfl)), t2, ?_, ?_, fun r hrr => ?_⟩
    · rw [ln]; omega
    · rw [ln]; omega
    · obtain ⟨k, hk, rfl⟩ := List.mem_map.mp hrr
      have hk := List.mem_range.mp hk
      have k1 : k < one.length := by omega
      have k2 : k < two.length := by omega
      have k3 : k < b.length := by omega
      have q1 := o4 one[k] (List.getElem_mem k1)
      have q2 := t4 two[k] (List.getElem_mem k2)
      have q3 := hr b[k] (List.getElem_mem k3)
      rw [ln, hbl]
      show okMv _ (one.getD k 0, _) ∧ okMv _ (two.getD k 0, _)
      simp only [List.getD_eq_getElem?_getD, List.getElem?_eq_getElem k1, List.getElem?_eq_getElem k2, List.getElem?_eq_getElem k3, Option.getD_some]
      exact ⟨⟨q1, q3.1.2⟩, ⟨q2, q3.2.2⟩⟩
  · refine ⟨b, ds2, gRunRt (head (gSeq ((gIfF (gTst (gOp rfl rfl (by rw [fEq_int, show (kind == 1) = false from beq_eq_false_iff_ne.mpr hk])))).trans rfl) rfl)), d2, by omega, by omega, fun r hrr => by rw [hbl]; exact hr r hrr⟩
end Lw

/-! Od: odd boxes are told to be malformed. -/
namespace Lw
open PySem PySem.Spec L2 DL

def oddL : List PyData := [.none,
  (.tuple []),
  (.int 5),
  (.list [(.tuple [(.tuple [(.int 0), (.int 0)]), (.tuple [(.int 0), (.int 0)])])]),
  (.tuple [(.tuple [(.tuple [(.int 0), (.int 0)])])]),
  (.tuple [(.tuple [(.tuple [(.int 1), (.int 0)]), (.tuple [(.int 0), (.int 0)])])]),
  (.tuple [(.tuple [(.tuple [(.int 0), (.int 2)]), (.tuple [(.int 0), (.int 0)])])]),
  (.tuple [(.tuple [(.tuple [(.int 0), (.bool true)]), (.tuple [(.int 0), (.int 0)])])]),
  (.tuple [(.tuple [(.tuple [(.int 0), (.int 0)]), (.tuple [(.int 0), (.int 0)]), (.tuple [(.int 0), (.int 0)])])]),
  (.tuple [(.tuple [(.tuple [(.int (-1)), (.int 0)]), (.tuple [(.int 0), (.int 0)])])]),
  (.tuple [(.list [(.tuple [(.int 0), (.int 0)]), (.tuple [(.int 0), (.int 0)])])]),
  (.tuple [(.tuple [(.tuple [(.int 0), (.int 0)]), (.list [(.int 0), (.int 0)])])]),
  (.tuple [(.tuple [(.tuple [(.int 0), (.int 0)]), (.tuple [(.int 0), (.int 0)])]), (.tuple [(.tuple [(.int 0), (.int 0)]), (.tuple [(.int 0), (.int 0)])]), (.tuple [(.tuple [(.int 0), (.int 0)]), (.tuple [(.int 0), (.int 0)])]), (.tuple [(.tuple [(.int 0), (.int 0)]), (.tuple [(.int 0), (.int 0)])]), (.tuple [(.tuple [(.int 0), (.int 0)]), (.tuple [(.int 0), (.int 0)])]), (.tuple [(.tuple [(.int 0), (.int 0)]), (.tuple [(.int 0), (.int 0)])]), (.tuple [(.tuple [(.int 0), (.int 0)]), (.tuple [(.int 0), (.int 0)])])]),
  (.tuple [(.tuple [(.tuple [(.int 0)]), (.tuple [(.int 0), (.int 0)])])]),
  (.tuple [.none])]
theorem all_mem {α : Type} {P : α → Prop} : ∀ {l : List α}, (l.foldr (fun x q => P x ∧ q) True) → ∀ x ∈ l, P x
  | [], _, x, h => by cases h
  | y :: r, h, x, hx => by
    rcases List.mem_cons.mp hx with e | e
    · subst e; exact h.1
    · exact all_mem (l := r) h.2 x e
theorem odd_bad : ∀ d ∈ oddL, ∀ ds : DS, f_check_box [.d d] ds = some (.exc .malformed, ds) :=
  all_mem (P := fun d => ∀ ds : DS, f_check_box [.d d] ds = some (.exc .malformed, ds)) ⟨fun _ => rfl, fun _ => rfl, fun _ => rfl, fun _ => rfl, fun _ => rfl, fun _ => rfl, fun _ => rfl, fun _ => rfl, fun _ => rfl, fun _ => rfl, fun _ => rfl, fun _ => rfl, fun _ => rfl, fun _ => rfl, fun _ => rfl, trivial⟩
theorem odd_ok {ds : DS} (h : DI ds) : ∃ (d : PyData) (ds' : DS), f__law_odd_box [.drw] ds = some (.ok d, ds') ∧ DI ds' ∧ ∀ ds : DS, f_check_box [.d d] ds = some (.exc .malformed, ds) := by
  obtain ⟨r, ds', t1, t2, t3, t4⟩ := take_ok h (many := 15) (by decide) (by decide)
  have hl : r.toNat < oddL.length := by
    show r.toNat < 15
    omega
  refine ⟨oddL[r.toNat], ds', gRunRt (gSeq rfl (gRet (gOp (x := .list oddL) (ds1 := ds) rfl ((take_ev rfl rfl).trans t1) (fIx_list t2 (List.getElem?_eq_getElem hl))))), t4, odd_bad _ (List.getElem_mem hl)⟩
end Lw

/-! T54a: what the defs of the law give for a box that is one. -/
namespace Lw
open PySem PySem.Spec L2 DL

def setsN : Nat → List (List Int)
  | 1 => [[0]]
  | 2 => [[0], [0, 1], [1]]
  | 3 => [[0], [0, 1], [0, 1, 2], [0, 2], [1], [1, 2], [2]]
  | 4 => [[0], [0, 1], [0, 1, 2], [0, 1, 2, 3], [0, 1, 3], [0, 2], [0, 2, 3], [0, 3], [1], [1, 2], [1, 2, 3], [1, 3], [2], [2, 3], [3]]
  | 5 => [[0], [0, 1], [0, 1, 2], [0, 1, 2, 3], [0, 1, 2, 3, 4], [0, 1, 2, 4], [0, 1, 3], [0, 1, 3, 4], [0, 1, 4], [0, 2], [0, 2, 3], [0, 2, 3, 4], [0, 2, 4], [0, 3], [0, 3, 4], [0, 4], [1], [1, 2], [1, 2, 3], [1, 2, 3, 4], [1, 2, 4], [1, 3], [1, 3, 4], [1, 4], [2], [2, 3], [2, 3, 4], [2, 4], [3], [3, 4], [4]]
  | _ => []
def eR (l : List Int) : PyData := .tuple (l.map .int)
def T0 (b : List Row) (s : Int) : Int := (b.getD s.toNat ((0, 0), (0, 0))).1.1
def T1 (b : List Row) (s : Int) : Int := (b.getD s.toNat ((0, 0), (0, 0))).2.1
def memI (x : Int) (l : List Int) : Bool := l.any fun y => y == x
theorem memI_iff {x : Int} {l : List Int} : memI x l = true ↔ x ∈ l := by
  unfold memI
  rw [List.any_eq_true]
  exact ⟨fun ⟨y, h, e⟩ => by rw [← beq_iff_eq.mp e]; exact h, fun h => ⟨x, h, beq_self_eq_true x⟩⟩
theorem sets_in : ∀ n : Nat, n ≤ 5 → ∀ S ∈ setsN n, ∀ s ∈ S, 0 ≤ s ∧ s < (n : Int) := by decide +kernel
theorem sets_pair : ∀ n : Nat, n ≤ 5 → ∀ S ∈ setsN n, S.Pairwise (· < ·) ∧ S ≠ [] := by decide +kernel
theorem sets_len : ∀ n : Nat, n ≤ 5 → (setsN n).length ≤ 31 ∧ ∀ S ∈ setsN n, S.length ≤ 5 := by decide +kernel
theorem fIn_int (x : Int) (S : List Int) : fIn (.int x) (eR S) = some (.bool (memI x S)) := by
  show (if SeqAt.shaped (.int x) && SeqAt.shaped (.tuple (S.map .int)) then some (PyData.bool ((S.map PyData.int).any fun z => PyData.eqv z (.int x))) else none) = _
  rw [(shaped_ints S).2, List.any_map]
  rfl
theorem fIn_list (x : Int) (S : List Int) : fIn (.int x) (.list (S.map .int)) = some (.bool (memI x S)) := by
  show (if SeqAt.shaped (.int x) && SeqAt.shaped (.list (S.map .int)) then some (PyData.bool ((S.map PyData.int).any fun z => PyData.eqv z (.int x))) else none) = _
  rw [(shaped_ints S).1, List.any_map]
  rfl
theorem fNotIn_list (x : Int) (S : List Int) : fNotIn (.int x) (.list (S.map .int)) = some (.bool (!memI x S)) := by
  show (if SeqAt.shaped (.int x) && SeqAt.shaped (.list (S.map .int)) then some (PyData.bool (!(S.map PyData.int).any fun z => PyData.eqv z (.int x))) else none) = _
  rw [(shaped_ints S).1, List.any_map]
  rfl
theorem fAll_map (bs : List Bool) : fAll (.list (bs.map .bool)) = some (.bool (bs.all id)) := by
  unfold fAll
  dsimp only
  rw [boolsOf_map]
  rfl
theorem fAny_map (bs : List Bool) : fAny (.list (bs.map .bool)) = some (.bool (bs.any id)) := by
  unfold fAny
  dsimp only
  rw [boolsOf_map]
  rfl
theorem put_fr {env : Ev} {i : Nat} {x y : Sl} (h : env[i]? = some y) (hy : frS y) : put i x env = some (env.set i x) := by
  have hl := (List.getElem?_eq_some_iff.mp h).1
  unfold put notLk
  rw [h, decide_eq_true hl]
  rcases hy with rfl | ⟨d, rfl⟩ <;> rfl
theorem filter_yes {α : Type} (l : List α) : l.filter (fun _ => true) = l := List.filter_eq_self.mpr fun _ _ => rfl
/-! ### the sets -/
theorem sets_of_ok {ds : DS} : ∀ n : Nat, 1 ≤ n → n ≤ 5 → f_sets_of [.d (.int n)] ds = some (.ok (.list ((setsN n).map eR)), ds)
  | 0, h, _ => absurd h (by decide)
  | 1, _, _ => by kernel_rfl
  | 2, _, _ => by kernel_rfl
  | 3, _, _ => by kernel_rfl
  | 4, _, _ => by kernel_rfl
  | 5, _, _ => by kernel_rfl
  | _ + 6, _, h => absurd h (by omega)
theorem law_sets_ok {ds : DS} : ∀ n : Nat, 1 ≤ n → n ≤ 5 → f__law_sets [.d (.int n)] ds = some (.ok (.list ((setsN n).map eR)), ds)
  | 0, h, _ => absurd h (by decide)
  | 1, _, _ => by kernel_rfl
  | 2, _, _ => by kernel_rfl
  | 3, _, _ => by kernel_rfl
  | 4, _, _ => by kernel_rfl
  | 5, _, _ => by kernel_rfl
  | _ + 6, _, h => absurd h (by omega)
/-! ### a box is a box -/
section
variable {b : List Row} {ds : DS}
theorem box_at {s : Int} (h0 : 0 ≤ s) (h1 : s < b.length) : fIx (eBox b) (.int s) = some (eRow (b.getD s.toNat ((0, 0), (0, 0)))) := fIx_tuple h0 (by
  have hl : s.toNat < b.length := by omega
  rw [List.getElem?_map, List.getElem?_eq_getElem hl, List.getD_eq_getElem?_getD, List.getElem?_eq_getElem hl]
  rfl)
theorem row_in {s : Int} (hr : ∀ r ∈ b, okRow b.length r) (h0 : 0 ≤ s) (h1 : s < b.length) : okRow b.length (b.getD s.toNat ((0, 0), (0, 0))) := by
  have hl : s.toNat < b.length := by omega
  rw [List.getD_eq_getElem?_getD, List.getElem?_eq_getElem hl]
  exact hr _ (List.getElem_mem hl)
theorem is_move_ok {n : Int} {m : Int × Int} (h : okMv n m) : f_is_move [.d (eMv m), .d (.int n)] ds = some (.ok (.bool true), ds) := by
  refine gRunRt (gSeq ((gIfF rfl).trans rfl) (gRet ?_))
  obtain ⟨⟨h1, h2⟩, h3, h4⟩ := h
  have e : (PyData.bool true) = .bool ((decide (0 ≤ m.1) && decide (m.1 < n)) && (decide (0 ≤ m.2) && decide (m.2 ≤ 1))) := by
    rw [decide_eq_true h1, decide_eq_true h2, decide_eq_true h3, decide_eq_true (by omega : m.2 ≤ 1)]
    rfl
  rw [e]
  exact gAndV (gChain (u := .int n) rfl (gOp rfl rfl rfl) (fLe_int _ _) rfl (fLt_int _ _)) (gChain (u := .int 1) rfl (gOp rfl rfl rfl) (fLe_int _ _) rfl (fLe_int _ _))
theorem is_box_ok (h1 : 1 ≤ b.length) (h5 : b.length ≤ 5) (hr : ∀ r ∈ b, okRow b.length r) : f_is_box [.d (eBox b)] ds = some (.ok (.bool true), ds) := by
  have c1 : mComp [1] (mItems (mV 0)) (tName 1) mYes (mAndV (mIsi 2 (mV 1)) (mOp fEq (mUn fLen (mV 1)) (mC (.int 2)))) [.d (eBox b), .un, .un] ds = some (.ok ((b.filter fun _ => true).map fun _ => .bool true), ds) :=
    comp_ev (env1 := [.d (eBox b), .un, .un]) (e := eRow) (fun _ => true) (fun _ => .bool true) rfl rfl (fun r _ => ⟨_, rfl, rfl, fun _ => rfl⟩) (by omega)
  have c2 : mComp2 [1, 2] (mItems (mV 0)) (tName 1) mYes (mItems (mV 1)) [2] (tName 2) mYes (mCall (chk 2 f_is_move) (axD (mV 2) (axD (mUn fLen (mV 0)) axNil))) [.d (eBox b), .un, .un] ds = some (.ok (b.flatMap fun r => [r.1, r.2].map fun _ => .bool true), ds) :=
    comp2_ev (env1 := [.d (eBox b), .un, .un]) (e := eRow) (e' := eMv) (fun r => [r.1, r.2]) (fun _ _ => .bool true) 2 rfl rfl (fun r hrr => ⟨Nat.le_refl _, [.d (eBox b), .d (eRow r), .un], [.d (eBox b), .d (eRow r), .un], rfl, rfl, rfl, rfl, fun m hm => ⟨[.d (eBox b), .d (eRow r), .d (eMv m)], rfl, rfl, by
      refine gCall (args := [.d (eMv m), .d (.int b.length)]) (ds1 := ds) (gAx rfl (gAx (gUn (x := eBox b) rfl (by show fLen (.tuple (b.map eRow)) = _; rw [fLen_tuple, List.length_map])) rfl)) rfl (is_move_ok ?_)
      have q := hr r hrr
      rcases List.mem_cons.mp hm with e | e
      · rw [e]; exact q.1
      · rw [List.mem_singleton.mp e]; exact q.2⟩⟩) (by omega)
  rw [filter_yes] at c1
  have e1 : (b.map fun _ => PyData.bool true) = (b.map fun _ => true).map .bool := by rw [List.map_map]; rfl
  have e2 : (b.flatMap fun r => [r.1, r.2].map fun _ => PyData.bool true) = (b.flatMap fun _ => [true, true]).map .bool := by rw [List.map_flatMap]; rfl
  rw [e1] at c1
  rw [e2] at c2
  refine gRunRt (gSeq (env' := [.d (eBox b), .un, .un]) (ds1 := ds) ((gIfF ?_).trans rfl) (gSeq (env' := [.d (eBox b), .un, .un]) (ds1 := ds) ((gIfF ?_).trans rfl) (gRet (gUn (gF c2) ?_))))
  · refine gOr (k := false) (k' := false) rfl ?_
    have e : (false : Bool) = !(decide ((1 : Int) ≤ (b.length : Int)) && decide ((b.length : Int) ≤ 5)) := by
      rw [decide_eq_true (by omega : (1 : Int) ≤ (b.length : Int)), decide_eq_true (by omega : (b.length : Int) ≤ 5)]
      rfl
    rw [e]
    exact gNot (gTst (gChain (u := k_MOST_STATES) (y := .int b.length) rfl (gUn (x := eBox b) rfl (by show fLen (.tuple (b.map eRow)) = _; rw [fLen_tuple, List.length_map])) (fLe_int _ _) rfl (fLe_int _ _)))
  · refine (gNot (k := true) (gTst (gUn (gF c1) ?_)) : _)
    rw [fAll_map, List.all_map]
    have : (b.all (id ∘ fun _ => true)) = true := List.all_eq_true.mpr fun _ _ => rfl
    rw [this]
  · rw [fAll_map]
    have : (b.flatMap fun _ => [true, true]).all id = true := List.all_eq_true.mpr fun x hx => by
      obtain ⟨_, _, q⟩ := List.mem_flatMap.mp hx
      rcases List.mem_cons.mp q with e | e
      · rw [e]; rfl
      · rw [List.mem_singleton.mp e]; rfl
    rw [this]
theorem check_box_ok (h1 : 1 ≤ b.length) (h5 : b.length ≤ 5) (hr : ∀ r ∈ b, okRow b.length r) : f_check_box [.d (eBox b)] ds = some (.ok .none, ds) :=
  gRunNx (env' := [.d (eBox b)]) ((gIfF (gNot (k := true) (gTst (gCall (ds1 := ds) (gAx rfl rfl) rfl (is_box_ok h1 h5 hr))))).trans rfl)
end
end Lw

/-! T54b: the staying sets, the closed sets, what is reached. -/
namespace Lw
open PySem PySem.Spec L2 DL

/-- the set stays: each of its states goes to states of it -/
def stayB (b : List Row) (S : List Int) : Bool := (S.flatMap fun s => [memI (T0 b s) S, memI (T1 b s) S]).all id
def stayL (b : List Row) : List (List Int) := (setsN b.length).filter (stayB b)
def goodB (b : List Row) (S : List Int) : Bool := !((stayL b).map fun o => !(o == S) && (o.map fun s => memI s S).all id).any id
def stepF (b : List Row) (F : List Int) : List Int := F ++ (sortU (F.map (T0 b) ++ F.map (T1 b))).filter fun x => !memI x F
def itF (b : List Row) (p : Int) : Nat → List Int
  | 0 => [p]
  | i + 1 => stepF b (itF b p i)
def reachL (b : List Row) (p : Int) : List Int := sortU (itF b p b.length)
structure BoxOk (b : List Row) : Prop where
  one : 1 ≤ b.length
  five : b.length ≤ 5
  rows : ∀ r ∈ b, okRow b.length r
def InB (b : List Row) (S : List Int) : Prop := ∀ s ∈ S, 0 ≤ s ∧ s < (b.length : Int)
section
variable {b : List Row} {ds : DS}
theorem BoxOk.t0 (B : BoxOk b) {s : Int} (h : 0 ≤ s ∧ s < (b.length : Int)) : 0 ≤ T0 b s ∧ T0 b s < (b.length : Int) := (row_in B.rows h.1 h.2).1.1
theorem BoxOk.t1 (B : BoxOk b) {s : Int} (h : 0 ≤ s ∧ s < (b.length : Int)) : 0 ≤ T1 b s ∧ T1 b s < (b.length : Int) := (row_in B.rows h.1 h.2).2.1
theorem len_box : fLen (eBox b) = some (.int b.length) := by
  show fLen (.tuple (b.map eRow)) = _
  rw [fLen_tuple, List.length_map]
/-- box[s][i][0] -/
theorem tgt_ok {env : Ev} {a s i : ME PyData} {x : Int} (ha : a env ds = some (.ok (eBox b), ds)) (hs : s env ds = some (.ok (.int x), ds)) (h : 0 ≤ x ∧ x < (b.length : Int)) : (i env ds = some (.ok (.int 0), ds) → mOp fIx (mOp fIx (mOp fIx a s) i) (mC (.int 0)) env ds = some (.ok (.int (T0 b x)), ds)) ∧ (i env ds = some (.ok (.int 1), ds) → mOp fIx (mOp fIx (mOp fIx a s) i) (mC (.int 0)) env ds = some (.ok (.int (T1 b x)), ds)) :=
  ⟨fun hi => gOp (gOp (gOp ha hs (box_at h.1 h.2)) hi rfl) rfl rfl, fun hi => gOp (gOp (gOp ha hs (box_at h.1 h.2)) hi rfl) rfl rfl⟩
theorem does_stay_ok {S : List Int} (hS : InB b S) (hl : S.length ≤ 5) : f_does_stay [.d (eBox b), .d (eR S)] ds = some (.ok (.bool (stayB b S)), ds) := by
  have c : mComp2 [2, 3] (mItems (mV 1)) (tName 2) mYes (mItems (mC k_INPUTS)) [3] (tName 3) mYes (mOp fIn (mOp fIx (mOp fIx (mOp fIx (mV 0) (mV 2)) (mV 3)) (mC (.int 0))) (mV 1)) [.d (eBox b), .d (eR S), .un, .un] ds = some (.ok (S.flatMap fun s => [(0 : Int), 1].map fun i => .bool (memI (if i = 0 then T0 b s else T1 b s) S)), ds) :=
    comp2_ev (env1 := [.d (eBox b), .d (eR S), .un, .un]) (e := .int) (e' := .int) (fun _ => [(0 : Int), 1]) (fun s i => .bool (memI (if i = 0 then T0 b s else T1 b s) S)) 2 rfl rfl (fun s hs => ⟨Nat.le_refl _, [.d (eBox b), .d (eR S), .d (.int s), .un], [.d (eBox b), .d (eR S), .d (.int s), .un], rfl, rfl, rfl, rfl, fun i hi => by
      rcases List.mem_cons.mp hi with rfl | hi
      · exact ⟨[.d (eBox b), .d (eR S), .d (.int s), .d (.int 0)], rfl, rfl, gOp ((tgt_ok rfl rfl (hS s hs)).1 rfl) rfl (fIn_int _ _)⟩
      · obtain rfl := List.mem_singleton.mp hi
        exact ⟨[.d (eBox b), .d (eR S), .d (.int s), .d (.int 1)], rfl, rfl, gOp ((tgt_ok rfl rfl (hS s hs)).2 rfl) rfl (fIn_int _ _)⟩⟩) (by omega)
  have e : (S.flatMap fun s => [(0 : Int), 1].map fun i => PyData.bool (memI (if i = 0 then T0 b s else T1 b s) S)) = (S.flatMap fun s => [memI (T0 b s) S, memI (T1 b s) S]).map .bool := by rw [List.map_flatMap]; rfl
  rw [e] at c
  exact gRunRt (gRet (gUn (gF c) (fAll_map _)))
theorem sets_inB (B : BoxOk b) {S : List Int} (h : S ∈ setsN b.length) : InB b S := sets_in b.length B.five S h
theorem found_ok (B : BoxOk b) : f_found_staying [.d (eBox b)] ds = some (.ok (.list ((stayL b).map eR)), ds) := by
  have q := sets_len b.length B.five
  have c : mComp [1] (mItems (mCall (chk 1 f_sets_of) (axD (mUn fLen (mV 0)) axNil))) (tName 1) (mTst (mCall (chk 2 f_does_stay) (axD (mV 0) (axD (mV 1) axNil)))) (mV 1) [.d (eBox b), .un] ds = some (.ok (((setsN b.length).filter (stayB b)).map eR), ds) :=
    comp_ev (env1 := [.d (eBox b), .un]) (e := eR) (stayB b) eR (gItems (gCall (args := [.d (.int b.length)]) (ds1 := ds) (gAx (gUn (x := eBox b) rfl len_box) rfl) rfl (sets_of_ok b.length B.one B.five)) rfl) rfl (fun S hS => ⟨[.d (eBox b), .d (eR S)], rfl, gTst (gCall (args := [.d (eBox b), .d (eR S)]) (ds1 := ds) rfl rfl (does_stay_ok (sets_inB B hS) (q.2 S hS))), fun _ => rfl⟩) (by omega)
  exact gRunRt (gRet (gF c))
theorem staying_ok (B : BoxOk b) : f_staying [.d (eBox b)] ds = some (.ok (.tuple ((stayL b).map eR)), ds) :=
  gRunRt (gSeq (env' := [.d (eBox b)]) (gDrop (gCall (args := [.d (eBox b)]) (ds1 := ds) rfl rfl (check_box_ok B.one B.five B.rows))) (gRet (gUn (gCall (args := [.d (eBox b)]) (ds1 := ds) rfl rfl (found_ok B)) rfl)))
theorem eqv_ints : ∀ l m : List Int, PyData.eqvAll (l.map .int) (m.map .int) = (l == m)
  | [], [] => rfl
  | [], _ :: _ => rfl
  | _ :: _, [] => rfl
  | x :: l, y :: m => by
    show ((x == y) && PyData.eqvAll (l.map .int) (m.map .int)) = _
    rw [eqv_ints l m]
    rfl
theorem ne_rows (l m : List Int) : fNe (eR l) (eR m) = some (.bool (!(l == m))) := by
  unfold eR
  rw [fNe_sh (shaped_ints l).2 (shaped_ints m).2]
  show some (PyData.bool !(PyData.eqvAll (l.map .int) (m.map .int))) = _
  rw [eqv_ints]
theorem eq_lists (l m : List Int) : fEq (.list (l.map .int)) (.list (m.map .int)) = some (.bool (l == m)) := by
  rw [fEq_sh (shaped_ints l).1 (shaped_ints m).1]
  show some (PyData.bool (PyData.eqvAll (l.map .int) (m.map .int))) = _
  rw [eqv_ints]
theorem stay_mem {S : List Int} (h : S ∈ stayL b) : S ∈ setsN b.length ∧ stayB b S = true := List.mem_filter.mp h
theorem stay_len (B : BoxOk b) : (stayL b).length ≤ 31 := Nat.le_trans (List.length_filter_le _ _) (sets_len b.length B.five).1
/-- all([s in S for s in o]) -/
theorem sub_ok {env env1 : Ev} {i : Nat} {mi s1 s2 : ME PyData} {o S : List Int} (hi : mi env ds = some (.ok (eR o), ds)) (hw : wipeE env [i] = some env1) (hl : o.length ≤ 100) (h : ∀ x : Int, ∃ env2, tName i (.int x) env1 = some env2 ∧ s1 env2 ds = some (.ok (.int x), ds) ∧ s2 env2 ds = some (.ok (eR S), ds)) : mUn fAll (mF (mComp [i] (mItems mi) (tName i) mYes (mOp fIn s1 s2))) env ds = some (.ok (.bool ((o.map fun s => memI s S).all id)), ds) := by
  have c : mComp [i] (mItems mi) (tName i) mYes (mOp fIn s1 s2) env ds = some (.ok ((o.filter fun _ => true).map fun s => .bool (memI s S)), ds) :=
    comp_ev (e := .int) (fun _ => true) (fun s => .bool (memI s S)) (gItems hi rfl) hw (fun x _ => by
      obtain ⟨env2, h1, h2, h3⟩ := h x
      exact ⟨env2, h1, rfl, fun _ => gOp h2 h3 (fIn_int _ _)⟩) (by omega)
  rw [filter_yes, show (o.map fun s => PyData.bool (memI s S)) = (o.map fun s => memI s S).map .bool by rw [List.map_map]; rfl] at c
  exact gUn (gF c) (fAll_map _)
theorem closed_ok (B : BoxOk b) : f_closed_sets [.d (eBox b)] ds = some (.ok (.tuple (((stayL b).filter (goodB b)).map eR)), ds) := by
  have sl := stay_len B
  have loop := for_inv (t := tName 3) (body := mIfS (mNot (mTst (mUn fAny (mF (mComp [4] (mItems (mV 1)) (tName 4) mYes (mAndV (mOp fNe (mV 4) (mV 3)) (mUn fAll (mF (mComp [5] (mItems (mV 4)) (tName 5) mYes (mOp fIn (mV 5) (mV 3))))))))))) (mApp 2 (mV 3)) mSkip)
    (I := fun i env d => d = ds ∧ ∃ x, frS x ∧ env = [.d (eBox b), .d (.list ((stayL b).map eR)), .l ((((stayL b).take i).filter (goodB b)).map eR), x, .un, .un]) ((stayL b).map eR) 0 [.d (eBox b), .d (.list ((stayL b).map eR)), .l [], .un, .un, .un] ds (fun i y env d hy ⟨e1, x, hx, e2⟩ => by
      subst e1 e2
      rw [Nat.zero_add]
      rw [List.getElem?_map] at hy
      obtain ⟨S, hS, rfl⟩ := Option.map_eq_some_iff.mp hy
      have hSm : S ∈ stayL b := List.mem_of_getElem? hS
      have test : mNot (mTst (mUn fAny (mF (mComp [4] (mItems (mV 1)) (tName 4) mYes (mAndV (mOp fNe (mV 4) (mV 3)) (mUn fAll (mF (mComp [5] (mItems (mV 4)) (tName 5) mYes (mOp fIn (mV 5) (mV 3)))))))))) [.d (eBox b), .d (.list ((stayL b).map eR)), .l ((((stayL b).take i).filter (goodB b)).map eR), .d (eR S), .un, .un] d = some (.ok (goodB b S), d) := by
        have c : mComp [4] (mItems (mV 1)) (tName 4) mYes (mAndV (mOp fNe (mV 4) (mV 3)) (mUn fAll (mF (mComp [5] (mItems (mV 4)) (tName 5) mYes (mOp fIn (mV 5) (mV 3)))))) [.d (eBox b), .d (.list ((stayL b).map eR)), .l ((((stayL b).take i).filter (goodB b)).map eR), .d (eR S), .un, .un] d = some (.ok (((stayL b).filter fun _ => true).map fun o => .bool (!(o == S) && (o.map fun s => memI s S).all id)), d) :=
          comp_ev (env1 := [.d (eBox b), .d (.list ((stayL b).map eR)), .l ((((stayL b).take i).filter (goodB b)).map eR), .d (eR S), .un, .un]) (e := eR) (fun _ => true) (fun o => .bool (!(o == S) && (o.map fun s => memI s S).all id)) rfl rfl (fun o ho => ⟨[.d (eBox b), .d (.list ((stayL b).map eR)), .l ((((stayL b).take i).filter (goodB b)).map eR), .d (eR S), .d (eR o), .un], rfl, rfl, fun _ =>
            gAndV (gOp rfl rfl (ne_rows o S)) (sub_ok (env1 := [.d (eBox b), .d (.list ((stayL b).map eR)), .l ((((stayL b).take i).filter (goodB b)).map eR), .d (eR S), .d (eR o), .un]) rfl rfl (Nat.le_trans ((sets_len b.length B.five).2 o (stay_mem ho).1) (by decide)) fun x => ⟨_, rfl, rfl, rfl⟩)⟩) (by omega)
        rw [filter_yes, show ((stayL b).map fun o => PyData.bool (!(o == S) && (o.map fun s => memI s S).all id)) = ((stayL b).map fun o => !(o == S) && (o.map fun s => memI s S).all id).map .bool by rw [List.map_map]; rfl] at c
        exact gNot (gTst (gUn (gF c) (fAny_map _)))
      have tk : (stayL b).take (i + 1) = (stayL b).take i ++ [S] := by rw [List.take_add_one, hS]; rfl
      refine ⟨[.d (eBox b), .d (.list ((stayL b).map eR)), .l ((((stayL b).take i).filter (goodB b)).map eR), .d (eR S), .un, .un], [.d (eBox b), .d (.list ((stayL b).map eR)), .l ((((stayL b).take (i + 1)).filter (goodB b)).map eR), .d (eR S), .un, .un], d, put_fr rfl hx, ?_, rfl, _, .inr ⟨_, rfl⟩, rfl⟩
      rw [gIfS test, tk, List.filter_append]
      cases hg : goodB b S with
      | true =>
        rw [if_pos rfl, show [S].filter (goodB b) = [S] by rw [List.filter_cons, if_pos hg, List.filter_nil], List.map_append]
        refine gApp (x := eR S) rfl rfl ?_
        rw [List.length_map]
        have h1 := List.length_filter_le (goodB b) ((stayL b).take i)
        have h2 : ((stayL b).take i).length ≤ (stayL b).length := by rw [List.length_take]; exact Nat.min_le_right _ _
        omega
      | false =>
        rw [if_neg Bool.false_ne_true, show [S].filter (goodB b) = [] by rw [List.filter_cons, if_neg (by rw [hg]; exact Bool.false_ne_true), List.filter_nil], List.append_nil]
        rfl) ⟨rfl, .un, .inl rfl, by rw [List.take_zero]; rfl⟩
  obtain ⟨env', ds', l1, rfl, x, hx, rfl⟩ := loop
  rw [Nat.zero_add, List.length_map, List.take_length] at l1
  exact gRunRt (gSeq (env' := [.d (eBox b), .un, .un, .un, .un, .un]) (gDrop (gCall (args := [.d (eBox b)]) (ds1 := ds') rfl rfl (check_box_ok B.one B.five B.rows))) (gSeq (gSet (gCall (args := [.d (eBox b)]) (ds1 := ds') rfl rfl (found_ok B)) rfl) (gSeq (gSetL rfl rfl) (gSeq (gFor rfl l1) (gRet (gUn rfl rfl))))))
/-! ### what is reached -/
def Good (b : List Row) (F : List Int) : Prop := F.Nodup ∧ InB b F
theorem Good.len {F : List Int} (h : Good b F) : F.length ≤ b.length := by
  have q := nodup_len (m := (List.range b.length).map fun (k : Nat) => (k : Int)) h.1 fun x hx => List.mem_map.mpr ⟨x.toNat, List.mem_range.mpr (by have := h.2 x hx; omega), by have := h.2 x hx; omega⟩
  rw [List.length_map, List.length_range] at q
  exact q
theorem step_mem {F : List Int} {x : Int} : x ∈ stepF b F ↔ x ∈ F ∨ (∃ y ∈ F, x = T0 b y) ∨ ∃ y ∈ F, x = T1 b y := by
  unfold stepF
  rw [List.mem_append, List.mem_filter, sortU_mem, List.mem_append, List.mem_map, List.mem_map]
  constructor
  · rintro (h | ⟨⟨y, h, e⟩ | ⟨y, h, e⟩, _⟩)
    · exact .inl h
    · exact .inr (.inl ⟨y, h, e.symm⟩)
    · exact .inr (.inr ⟨y, h, e.symm⟩)
  · rintro (h | ⟨y, h, e⟩ | ⟨y, h, e⟩)
    · exact .inl h
    · by_cases m : x ∈ F
      · exact .inl m
      · exact .inr ⟨.inl ⟨y, h, e.symm⟩, by rw [Bool.not_eq_true', ← Bool.not_eq_true, memI_iff]; exact m⟩
    · by_cases m : x ∈ F
      · exact .inl m
      · exact .inr ⟨.inr ⟨y, h, e.symm⟩, by rw [Bool.not_eq_true', ← Bool.not_eq_true, memI_iff]; exact m⟩
theorem Good.step (B : BoxOk b) {F : List Int} (h : Good b F) : Good b (stepF b F) := by
  refine ⟨?_, fun x hx => ?_⟩
  · unfold stepF
    refine List.nodup_append.mpr ⟨h.1, ?_, fun x hx y hy e => ?_⟩
    · exact ((sortU_pair _).imp fun {a c} q => (by omega : a ≠ c)).filter _
    · subst e
      obtain ⟨_, q⟩ := List.mem_filter.mp hy
      rw [Bool.not_eq_true', ← Bool.not_eq_true, memI_iff] at q
      exact q hx
  · rcases step_mem.mp hx with q | ⟨y, q, rfl⟩ | ⟨y, q, rfl⟩
    · exact h.2 x q
    · exact B.t0 (h.2 y q)
    · exact B.t1 (h.2 y q)
theorem it_good (B : BoxOk b) {p : Int} (hp : 0 ≤ p ∧ p < (b.length : Int)) : ∀ i, Good b (itF b p i)
  | 0 => ⟨List.nodup_cons.mpr ⟨fun q => (nomatch q), List.Pairwise.nil⟩, fun x hx => by rw [List.mem_singleton.mp hx]; exact hp⟩
  | i + 1 => (it_good B hp i).step B
theorem reached_ok (B : BoxOk b) {p : Int} (hp : 0 ≤ p ∧ p < (b.length : Int)) : f__law_reached [.d (eBox b), .d (.int p)] ds = some (.ok (.list ((reachL b p).map .int)), ds) := by
  have loop := for_inv (t := tName 3) (body := mSeq (mSet 4 (mF (mUnF fSortSet (mOp fAdd (mF (mComp [5] (mItems (mV 2)) (tName 5) mYes (mOp fIx (mOp fIx (mOp fIx (mV 0) (mV 5)) (mC (.int 0))) (mC (.int 0))))) (mF (mComp [5] (mItems (mV 2)) (tName 5) mYes (mOp fIx (mOp fIx (mOp fIx (mV 0) (mV 5)) (mC (.int 1))) (mC (.int 0)))))))))
  (mSet 2 (mOp fAdd (mV 2) (mF (mComp [6] (mItems (mV 4)) (tName 6) (mTst (mOp fNotIn (mV 6) (mV 2))) (mV 6))))))
    (I := fun i env d => d = ds ∧ ∃ x y, frS x ∧ frS y ∧ env = [.d (eBox b), .d (.int p), .d (.list ((itF b p i).map .int)), x, y, .un, .un]) (b.map eRow) 0 [.d (eBox b), .d (.int p), .d (.list [.int p]), .un, .un, .un, .un] ds (fun i z env d hz ⟨e1, x, y, hx, hy, e2⟩ => by
      subst e1 e2
      rw [Nat.zero_add]
      have G := it_good B hp i
      have gl := G.len
      have b5 := B.five
      have sl := sortU_len ((itF b p i).map (T0 b) ++ (itF b p i).map (T1 b))
      rw [List.length_append, List.length_map, List.length_map] at sl
      have c0 : mComp [5] (mItems (mV 2)) (tName 5) mYes (mOp fIx (mOp fIx (mOp fIx (mV 0) (mV 5)) (mC (.int 0))) (mC (.int 0))) [.d (eBox b), .d (.int p), .d (.list ((itF b p i).map .int)), .d z, y, .un, .un] d = some (.ok (((itF b p i).filter fun _ => true).map fun s => .int (T0 b s)), d) :=
        comp_ev (env1 := [.d (eBox b), .d (.int p), .d (.list ((itF b p i).map .int)), .d z, y, .un, .un]) (e := .int) (fun _ => true) (fun s => .int (T0 b s)) rfl rfl (fun s hs => ⟨[.d (eBox b), .d (.int p), .d (.list ((itF b p i).map .int)), .d z, y, .d (.int s), .un], rfl, rfl, fun _ => (tgt_ok rfl rfl (G.2 s hs)).1 rfl⟩) (by omega)
      have c1 : mComp [5] (mItems (mV 2)) (tName 5) mYes (mOp fIx (mOp fIx (mOp fIx (mV 0) (mV 5)) (mC (.int 1))) (mC (.int 0))) [.d (eBox b), .d (.int p), .d (.list ((itF b p i).map .int)), .d z, y, .un, .un] d = some (.ok (((itF b p i).filter fun _ => true).map fun s => .int (T1 b s)), d) :=
        comp_ev (env1 := [.d (eBox b), .d (.int p), .d (.list ((itF b p i).map .int)), .d z, y, .un, .un]) (e := .int) (fun _ => true) (fun s => .int (T1 b s)) rfl rfl (fun s hs => ⟨[.d (eBox b), .d (.int p), .d (.list ((itF b p i).map .int)), .d z, y, .d (.int s), .un], rfl, rfl, fun _ => (tgt_ok rfl rfl (G.2 s hs)).2 rfl⟩) (by omega)
      rw [filter_yes] at c0 c1
      have c2 : mComp [6] (mItems (mV 4)) (tName 6) (mTst (mOp fNotIn (mV 6) (mV 2))) (mV 6) [.d (eBox b), .d (.int p), .d (.list ((itF b p i).map .int)), .d z, .d (.list ((sortU ((itF b p i).map (T0 b) ++ (itF b p i).map (T1 b))).map .int)), .un, .un] d = some (.ok (((sortU ((itF b p i).map (T0 b) ++ (itF b p i).map (T1 b))).filter fun x => !memI x (itF b p i)).map .int), d) :=
        comp_ev (env1 := [.d (eBox b), .d (.int p), .d (.list ((itF b p i).map .int)), .d z, .d (.list ((sortU ((itF b p i).map (T0 b) ++ (itF b p i).map (T1 b))).map .int)), .un, .un]) (e := .int) (fun x => !memI x (itF b p i)) .int rfl rfl (fun s hs => ⟨[.d (eBox b), .d (.int p), .d (.list ((itF b p i).map .int)), .d z, .d (.list ((sortU ((itF b p i).map (T0 b) ++ (itF b p i).map (T1 b))).map .int)), .un, .d (.int s)], rfl, gTst (gOp rfl rfl (fNotIn_list _ _)), fun _ => rfl⟩) (by omega)
      have hs : fSortSet (.list (((itF b p i).map fun s => PyData.int (T0 b s)) ++ (itF b p i).map fun s => PyData.int (T1 b s))) = some ((sortU ((itF b p i).map (T0 b) ++ (itF b p i).map (T1 b))).map .int) := by
        rw [show ((itF b p i).map fun s => PyData.int (T0 b s)) ++ (itF b p i).map (fun s => PyData.int (T1 b s)) = ((itF b p i).map (T0 b) ++ (itF b p i).map (T1 b)).map .int by rw [List.map_append, List.map_map, List.map_map]; rfl]
        unfold fSortSet
        dsimp only
        rw [intsOf_map]
        dsimp only [Option.bind]
        rw [decide_eq_true (by rw [List.length_append, List.length_map, List.length_map]; omega), if_pos rfl]
      have fl := List.length_filter_le (fun x => !memI x (itF b p i)) (sortU ((itF b p i).map (T0 b) ++ (itF b p i).map (T1 b)))
      refine ⟨[.d (eBox b), .d (.int p), .d (.list ((itF b p i).map .int)), .d z, y, .un, .un], [.d (eBox b), .d (.int p), .d (.list ((itF b p (i + 1)).map .int)), .d z, .d (.list ((sortU ((itF b p i).map (T0 b) ++ (itF b p i).map (T1 b))).map .int)), .un, .un], d, put_fr rfl hx, gSeq (env' := [.d (eBox b), .d (.int p), .d (.list ((itF b p i).map .int)), .d z, .d (.list ((sortU ((itF b p i).map (T0 b) ++ (itF b p i).map (T1 b))).map .int)), .un, .un]) (gSet (gF (gUnF (gOp (gF c0) (gF c1) ?_) hs)) (put_fr rfl hy)) (gSet (gOp rfl (gF c2) ?_) (put_fr (y := .d (.list ((itF b p i).map .int))) rfl (.inr ⟨_, rfl⟩))), rfl, _, _, .inr ⟨_, rfl⟩, .inr ⟨_, rfl⟩, rfl⟩
      · show (if short _ then some _ else none) = _
        rw [short_of (by rw [List.length_map, List.length_map]; omega), if_pos rfl]
      · show (if short _ then some (PyData.list _) else none) = some (.list ((stepF b (itF b p i)).map .int))
        rw [short_of (by rw [List.length_map, List.length_map]; omega), if_pos rfl]
        unfold stepF
        rw [List.map_append]) ⟨rfl, .un, .un, .inl rfl, .inl rfl, rfl⟩
  obtain ⟨env', ds', l1, rfl, x, y, hx, hy, rfl⟩ := loop
  rw [Nat.zero_add, List.length_map] at l1
  refine gRunRt (gSeq (env' := [.d (eBox b), .d (.int p), .d (.list [.int p]), .un, .un, .un, .un]) rfl (gSeq (gFor rfl l1) (gRet (gF (gUnF rfl ?_)))))
  rw [fSort_ints, sortI_nodup (it_good B hp _).1]
  rfl
end
end Lw

/-! T54c: the closed sets are the staying sets in which each state reaches all. -/
namespace Lw
open PySem PySem.Spec L2 DL

section
variable {b : List Row} {ds : DS}
def Cl (b : List Row) (F : List Int) : Prop := ∀ y ∈ F, T0 b y ∈ F ∧ T1 b y ∈ F
theorem stay_iff {S : List Int} : stayB b S = true ↔ Cl b S := by
  unfold stayB Cl
  rw [List.all_eq_true]
  constructor
  · intro h y hy
    exact ⟨memI_iff.mp (h _ (List.mem_flatMap.mpr ⟨y, hy, List.mem_cons_self⟩)), memI_iff.mp (h _ (List.mem_flatMap.mpr ⟨y, hy, List.mem_cons_of_mem _ List.mem_cons_self⟩))⟩
  · intro h x hx
    obtain ⟨y, hy, q⟩ := List.mem_flatMap.mp hx
    rcases List.mem_cons.mp q with e | q
    · rw [e]; exact memI_iff.mpr (h y hy).1
    · rw [List.mem_singleton.mp q]; exact memI_iff.mpr (h y hy).2
theorem step_cl {F : List Int} (h : Cl b F) : stepF b F = F := by
  have e : (sortU (F.map (T0 b) ++ F.map (T1 b))).filter (fun x => !memI x F) = [] := List.filter_eq_nil_iff.mpr fun x hx q => by
    rw [Bool.not_eq_true', ← Bool.not_eq_true, memI_iff] at q
    rw [sortU_mem, List.mem_append, List.mem_map, List.mem_map] at hx
    rcases hx with ⟨y, hy, rfl⟩ | ⟨y, hy, rfl⟩
    · exact q (h y hy).1
    · exact q (h y hy).2
  unfold stepF
  rw [e, List.append_nil]
theorem step_grow {F : List Int} (h : ¬ Cl b F) : F.length + 1 ≤ (stepF b F).length := by
  have : (sortU (F.map (T0 b) ++ F.map (T1 b))).filter (fun x => !memI x F) ≠ [] := fun e => h fun y hy => by
    have q := List.filter_eq_nil_iff.mp e
    refine ⟨?_, ?_⟩
    · have z := q (T0 b y) (by rw [sortU_mem]; exact List.mem_append_left _ (List.mem_map.mpr ⟨y, hy, rfl⟩))
      rw [Bool.not_eq_true', ← Bool.not_eq_true, memI_iff] at z
      exact Classical.not_not.mp z
    · have z := q (T1 b y) (by rw [sortU_mem]; exact List.mem_append_right _ (List.mem_map.mpr ⟨y, hy, rfl⟩))
      rw [Bool.not_eq_true', ← Bool.not_eq_true, memI_iff] at z
      exact Classical.not_not.mp z
  have l := List.length_pos_iff.mpr this
  unfold stepF
  rw [List.length_append]
  omega
theorem it_grow (p : Int) : ∀ i, Cl b (itF b p i) ∨ i + 1 ≤ (itF b p i).length
  | 0 => .inr (Nat.le_refl _)
  | i + 1 => by
    rcases it_grow p i with h | h
    · left
      show Cl b (stepF b (itF b p i))
      rw [step_cl h]
      exact h
    · by_cases c : Cl b (itF b p i)
      · left
        show Cl b (stepF b (itF b p i))
        rw [step_cl c]
        exact c
      · right
        have := step_grow c
        show i + 1 + 1 ≤ (stepF b (itF b p i)).length
        omega
theorem it_cl (B : BoxOk b) {p : Int} (hp : 0 ≤ p ∧ p < (b.length : Int)) : Cl b (itF b p b.length) := by
  rcases it_grow p b.length with h | h
  · exact h
  · have := (it_good B hp b.length).len
    omega
theorem it_has (p : Int) : ∀ i, p ∈ itF b p i
  | 0 => List.mem_cons_self
  | i + 1 => step_mem.mpr (.inl (it_has p i))
theorem it_sub {S : List Int} (h : Cl b S) {p : Int} (hp : p ∈ S) : ∀ i, ∀ x ∈ itF b p i, x ∈ S
  | 0, x, hx => by rw [List.mem_singleton.mp hx]; exact hp
  | i + 1, x, hx => by
    rcases step_mem.mp hx with q | ⟨y, q, rfl⟩ | ⟨y, q, rfl⟩
    · exact it_sub h hp i x q
    · exact (h y (it_sub h hp i y q)).1
    · exact (h y (it_sub h hp i y q)).2
theorem reach_mem {p x : Int} : x ∈ reachL b p ↔ x ∈ itF b p b.length := sortU_mem x _
/-- every row of states in order is among the sets -/
theorem sets_pick : ∀ n : Nat, n ≤ 5 → 1 ≤ n → ∀ p0 p1 p2 p3 p4 : Bool, ((([(0, p0), (1, p1), (2, p2), (3, p3), (4, p4)].take n).filter fun q => q.2).map fun q => q.1) = ([] : List Int) ∨ ((([(0, p0), (1, p1), (2, p2), (3, p3), (4, p4)].take n).filter fun q => q.2).map fun q => q.1) ∈ setsN n := by decide +kernel
theorem pick_mem {n : Nat} (h5 : n ≤ 5) {f : Int → Bool} {x : Int} : x ∈ ((([((0 : Int), f 0), (1, f 1), (2, f 2), (3, f 3), (4, f 4)].take n).filter fun q => q.2).map fun q => q.1) ↔ (0 ≤ x ∧ x < (n : Int)) ∧ f x = true := by
  have e : [((0 : Int), f 0), (1, f 1), (2, f 2), (3, f 3), (4, f 4)].take n = (([0, 1, 2, 3, 4] : List Int).take n).map fun k => (k, f k) := by rw [List.map_take]; rfl
  have r : ∀ n : Nat, n ≤ 5 → ∀ x : Int, x ∈ ([0, 1, 2, 3, 4] : List Int).take n ↔ 0 ≤ x ∧ x < (n : Int) := by
    intro n h x
    match n, h with
    | 0, _ => simp <;> omega
    | 1, _ => simp <;> omega
    | 2, _ => simp <;> omega
    | 3, _ => simp <;> omega
    | 4, _ => simp <;> omega
    | 5, _ => simp <;> omega
    | _ + 6, h => omega
  rw [e, List.mem_map]
  constructor
  · rintro ⟨⟨a, c⟩, h, rfl⟩
    obtain ⟨h1, h2⟩ := List.mem_filter.mp h
    obtain ⟨k, hk, q⟩ := List.mem_map.mp h1
    cases q
    exact ⟨(r n h5 _).mp hk, h2⟩
  · rintro ⟨h1, h2⟩
    exact ⟨(x, f x), List.mem_filter.mpr ⟨List.mem_map.mpr ⟨x, (r n h5 x).mpr h1, rfl⟩, h2⟩, rfl⟩
theorem pick_pair (n : Nat) (f : Int → Bool) : ((([((0 : Int), f 0), (1, f 1), (2, f 2), (3, f 3), (4, f 4)].take n).filter fun q => q.2).map fun q => q.1).Pairwise (· < ·) := by
  have h0 : ([((0 : Int), f 0), (1, f 1), (2, f 2), (3, f 3), (4, f 4)]).Pairwise fun a c => a.1 < c.1 := by
    have q : ([0, 1, 2, 3, 4] : List Int).Pairwise (· < ·) := by decide
    have := List.pairwise_map (f := fun q : Int × Bool => q.1) (R := (· < ·)) (l := [((0 : Int), f 0), (1, f 1), (2, f 2), (3, f 3), (4, f 4)])
    exact this.mp q
  exact List.pairwise_map.mpr ((h0.sublist (List.take_sublist _ _)).sublist List.filter_sublist)
theorem sets_all (B : BoxOk b) {L : List Int} (h1 : L.Pairwise (· < ·)) (h2 : InB b L) (h3 : L ≠ []) : L ∈ setsN b.length := by
  have e : L = ((([((0 : Int), memI 0 L), (1, memI 1 L), (2, memI 2 L), (3, memI 3 L), (4, memI 4 L)].take b.length).filter fun q => q.2).map fun q => q.1) := pair_one h1 (pick_pair b.length fun x => memI x L) fun k => by
    rw [pick_mem (f := fun x => memI x L) B.five, memI_iff]
    exact ⟨fun h => ⟨h2 k h, h⟩, fun h => h.2⟩
  rcases sets_pick b.length B.five B.one (memI 0 L) (memI 1 L) (memI 2 L) (memI 3 L) (memI 4 L) with q | q
  · exact absurd (e.trans q) h3
  · rw [← e] at q
    exact q
theorem reach_stay (B : BoxOk b) {p : Int} (hp : 0 ≤ p ∧ p < (b.length : Int)) : reachL b p ∈ stayL b := by
  refine List.mem_filter.mpr ⟨sets_all B (sortU_pair _) (fun x hx => (it_good B hp b.length).2 x (reach_mem.mp hx)) (fun e => ?_), stay_iff.mpr fun y hy => ?_⟩
  · have := reach_mem.mpr (it_has (b := b) p b.length)
    rw [e] at this
    cases this
  · have := it_cl B hp y (reach_mem.mp hy)
    exact ⟨reach_mem.mpr this.1, reach_mem.mpr this.2⟩
theorem stay_pair (B : BoxOk b) {S : List Int} (h : S ∈ stayL b) : S.Pairwise (· < ·) ∧ S ≠ [] := sets_pair b.length B.five S (stay_mem h).1
theorem reach_sub {S : List Int} (h : S ∈ stayL b) {p x : Int} (hp : p ∈ S) (hx : x ∈ reachL b p) : x ∈ S := it_sub (stay_iff.mp (stay_mem h).2) hp _ x (reach_mem.mp hx)
def lawGood (b : List Row) (S : List Int) : Bool := (S.map fun p => reachL b p == S).all id
theorem lawGood_iff {S : List Int} : lawGood b S = true ↔ ∀ p ∈ S, reachL b p = S := by
  unfold lawGood
  rw [List.all_map, List.all_eq_true]
  exact ⟨fun h p hp => beq_iff_eq.mp (h p hp), fun h p hp => beq_iff_eq.mpr (h p hp)⟩
theorem goodB_iff {S : List Int} : goodB b S = true ↔ ∀ o ∈ stayL b, (∀ x ∈ o, x ∈ S) → o = S := by
  unfold goodB
  rw [Bool.not_eq_true', ← Bool.not_eq_true, List.any_map, List.any_eq_true]
  constructor
  · intro h o ho hs
    refine Classical.byContradiction fun ne => h ⟨o, ho, ?_⟩
    show (!(o == S) && (o.map fun s => memI s S).all id) = true
    rw [Bool.and_eq_true, Bool.not_eq_true', List.all_map, List.all_eq_true]
    exact ⟨beq_eq_false_iff_ne.mpr ne, fun x hx => memI_iff.mpr (hs x hx)⟩
  · rintro h ⟨o, ho, q⟩
    have q : (!(o == S) && (o.map fun s => memI s S).all id) = true := q
    rw [Bool.and_eq_true, Bool.not_eq_true', List.all_map, List.all_eq_true] at q
    exact beq_eq_false_iff_ne.mp q.1 (h o ho fun x hx => memI_iff.mp (q.2 x hx))
theorem good_law (B : BoxOk b) {S : List Int} (h : S ∈ stayL b) : goodB b S = lawGood b S := by
  rw [Bool.eq_iff_iff, goodB_iff, lawGood_iff]
  have hin := sets_inB B (stay_mem h).1
  constructor
  · intro g p hp
    exact g _ (reach_stay B (hin p hp)) fun x hx => reach_sub h hp hx
  · intro g o ho hs
    obtain ⟨h1, h2⟩ := stay_pair B ho
    obtain ⟨q, hq⟩ : ∃ q, q ∈ o := by
      cases o with
      | nil => exact absurd rfl h2
      | cons q r => exact ⟨q, List.mem_cons_self⟩
    refine pair_one h1 (stay_pair B h).1 fun k => ⟨hs k, fun hk => ?_⟩
    rw [← g q (hs q hq)] at hk
    exact reach_sub ho hq hk
/-- each staying set holds a closed one -/
theorem has_closed (B : BoxOk b) : ∀ (m : Nat) (S : List Int), S.length ≤ m → S ∈ stayL b → ∃ o ∈ (stayL b).filter (lawGood b), ∀ x ∈ o, x ∈ S
  | 0, S, hl, h => absurd (List.length_eq_zero_iff.mp (Nat.le_zero.mp hl)) (stay_pair B h).2
  | m + 1, S, hl, h => by
    cases c : lawGood b S with
    | true => exact ⟨S, List.mem_filter.mpr ⟨h, c⟩, fun _ q => q⟩
    | false =>
      have hin := sets_inB B (stay_mem h).1
      have : ¬ ∀ p ∈ S, reachL b p = S := fun q => by rw [lawGood_iff.mpr q] at c; cases c
      obtain ⟨p, hp, ne⟩ : ∃ p, p ∈ S ∧ reachL b p ≠ S := Classical.byContradiction fun z => this fun p hp => Classical.byContradiction fun w => z ⟨p, hp, w⟩
      have hr := reach_stay B (hin p hp)
      obtain ⟨y, hy, hny⟩ : ∃ y, y ∈ S ∧ y ∉ reachL b p := Classical.byContradiction fun z => ne (pair_one (sortU_pair _) (stay_pair B h).1 fun k => ⟨fun q => reach_sub h hp q, fun q => Classical.byContradiction fun w => z ⟨k, q, w⟩⟩)
      have nd : (y :: reachL b p).Nodup := List.nodup_cons.mpr ⟨hny, (sortU_pair _).imp fun {a c} q => (by omega : a ≠ c)⟩
      have le := nodup_len nd (m := S) fun x hx => by
        rcases List.mem_cons.mp hx with e | e
        · rw [e]; exact hy
        · exact reach_sub h hp e
      rw [List.length_cons] at le
      obtain ⟨o, ho, hs⟩ := has_closed B m (reachL b p) (by omega) hr
      exact ⟨o, ho, fun x hx => reach_sub h hp (hs x hx)⟩
end
end Lw

/-! T54d: the law answers True. -/
namespace Lw
open PySem PySem.Spec L2 DL

section
variable {b : List Row} {ds : DS}
theorem stay_test (S : List Int) : ((S.map fun p => memI (T0 b p) S && memI (T1 b p) S).all id) = stayB b S := by
  rw [Bool.eq_iff_iff, stay_iff, List.all_map, List.all_eq_true]
  constructor
  · intro h y hy
    have q : (memI (T0 b y) S && memI (T1 b y) S) = true := h y hy
    rw [Bool.and_eq_true, memI_iff, memI_iff] at q
    exact q
  · intro h y hy
    show (memI (T0 b y) S && memI (T1 b y) S) = true
    rw [Bool.and_eq_true, memI_iff, memI_iff]
    exact h y hy
theorem cost_row (B : BoxOk b) {S : List Int} (h : S ∈ setsN b.length) : cost (eR S) ≤ 24 ∧ (eR S).depth ≤ 1 := by
  have hin := sets_inB B h
  have hl := (sets_len b.length B.five).2 S h
  have b5 := B.five
  have hc : ∀ x ∈ S.map PyData.int, cost x ≤ 2 := fun x hx => by
    obtain ⟨s, hs, rfl⟩ := List.mem_map.mp hx
    have := hin s hs
    show (if 0 ≤ s ∧ s < 100 then 2 else 100000000) ≤ 2
    rw [if_pos (by omega)]
    decide
  have hd : ∀ x ∈ S.map PyData.int, x.depth ≤ 0 := fun x hx => by
    obtain ⟨s, hs, rfl⟩ := List.mem_map.mp hx
    exact Nat.le_refl _
  have q := costs_le _ hc
  rw [List.length_map] at q
  have d := depthAll_le _ hd
  refine ⟨?_, ?_⟩
  · show costs (S.map .int) + 4 ≤ 24
    omega
  · unfold eR
    rw [depth_tuple]
    omega
theorem rep_ok (B : BoxOk b) {L : List (List Int)} (h : ∀ S ∈ L, S ∈ setsN b.length) (hl : L.length ≤ 31) : ∃ s, fRepr (.tuple (L.map eR)) = some (.str s) ∧ fNe (.str s) (.str s) = some (.bool false) := by
  have hc : ∀ x ∈ L.map eR, cost x ≤ 24 := fun x hx => by
    obtain ⟨S, hS, rfl⟩ := List.mem_map.mp hx
    exact (cost_row B (h S hS)).1
  have hd : ∀ x ∈ L.map eR, x.depth ≤ 1 := fun x hx => by
    obtain ⟨S, hS, rfl⟩ := List.mem_map.mp hx
    exact (cost_row B (h S hS)).2
  have q := costs_le _ hc
  rw [List.length_map] at q
  have d := depthAll_le _ hd
  obtain ⟨r1, r2⟩ := fRepr_ok (d := .tuple (L.map eR)) rfl (by show costs (L.map eR) + 4 ≤ _; omega) (by rw [depth_tuple]; omega)
  refine ⟨_, r1, ?_⟩
  rw [fNe_sh r2 r2, eqv_str]
  rfl
set_option maxHeartbeats 4000000 in
/-- one turn of the law -/
theorem turn_ok {ns : List Int} {turn x3 x4 x5 x6 : Sl} (h : DI ds) (f3 : frS x3) (f4 : frS x4) (f5 : frS x5) (f6 : frS x6) : ∃ (y3 y4 y5 y6 : PyData) (ds' : DS), (mSeq (mSet 3 (mCall (chk 2 f__law_box) (axV 1 (axD (mC (.int 5)) axNil))))
  (mSeq (mSet 4 (mCall (chk 1 f__law_sets) (axD (mUn fLen (mV 3)) axNil)))
  (mSeq (mSet 5 (mF (mComp [7] (mItems (mV 4)) (tName 7) (mTst (mUn fAll (mF (mComp [8] (mItems (mV 7)) (tName 8) mYes (mAndV (mOp fIn (mOp fIx (mOp fIx (mOp fIx (mV 3) (mV 8)) (mC (.int 0))) (mC (.int 0))) (mV 7)) (mOp fIn (mOp fIx (mOp fIx (mOp fIx (mV 3) (mV 8)) (mC (.int 1))) (mC (.int 0))) (mV 7))))))) (mV 7))))
  (mSeq (mSet 6 (mF (mComp [7] (mItems (mV 5)) (tName 7) (mTst (mUn fAll (mF (mComp [8] (mItems (mV 7)) (tName 8) mYes (mOp fEq (mCall (chk 2 f__law_reached) (axD (mV 3) (axD (mV 8) axNil))) (mF (mUnF fList (mV 7)))))))) (mV 7))))
  (mSeq (mIfS (mOr (mTst (mOp fNe (mUn fRepr (mCall (chk 1 f_staying) (axD (mV 3) axNil))) (mUn fRepr (mUn fTuple (mV 5))))) (mTst (mOp fNe (mUn fRepr (mCall (chk 1 f_closed_sets) (axD (mV 3) axNil))) (mUn fRepr (mUn fTuple (mV 6)))))) (mRet (mC (.bool false))) mSkip)
  (mIfS (mNot (mTst (mUn fAll (mF (mComp [7] (mItems (mV 5)) (tName 7) mYes (mUn fAny (mF (mComp [9] (mItems (mV 6)) (tName 9) mYes (mUn fAll (mF (mComp [8] (mItems (mV 9)) (tName 8) mYes (mOp fIn (mV 8) (mV 7))))))))))))) (mRet (mC (.bool false))) mSkip)))))) [.scr ns, .drw, turn, x3, x4, x5, x6, .un, .un, .un, .un] ds = some (.nx [.scr ns, .drw, turn, .d y3, .d y4, .d y5, .d y6, .un, .un, .un, .un], ds') ∧ DI ds' := by
  obtain ⟨b, ds', b1, b2, b3, b4, b5⟩ := box_ok h (most := 5) (by decide)
  have B : BoxOk b := ⟨b3, by omega, b5⟩
  have hsl := sets_len b.length B.five
  have stl := stay_len B
  have stm : ∀ S ∈ stayL b, S ∈ setsN b.length := fun S hS => (stay_mem hS).1
  refine ⟨eBox b, .list ((setsN b.length).map eR), .list ((stayL b).map eR), .list (((stayL b).filter (lawGood b)).map eR), ds', ?_, b2⟩
  have cs : (mComp [7] (mItems (mV 4)) (tName 7) (mTst (mUn fAll (mF (mComp [8] (mItems (mV 7)) (tName 8) mYes (mAndV (mOp fIn (mOp fIx (mOp fIx (mOp fIx (mV 3) (mV 8)) (mC (.int 0))) (mC (.int 0))) (mV 7)) (mOp fIn (mOp fIx (mOp fIx (mOp fIx (mV 3) (mV 8)) (mC (.int 1))) (mC (.int 0))) (mV 7))))))) (mV 7)) [.scr ns, .drw, turn, .d (eBox b), .d (.list ((setsN b.length).map eR)), x5, x6, .un, .un, .un, .un] ds' = some (.ok (((setsN b.length).filter (stayB b)).map eR), ds') :=
    comp_ev (env1 := [.scr ns, .drw, turn, .d (eBox b), .d (.list ((setsN b.length).map eR)), x5, x6, .un, .un, .un, .un]) (e := eR) (stayB b) eR rfl rfl (fun S hS => ⟨[.scr ns, .drw, turn, .d (eBox b), .d (.list ((setsN b.length).map eR)), x5, x6, .d (eR S), .un, .un, .un], rfl, by
      have hin := sets_inB B hS
      have sl5 := hsl.2 S hS
      have c : (mComp [8] (mItems (mV 7)) (tName 8) mYes (mAndV (mOp fIn (mOp fIx (mOp fIx (mOp fIx (mV 3) (mV 8)) (mC (.int 0))) (mC (.int 0))) (mV 7)) (mOp fIn (mOp fIx (mOp fIx (mOp fIx (mV 3) (mV 8)) (mC (.int 1))) (mC (.int 0))) (mV 7)))) [.scr ns, .drw, turn, .d (eBox b), .d (.list ((setsN b.length).map eR)), x5, x6, .d (eR S), .un, .un, .un] ds' = some (.ok ((S.filter fun _ => true).map fun p => .bool (memI (T0 b p) S && memI (T1 b p) S)), ds') :=
        comp_ev (env1 := [.scr ns, .drw, turn, .d (eBox b), .d (.list ((setsN b.length).map eR)), x5, x6, .d (eR S), .un, .un, .un]) (e := .int) (fun _ => true) (fun p => .bool (memI (T0 b p) S && memI (T1 b p) S)) rfl rfl (fun p hp => ⟨[.scr ns, .drw, turn, .d (eBox b), .d (.list ((setsN b.length).map eR)), x5, x6, .d (eR S), .d (.int p), .un, .un], rfl, rfl, fun _ =>
          gAndV (gOp ((tgt_ok rfl rfl (hin p hp)).1 rfl) rfl (fIn_int _ _)) (gOp ((tgt_ok rfl rfl (hin p hp)).2 rfl) rfl (fIn_int _ _))⟩) (by omega)
      rw [filter_yes, show (S.map fun p => PyData.bool (memI (T0 b p) S && memI (T1 b p) S)) = (S.map fun p => memI (T0 b p) S && memI (T1 b p) S).map .bool by rw [List.map_map]; rfl] at c
      rw [← stay_test]
      exact gTst (gUn (gF c) (fAll_map _)), fun _ => rfl⟩) (by omega)
  have cc : (mComp [7] (mItems (mV 5)) (tName 7) (mTst (mUn fAll (mF (mComp [8] (mItems (mV 7)) (tName 8) mYes (mOp fEq (mCall (chk 2 f__law_reached) (axD (mV 3) (axD (mV 8) axNil))) (mF (mUnF fList (mV 7)))))))) (mV 7)) [.scr ns, .drw, turn, .d (eBox b), .d (.list ((setsN b.length).map eR)), .d (.list ((stayL b).map eR)), x6, .un, .un, .un, .un] ds' = some (.ok (((stayL b).filter (lawGood b)).map eR), ds') :=
    comp_ev (env1 := [.scr ns, .drw, turn, .d (eBox b), .d (.list ((setsN b.length).map eR)), .d (.list ((stayL b).map eR)), x6, .un, .un, .un, .un]) (e := eR) (lawGood b) eR rfl rfl (fun S hS => ⟨[.scr ns, .drw, turn, .d (eBox b), .d (.list ((setsN b.length).map eR)), .d (.list ((stayL b).map eR)), x6, .d (eR S), .un, .un, .un], rfl, by
      have hin := sets_inB B (stm S hS)
      have sl5 := hsl.2 S (stm S hS)
      have c : (mComp [8] (mItems (mV 7)) (tName 8) mYes (mOp fEq (mCall (chk 2 f__law_reached) (axD (mV 3) (axD (mV 8) axNil))) (mF (mUnF fList (mV 7))))) [.scr ns, .drw, turn, .d (eBox b), .d (.list ((setsN b.length).map eR)), .d (.list ((stayL b).map eR)), x6, .d (eR S), .un, .un, .un] ds' = some (.ok ((S.filter fun _ => true).map fun p => .bool (reachL b p == S)), ds') :=
        comp_ev (env1 := [.scr ns, .drw, turn, .d (eBox b), .d (.list ((setsN b.length).map eR)), .d (.list ((stayL b).map eR)), x6, .d (eR S), .un, .un, .un]) (e := .int) (fun _ => true) (fun p => .bool (reachL b p == S)) rfl rfl (fun p hp => ⟨[.scr ns, .drw, turn, .d (eBox b), .d (.list ((setsN b.length).map eR)), .d (.list ((stayL b).map eR)), x6, .d (eR S), .d (.int p), .un, .un], rfl, rfl, fun _ =>
          gOp (gCall (args := [.d (eBox b), .d (.int p)]) (ds1 := ds') rfl rfl (reached_ok B (hin p hp))) (gF (gUnF rfl rfl)) (eq_lists _ _)⟩) (by omega)
      rw [filter_yes, show (S.map fun p => PyData.bool (reachL b p == S)) = (S.map fun p => reachL b p == S).map .bool by rw [List.map_map]; rfl] at c
      exact gTst (gUn (gF c) (fAll_map _)), fun _ => rfl⟩) (by omega)
  have hcl : ∀ S ∈ (stayL b).filter (lawGood b), S ∈ stayL b := fun S hS => (List.mem_filter.mp hS).1
  have fl := List.length_filter_le (lawGood b) (stayL b)
  have ef : (stayL b).filter (goodB b) = (stayL b).filter (lawGood b) := List.filter_congr fun S hS => good_law B hS
  obtain ⟨s1, p1, q1⟩ := rep_ok B stm stl
  obtain ⟨s2, p2, q2⟩ := rep_ok B (L := (stayL b).filter (lawGood b)) (fun S hS => stm S (hcl S hS)) (by omega)
  have i1 : (mIfS (mOr (mTst (mOp fNe (mUn fRepr (mCall (chk 1 f_staying) (axD (mV 3) axNil))) (mUn fRepr (mUn fTuple (mV 5))))) (mTst (mOp fNe (mUn fRepr (mCall (chk 1 f_closed_sets) (axD (mV 3) axNil))) (mUn fRepr (mUn fTuple (mV 6)))))) (mRet (mC (.bool false))) mSkip) [.scr ns, .drw, turn, .d (eBox b), .d (.list ((setsN b.length).map eR)), .d (.list ((stayL b).map eR)), .d (.list (((stayL b).filter (lawGood b)).map eR)), .un, .un, .un, .un] ds' = some (.nx [.scr ns, .drw, turn, .d (eBox b), .d (.list ((setsN b.length).map eR)), .d (.list ((stayL b).map eR)), .d (.list (((stayL b).filter (lawGood b)).map eR)), .un, .un, .un, .un], ds') := by
    refine Eq.trans (gIfF (gOr (k := false) (k' := false) (gTst (gOp (gUn (gCall (args := [.d (eBox b)]) (ds1 := ds') rfl rfl (staying_ok B)) p1) (gUn (gUn rfl rfl) p1) q1)) (gTst (gOp (gUn (gCall (args := [.d (eBox b)]) (ds1 := ds') rfl rfl (closed_ok B)) ?_) (gUn (gUn rfl rfl) p2) q2)))) rfl
    rw [ef]
    exact p2
  have i2 : (mIfS (mNot (mTst (mUn fAll (mF (mComp [7] (mItems (mV 5)) (tName 7) mYes (mUn fAny (mF (mComp [9] (mItems (mV 6)) (tName 9) mYes (mUn fAll (mF (mComp [8] (mItems (mV 9)) (tName 8) mYes (mOp fIn (mV 8) (mV 7))))))))))))) (mRet (mC (.bool false))) mSkip) [.scr ns, .drw, turn, .d (eBox b), .d (.list ((setsN b.length).map eR)), .d (.list ((stayL b).map eR)), .d (.list (((stayL b).filter (lawGood b)).map eR)), .un, .un, .un, .un] ds' = some (.nx [.scr ns, .drw, turn, .d (eBox b), .d (.list ((setsN b.length).map eR)), .d (.list ((stayL b).map eR)), .d (.list (((stayL b).filter (lawGood b)).map eR)), .un, .un, .un, .un], ds') := by
    have c : (mComp [7] (mItems (mV 5)) (tName 7) mYes (mUn fAny (mF (mComp [9] (mItems (mV 6)) (tName 9) mYes (mUn fAll (mF (mComp [8] (mItems (mV 9)) (tName 8) mYes (mOp fIn (mV 8) (mV 7))))))))) [.scr ns, .drw, turn, .d (eBox b), .d (.list ((setsN b.length).map eR)), .d (.list ((stayL b).map eR)), .d (.list (((stayL b).filter (lawGood b)).map eR)), .un, .un, .un, .un] ds' = some (.ok (((stayL b).filter fun _ => true).map fun S => .bool (((((stayL b).filter (lawGood b)).map fun o => (o.map fun s => memI s S).all id)).any id)), ds') :=
      comp_ev (env1 := [.scr ns, .drw, turn, .d (eBox b), .d (.list ((setsN b.length).map eR)), .d (.list ((stayL b).map eR)), .d (.list (((stayL b).filter (lawGood b)).map eR)), .un, .un, .un, .un]) (e := eR) (fun _ => true) (fun S => .bool (((((stayL b).filter (lawGood b)).map fun o => (o.map fun s => memI s S).all id)).any id)) rfl rfl (fun S hS => ⟨[.scr ns, .drw, turn, .d (eBox b), .d (.list ((setsN b.length).map eR)), .d (.list ((stayL b).map eR)), .d (.list (((stayL b).filter (lawGood b)).map eR)), .d (eR S), .un, .un, .un], rfl, rfl, fun _ => by
        have c : (mComp [9] (mItems (mV 6)) (tName 9) mYes (mUn fAll (mF (mComp [8] (mItems (mV 9)) (tName 8) mYes (mOp fIn (mV 8) (mV 7)))))) [.scr ns, .drw, turn, .d (eBox b), .d (.list ((setsN b.length).map eR)), .d (.list ((stayL b).map eR)), .d (.list (((stayL b).filter (lawGood b)).map eR)), .d (eR S), .un, .un, .un] ds' = some (.ok ((((stayL b).filter (lawGood b)).filter fun _ => true).map fun o => .bool ((o.map fun s => memI s S).all id)), ds') :=
          comp_ev (env1 := [.scr ns, .drw, turn, .d (eBox b), .d (.list ((setsN b.length).map eR)), .d (.list ((stayL b).map eR)), .d (.list (((stayL b).filter (lawGood b)).map eR)), .d (eR S), .un, .un, .un]) (e := eR) (fun _ => true) (fun o => .bool ((o.map fun s => memI s S).all id)) rfl rfl (fun o ho => ⟨[.scr ns, .drw, turn, .d (eBox b), .d (.list ((setsN b.length).map eR)), .d (.list ((stayL b).map eR)), .d (.list (((stayL b).filter (lawGood b)).map eR)), .d (eR S), .un, .d (eR o), .un], rfl, rfl, fun _ =>
            sub_ok (env1 := [.scr ns, .drw, turn, .d (eBox b), .d (.list ((setsN b.length).map eR)), .d (.list ((stayL b).map eR)), .d (.list (((stayL b).filter (lawGood b)).map eR)), .d (eR S), .un, .d (eR o), .un]) rfl rfl (Nat.le_trans (hsl.2 o (stm o (hcl o ho))) (by decide)) fun x => ⟨_, rfl, rfl, rfl⟩⟩) (by omega)
        rw [filter_yes, show (((stayL b).filter (lawGood b)).map fun o => PyData.bool ((o.map fun s => memI s S).all id)) = (((stayL b).filter (lawGood b)).map fun o => (o.map fun s => memI s S).all id).map .bool by rw [List.map_map]; rfl] at c
        exact gUn (gF c) (fAny_map _)⟩) (by omega)
    rw [filter_yes, show ((stayL b).map fun S => PyData.bool (((((stayL b).filter (lawGood b)).map fun o => (o.map fun s => memI s S).all id)).any id)) = ((stayL b).map fun S => ((((stayL b).filter (lawGood b)).map fun o => (o.map fun s => memI s S).all id)).any id).map .bool by rw [List.map_map]; rfl] at c
    have yes : ((stayL b).map fun S => ((((stayL b).filter (lawGood b)).map fun o => (o.map fun s => memI s S).all id)).any id).all id = true := by
      rw [List.all_map, List.all_eq_true]
      intro S hS
      show ((((stayL b).filter (lawGood b)).map fun o => (o.map fun s => memI s S).all id)).any id = true
      rw [List.any_map, List.any_eq_true]
      obtain ⟨o, ho, hs⟩ := has_closed B S.length S (Nat.le_refl _) hS
      refine ⟨o, ho, ?_⟩
      show (o.map fun s => memI s S).all id = true
      rw [List.all_map, List.all_eq_true]
      exact fun x hx => memI_iff.mpr (hs x hx)
    have t := gTst (gUn (gF c) (fAll_map _))
    rw [yes] at t
    exact Eq.trans (gIfF (gNot (k := true) t)) rfl
  exact gSeq (gSet (gCall (args := [.drw, .d (.int 5)]) (ds1 := ds) rfl rfl b1) (put_fr rfl f3)) (gSeq (gSet (gCall (args := [.d (.int b.length)]) (ds1 := ds') (gAx (gUn (x := eBox b) rfl len_box) rfl) rfl (law_sets_ok b.length B.one B.five)) (put_fr rfl f4)) (gSeq (gSet (gF cs) (put_fr rfl f5)) (gSeq (gSet (gF cc) (put_fr rfl f6)) (gSeq i1 i2))))
end
/-! ### the answers to odd boxes -/
theorem gDropEx {a : ME PyData} {env : Ev} {ds ds1 : DS} {e : Exn} (h : a env ds = some (.exc e, ds1)) : mDrop a env ds = some (.ex e env, ds1) := by rw [mDrop_ev, h]
theorem gRetEx {a : ME PyData} {env : Ev} {ds ds1 : DS} {e : Exn} (h : a env ds = some (.exc e, ds1)) : mRet a env ds = some (.ex e env, ds1) := by rw [mRet_ev, h]
theorem two_told : fEq (.list [.str "<malformed>", .str "<malformed>"]) (.list [.str "<malformed>", .str "<malformed>"]) = some (.bool true) := by
  rw [fEq_sh (by decide +kernel) (by decide +kernel), show PyData.eqv (.list [.str "<malformed>", .str "<malformed>"]) (.list [.str "<malformed>", .str "<malformed>"]) = true by decide +kernel]
theorem told_ok {d : PyData} {w : Int} {ds : DS} (h : ∀ ds : DS, f_check_box [.d d] ds = some (.exc .malformed, ds)) : f__law_told [.d (.int w), .d d] ds = some (.ok (.str "<malformed>"), ds) := by
  have s1 : f_staying [.d d] ds = some (.exc .malformed, ds) := gRunEx (env' := [.d d]) (by
    refine mSeq_ex (env' := [.d d]) ?_
    exact gDropEx (gCall (args := [.d d]) (ds1 := ds) rfl rfl (h ds)))
  have s2 : f_closed_sets [.d d] ds = some (.exc .malformed, ds) := gRunEx (env' := [.d d, .un, .un, .un, .un, .un]) (by
    refine mSeq_ex (env' := [.d d, .un, .un, .un, .un, .un]) ?_
    exact gDropEx (gCall (args := [.d d]) (ds1 := ds) rfl rfl (h ds)))
  refine gRunRt (x := .str "<malformed>") (ds1 := ds) ?_
  show m__law_told [.d (.int w), .d d] ds = _
  unfold m__law_told mTry
  rw [show mRet (mIf (mTst (mOp fEq (mV 0) (mC (.int 0)))) (mCall (chk 1 f_staying) (axD (mV 1) axNil)) (mCall (chk 1 f_closed_sets) (axD (mV 1) axNil))) [.d (.int w), .d d] ds = some (.ex .malformed [.d (.int w), .d d], ds) by
    refine gRetEx ?_
    rw [gIf (k := w == 0) (ds1 := ds) (gTst (gOp rfl rfl (fEq_int _ _)))]
    cases w == 0 with
    | true => exact gCall (args := [.d d]) (ds1 := ds) rfl rfl s1
    | false => exact gCall (args := [.d d]) (ds1 := ds) rfl rfl s2]
  rfl
theorem ans : ∀ ns : List Int, ns.length ≤ 63 → runB 11 1 false m_law [.scr ns] none = some (.ok (.bool true), none) := by
  intro ns hn
  obtain ⟨cs, seed, d1⟩ := draw_ok ns hn
  obtain ⟨env', ds', l1, l2⟩ := for_inv (t := tName 2) (body := (mSeq (mSet 3 (mCall (chk 2 f__law_box) (axV 1 (axD (mC (.int 5)) axNil))))
  (mSeq (mSet 4 (mCall (chk 1 f__law_sets) (axD (mUn fLen (mV 3)) axNil)))
  (mSeq (mSet 5 (mF (mComp [7] (mItems (mV 4)) (tName 7) (mTst (mUn fAll (mF (mComp [8] (mItems (mV 7)) (tName 8) mYes (mAndV (mOp fIn (mOp fIx (mOp fIx (mOp fIx (mV 3) (mV 8)) (mC (.int 0))) (mC (.int 0))) (mV 7)) (mOp fIn (mOp fIx (mOp fIx (mOp fIx (mV 3) (mV 8)) (mC (.int 1))) (mC (.int 0))) (mV 7))))))) (mV 7))))
  (mSeq (mSet 6 (mF (mComp [7] (mItems (mV 5)) (tName 7) (mTst (mUn fAll (mF (mComp [8] (mItems (mV 7)) (tName 8) mYes (mOp fEq (mCall (chk 2 f__law_reached) (axD (mV 3) (axD (mV 8) axNil))) (mF (mUnF fList (mV 7)))))))) (mV 7))))
  (mSeq (mIfS (mOr (mTst (mOp fNe (mUn fRepr (mCall (chk 1 f_staying) (axD (mV 3) axNil))) (mUn fRepr (mUn fTuple (mV 5))))) (mTst (mOp fNe (mUn fRepr (mCall (chk 1 f_closed_sets) (axD (mV 3) axNil))) (mUn fRepr (mUn fTuple (mV 6)))))) (mRet (mC (.bool false))) mSkip)
  (mIfS (mNot (mTst (mUn fAll (mF (mComp [7] (mItems (mV 5)) (tName 7) mYes (mUn fAny (mF (mComp [9] (mItems (mV 6)) (tName 9) mYes (mUn fAll (mF (mComp [8] (mItems (mV 9)) (tName 8) mYes (mOp fIn (mV 8) (mV 7))))))))))))) (mRet (mC (.bool false))) mSkip)))))))
    (I := fun _ env ds => DI ds ∧ ∃ x2 x3 x4 x5 x6, frS x2 ∧ frS x3 ∧ frS x4 ∧ frS x5 ∧ frS x6 ∧ env = [.scr ns, .drw, x2, x3, x4, x5, x6, .un, .un, .un, .un]) (rangeD 0 6) 0 [.scr ns, .drw, .un, .un, .un, .un, .un, .un, .un, .un, .un] (some ⟨cs, -1, 0, seed⟩) (fun i x env ds _ ⟨hd, x2, x3, x4, x5, x6, h2, h3, h4, h5, h6, e⟩ => by
      subst e
      obtain ⟨y3, y4, y5, y6, ds2, t1, t2⟩ := turn_ok (ns := ns) (turn := .d x) hd h3 h4 h5 h6
      exact ⟨_, _, ds2, put_fr rfl h2, t1, t2, _, _, _, _, _, .inr ⟨_, rfl⟩, .inr ⟨_, rfl⟩, .inr ⟨_, rfl⟩, .inr ⟨_, rfl⟩, .inr ⟨_, rfl⟩, rfl⟩) ⟨(by show (-1 : Int) ≤ -1; decide), .un, .un, .un, .un, .un, .inl rfl, .inl rfl, .inl rfl, .inl rfl, .inl rfl, rfl⟩
  obtain ⟨hd, x2, x3, x4, x5, x6, h2, h3, h4, h5, h6, rfl⟩ := l2
  obtain ⟨ys, ds2, c1, c2, c3⟩ := comp_draw (env := [.scr ns, .drw, x2, x3, x4, x5, x6, .un, .un, .un, .un]) (vs := [10]) (mi := mItems (mTup (mCons (mC (.int 0)) (mCons (mC (.int 1)) mNil)))) (t := tName 10) (I := DI)
    (elt := mCall (chk 2 f__law_told) (axD (mV 10) (axD (mCall (chk 1 f__law_odd_box) (axV 1 axNil)) axNil))) (P := fun _ y => y = .str "<malformed>") (items := [.int 0, .int 1]) (ds := ds') (env1 := [.scr ns, .drw, x2, x3, x4, x5, x6, .un, .un, .un, .un]) rfl rfl (fun z hz => by
      obtain ⟨w, rfl⟩ : ∃ w : Int, z = .int w := by
        rcases List.mem_cons.mp hz with e | e
        · exact ⟨_, e⟩
        · exact ⟨_, List.mem_singleton.mp e⟩
      refine ⟨[.scr ns, .drw, x2, x3, x4, x5, x6, .un, .un, .un, .d (.int w)], rfl, fun ds hd => ?_⟩
      obtain ⟨d, ds2, o1, o2, o3⟩ := odd_ok hd
      exact ⟨_, ds2, gCall (args := [.d (.int w), .d d]) (ds1 := ds2) (gAx rfl (gAx (gCall (args := [.drw]) (ds1 := ds) rfl rfl o1) rfl)) rfl (told_ok o3), o2, rfl⟩) hd (by decide)
  cases c3 with
  | cons k1 c3 =>
    cases c3 with
    | cons k2 c3 =>
      cases c3
      subst k1 k2
      have fin : (mRet (mOp fEq (mF (mComp [10] (mItems (mTup (mCons (mC (.int 0)) (mCons (mC (.int 1)) mNil)))) (tName 10) mYes (mCall (chk 2 f__law_told) (axD (mV 10) (axD (mCall (chk 1 f__law_odd_box) (axV 1 axNil)) axNil))))) (mOp fMul (mF (mLst (mCons (mC (.str "<malformed>")) mNil))) (mC (.int 2))))) [.scr ns, .drw, x2, x3, x4, x5, x6, .un, .un, .un, .un] ds' = some (.rt (.bool true), ds2) := gRet (gOp (gF c1) rfl two_told)
      refine gRunRt ?_
      show m_law [.scr ns, .un, .un, .un, .un, .un, .un, .un, .un, .un, .un] none = _
      unfold m_law mDraw
      rw [show mCallF (chk 1 f__law_draw) (axV 0 axNil) [.scr ns, .un, .un, .un, .un, .un, .un, .un, .un, .un, .un] none = some (.ok [.list (cs.map .int), .int (-1), .int 0, .int seed], none) by
        rw [mCallF_ev]
        show Rz.bind (f__law_draw [.scr ns] none) _ = _
        rw [d1]
        rfl]
      dsimp only
      rw [show mkDraw [.list (cs.map .int), .int (-1), .int 0, .int seed] = some ⟨cs, -1, 0, seed⟩ by
        unfold mkDraw
        dsimp only
        rw [intsOf_map]
        rfl]
      dsimp only
      rw [show put 1 .drw [.scr ns, .un, .un, .un, .un, .un, .un, .un, .un, .un, .un] = some [.scr ns, .drw, .un, .un, .un, .un, .un, .un, .un, .un, .un] from rfl]
      dsimp only
      rw [gSeq (gFor (ds1 := some ⟨cs, -1, 0, seed⟩) (xs := rangeD 0 6) rfl l1) fin]
end Lw

/-! Wk54: the walk. -/
namespace Lw
open PySem PySem.Spec L2 DL
open PyProof.Rows hiding St

def topS (i : Nat) : Stmt := PySem.Challenge.pw_boxkinds_k54_whole_sets_that_stay.main.body.getD i (.Pass ⟨0, 0, 0, 0⟩)
abbrev s__law_draw : Stmt := topS 18
theorem sc__law_draw : FnScope ["script", "seed", "cell"] ["script"] (defScope s__law_draw) := ⟨rfl, rfl, rfl, by decide +kernel, rfl, by decide +kernel, by decide +kernel⟩
abbrev s__law_take : Stmt := topS 19
theorem sc__law_take : FnScope ["draw", "many", "found"] ["draw", "many"] (defScope s__law_take) := ⟨rfl, rfl, rfl, by decide +kernel, rfl, by decide +kernel, by decide +kernel⟩
abbrev s__law_order : Stmt := topS 21
theorem sc__law_order : FnScope ["draw", "many", "left", "found"] ["draw", "many"] (defScope s__law_order) := ⟨rfl, rfl, rfl, by decide +kernel, rfl, by decide +kernel, by decide +kernel⟩
abbrev s__law_box : Stmt := topS 20
theorem sc__law_box : FnScope ["draw", "most", "many", "kind", "found", "state", "moves", "one", "two", "sign", "to", "output", "k"] ["draw", "most"] (defScope s__law_box) := ⟨rfl, rfl, rfl, by decide +kernel, rfl, by decide +kernel, by decide +kernel⟩
abbrev s__law_sets : Stmt := topS 23
theorem sc__law_sets : FnScope ["many", "found", "state", "row"] ["many"] (defScope s__law_sets) := ⟨rfl, rfl, rfl, by decide +kernel, rfl, by decide +kernel, by decide +kernel⟩
abbrev s_is_whole : Stmt := topS 4
theorem sc_is_whole : FnScope ["value"] ["value"] (defScope s_is_whole) := ⟨rfl, rfl, rfl, by decide +kernel, rfl, by decide +kernel, by decide +kernel⟩
abbrev s_is_move : Stmt := topS 8
theorem sc_is_move : FnScope ["value", "many", "item"] ["value", "many"] (defScope s_is_move) := ⟨rfl, rfl, rfl, by decide +kernel, rfl, by decide +kernel, by decide +kernel⟩
abbrev s_is_box : Stmt := topS 9
theorem sc_is_box : FnScope ["value", "moves", "move"] ["value"] (defScope s_is_box) := ⟨rfl, rfl, rfl, by decide +kernel, rfl, by decide +kernel, by decide +kernel⟩
abbrev s_check_box : Stmt := topS 10
theorem sc_check_box : FnScope ["value"] ["value"] (defScope s_check_box) := ⟨rfl, rfl, rfl, by decide +kernel, rfl, by decide +kernel, by decide +kernel⟩
abbrev s_sets_of : Stmt := topS 12
theorem sc_sets_of : FnScope ["many", "found", "state", "row"] ["many"] (defScope s_sets_of) := ⟨rfl, rfl, rfl, by decide +kernel, rfl, by decide +kernel, by decide +kernel⟩
abbrev s_does_stay : Stmt := topS 13
theorem sc_does_stay : FnScope ["box", "states", "state", "sign"] ["box", "states"] (defScope s_does_stay) := ⟨rfl, rfl, rfl, by decide +kernel, rfl, by decide +kernel, by decide +kernel⟩
abbrev s_found_staying : Stmt := topS 14
theorem sc_found_staying : FnScope ["box", "states"] ["box"] (defScope s_found_staying) := ⟨rfl, rfl, rfl, by decide +kernel, rfl, by decide +kernel, by decide +kernel⟩
abbrev s_staying : Stmt := topS 15
theorem sc_staying : FnScope ["box"] ["box"] (defScope s_staying) := ⟨rfl, rfl, rfl, by decide +kernel, rfl, by decide +kernel, by decide +kernel⟩
abbrev s_closed_sets : Stmt := topS 16
theorem sc_closed_sets : FnScope ["box", "found", "good", "states", "other", "state"] ["box"] (defScope s_closed_sets) := ⟨rfl, rfl, rfl, by decide +kernel, rfl, by decide +kernel, by decide +kernel⟩
abbrev s__law_told : Stmt := topS 25
theorem sc__law_told : FnScope ["which", "box"] ["which", "box"] (defScope s__law_told) := ⟨rfl, rfl, rfl, by decide +kernel, rfl, by decide +kernel, by decide +kernel⟩
abbrev s__law_odd_box : Stmt := topS 22
theorem sc__law_odd_box : FnScope ["draw", "odd"] ["draw"] (defScope s__law_odd_box) := ⟨rfl, rfl, rfl, by decide +kernel, rfl, by decide +kernel, by decide +kernel⟩
abbrev s__law_reached : Stmt := topS 24
theorem sc__law_reached : FnScope ["box", "state", "found", "turn", "more", "p", "to"] ["box", "state"] (defScope s__law_reached) := ⟨rfl, rfl, rfl, by decide +kernel, rfl, by decide +kernel, by decide +kernel⟩
abbrev s_law : Stmt := topS 26
theorem sc_law : FnScope ["script", "draw", "turn", "box", "every", "stay", "closed", "row", "p", "other", "which"] ["script"] (defScope s_law) := ⟨rfl, rfl, rfl, by decide +kernel, rfl, by decide +kernel, by decide +kernel⟩
structure Ad where
  f__law_draw : Addr
  fd__law_draw : FuncData
  f__law_take : Addr
  fd__law_take : FuncData
  f__law_order : Addr
  fd__law_order : FuncData
  f__law_box : Addr
  fd__law_box : FuncData
  f__law_sets : Addr
  fd__law_sets : FuncData
  f_is_whole : Addr
  fd_is_whole : FuncData
  f_is_move : Addr
  fd_is_move : FuncData
  f_is_box : Addr
  fd_is_box : FuncData
  f_check_box : Addr
  fd_check_box : FuncData
  f_sets_of : Addr
  fd_sets_of : FuncData
  f_does_stay : Addr
  fd_does_stay : FuncData
  f_found_staying : Addr
  fd_found_staying : FuncData
  f_staying : Addr
  fd_staying : FuncData
  f_closed_sets : Addr
  fd_closed_sets : FuncData
  f__law_told : Addr
  fd__law_told : FuncData
  f__law_odd_box : Addr
  fd__law_odd_box : FuncData
  f__law_reached : Addr
  fd__law_reached : FuncData
  f_law : Addr
  fd_law : FuncData
  c : Exs
structure Tx (K : PySem.W.Frag) (mg : Str → Option Value) (a : Ad) : Prop where
  d__law_draw : Dn K mg "_law_draw" s__law_draw ["script"] a.f__law_draw a.fd__law_draw
  d__law_take : Dn K mg "_law_take" s__law_take ["draw", "many"] a.f__law_take a.fd__law_take
  d__law_order : Dn K mg "_law_order" s__law_order ["draw", "many"] a.f__law_order a.fd__law_order
  d__law_box : Dn K mg "_law_box" s__law_box ["draw", "most"] a.f__law_box a.fd__law_box
  d__law_sets : Dn K mg "_law_sets" s__law_sets ["many"] a.f__law_sets a.fd__law_sets
  d_is_whole : Dn K mg "is_whole" s_is_whole ["value"] a.f_is_whole a.fd_is_whole
  d_is_move : Dn K mg "is_move" s_is_move ["value", "many"] a.f_is_move a.fd_is_move
  d_is_box : Dn K mg "is_box" s_is_box ["value"] a.f_is_box a.fd_is_box
  d_check_box : Dn K mg "check_box" s_check_box ["value"] a.f_check_box a.fd_check_box
  d_sets_of : Dn K mg "sets_of" s_sets_of ["many"] a.f_sets_of a.fd_sets_of
  d_does_stay : Dn K mg "does_stay" s_does_stay ["box", "states"] a.f_does_stay a.fd_does_stay
  d_found_staying : Dn K mg "found_staying" s_found_staying ["box"] a.f_found_staying a.fd_found_staying
  d_staying : Dn K mg "staying" s_staying ["box"] a.f_staying a.fd_staying
  d_closed_sets : Dn K mg "closed_sets" s_closed_sets ["box"] a.f_closed_sets a.fd_closed_sets
  d__law_told : Dn K mg "_law_told" s__law_told ["which", "box"] a.f__law_told a.fd__law_told
  d__law_odd_box : Dn K mg "_law_odd_box" s__law_odd_box ["draw"] a.f__law_odd_box a.fd__law_odd_box
  d__law_reached : Dn K mg "_law_reached" s__law_reached ["box", "state"] a.f__law_reached a.fd__law_reached
  d_law : Dn K mg "law" s_law ["script"] a.f_law a.fd_law
  n_abs : mg "abs" = none
  n_all : mg "all" = none
  n_any : mg "any" = none
  n_bool : mg "bool" = none
  n_int : mg "int" = none
  n_isinstance : mg "isinstance" = none
  n_len : mg "len" = none
  n_list : mg "list" = none
  n_range : mg "range" = none
  n_repr : mg "repr" = none
  n_set : mg "set" = none
  n_sorted : mg "sorted" = none
  n_tuple : mg "tuple" = none
  g_MOST_STATES : ∃ u v, mg "MOST_STATES" = some u ∧ RelV v u ∧ ∀ (H : Hp) (g : Addr → Prop), Df K H g v k_MOST_STATES
  g_INPUTS : ∃ u v, mg "INPUTS" = some u ∧ RelV v u ∧ ∀ (H : Hp) (g : Addr → Prop), Df K H g v k_INPUTS
  x_m : Xn K mg "Malformed" a.c
section
variable {P : Program} {w : World} {K : PySem.W.Frag} {mg : Str → Option Value} {base : Heap} {a : Ad}
set_option maxHeartbeats 4000000 in
theorem ok__law_draw (T : Tx K mg a) : FnOk P w K mg base (L2.CX P w) 1 a.f__law_draw a.fd__law_draw ["script"] (spD K a.c true 1 f__law_draw) := by
  refine DL.okD2 (m := m__law_draw) (n := 3) (p := 1) rfl rfl rfl T.d__law_draw.fn sc__law_draw (fun cdv A outer s H E hr => ?_)
  have tk : Takes (cxOf (L2.CX P w) P w K mg base ["script", "seed", "cell"] "_law_draw" (defScope s__law_draw) a.f__law_draw cdv A outer s H E) (fun cls d _ H' => E cls d H') := takes_of (E := E) rfl rfl rfl rfl
  have hu : (A.deeper (envOfC "_law_draw" (defScope s__law_draw) s.heap.objs.size a.f__law_draw cdv)).units + 65 < cLine := by have := hr.un; omega
  have hu4 := hr.units
  exact (sss_cons (ss_set 1 sc__law_draw.nd se_int (hx := by first | exact .inl rfl | exact .inr rfl))
  (sss_cons (ss_for (passes_of rfl) rfl (si_scr 0) (sg_name 2 sc__law_draw.nd (hx := by first | exact .inl rfl | exact .inr rfl)) (sss_one (ss_set 1 sc__law_draw.nd (se_op op_mod bin_mod persD persD (se_callTy call_int1 un_int persD T.n_int rfl (se_op op_addA bin_add persD persD (se_op op_addA bin_add persD persD (se_op op_mulA bin_mul persD persD (se_var 1) se_int) (se_op op_mod bin_mod persD persD (se_callB call_abs un_abs persD T.n_abs rfl (se_callTy call_int1 un_int persD T.n_int rfl (se_var 2))) se_int)) se_int)) se_int) (hx := by first | exact .inl rfl | exact .inr rfl))))
  (sss_one (ss_retF (sf_lst (sa_cons (SF.se (sf_comp (own := [("cell", 2)]) (is := [2]) rfl sc__law_draw.nd (si_scr 0) (blkOk_by (by kernel_rfl)) (by decide) (fun _ _ _ _ _ => (sg_name 2 sc__law_draw.nd (hx := by first | exact .inl rfl | exact .inr rfl))) (fun _ _ _ _ _ => sts_nil) (fun _ _ _ _ _ => (se_callB call_abs un_abs persD T.n_abs rfl (se_callTy call_int1 un_int persD T.n_int rfl (se_var 2)))))) (sa_cons (se_neg se_int) (sa_cons se_int (sa_cons (se_var 1) sa_nil)))))))))
set_option maxHeartbeats 4000000 in
theorem ok__law_take (T : Tx K mg a) : FnOk P w K mg base (L2.CX P w) 1 a.f__law_take a.fd__law_take ["draw", "many"] (spD K a.c false 2 f__law_take) := by
  refine DL.okD2 (m := m__law_take) (n := 3) (p := 2) rfl rfl rfl T.d__law_take.fn sc__law_take (fun cdv A outer s H E hr => ?_)
  have tk : Takes (cxOf (L2.CX P w) P w K mg base ["draw", "many", "found"] "_law_take" (defScope s__law_take) a.f__law_take cdv A outer s H E) (fun cls d _ H' => E cls d H') := takes_of (E := E) rfl rfl rfl rfl
  have hu : (A.deeper (envOfC "_law_take" (defScope s__law_take) s.heap.objs.size a.f__law_take cdv)).units + 65 < cLine := by have := hr.un; omega
  have hu4 := hr.units
  exact (sss_cons (ss_if (st_cmp (op_eqD hu4) bin_eq persD persD (se_drw 0 2) se_int (by rfl)) (sss_cons (ss_drwSet 0 1 (se_op op_addA bin_add persD persD (se_drw 0 1) se_int))
  (sss_cons (ss_if (st_cmp op_ltA bin_lt persD persD (se_drw 0 1) (se_callB call_lenA un_len persD T.n_len rfl (se_drw 0 0)) (by rfl)) (sss_one (ss_drwSet 0 2 (se_ix persD persD (se_drw 0 0) (se_drw 0 1)))) sss_nil)
  (sss_one (ss_if (st_cmp (op_eqD hu4) bin_eq persD persD (se_drw 0 2) se_int (by rfl)) (sss_cons (ss_drwSet 0 3 (se_op op_mod bin_mod persD persD (se_callTy call_int1 un_int persD T.n_int rfl (se_op op_addA bin_add persD persD (se_op op_mulA bin_mul persD persD (se_drw 0 3) se_int) se_int)) se_int))
  (sss_one (ss_drwSet 0 2 (se_drw 0 3)))) sss_nil)))) sss_nil)
  (sss_cons (ss_set 2 sc__law_take.nd (se_op op_mod bin_mod persD persD (se_callTy call_int1 un_int persD T.n_int rfl (se_drw 0 2)) (se_var 1)) (hx := by first | exact .inl rfl | exact .inr rfl))
  (sss_cons (ss_drwSet 0 2 (se_op op_fdiv bin_fdiv persD persD (se_drw 0 2) (se_var 1)))
  (sss_one (ss_ret (se_var 2))))))
set_option maxHeartbeats 4000000 in
theorem ok__law_order (T : Tx K mg a) : FnOk P w K mg base (L2.CX P w) 2 a.f__law_order a.fd__law_order ["draw", "many"] (spD K a.c false 2 f__law_order) := by
  refine DL.okD2 (m := m__law_order) (n := 4) (p := 2) rfl rfl rfl T.d__law_order.fn sc__law_order (fun cdv A outer s H E hr => ?_)
  have tk : Takes (cxOf (L2.CX P w) P w K mg base ["draw", "many", "left", "found"] "_law_order" (defScope s__law_order) a.f__law_order cdv A outer s H E) (fun cls d _ H' => E cls d H') := takes_of (E := E) rfl rfl rfl rfl
  have hu : (A.deeper (envOfC "_law_order" (defScope s__law_order) s.heap.objs.size a.f__law_order cdv)).units + 65 < cLine := by have := hr.un; omega
  have hu4 := hr.units
  exact (sss_cons (ss_parLL 2 3 sc__law_order.nd (sf_listRg1 rfl T.n_list T.n_range (se_var 1)) (sf_lst sa_nil))
  (sss_cons (ss_while 1000 (passes_of rfl) (st_cmp (op_neD hu4) bin_ne persP persD (sp_var 2) (SF.se (sf_lst sa_nil)) (by rfl)) (sss_one (ss_appPop 3 2 (se_call (ok__law_take T) (hr.mono (by decide)) T.d__law_take.mg T.d__law_take.kp T.d__law_take.bd tk (sax_v 0 (sax_d (se_callB call_lenA un_len persP T.n_len rfl (sp_var 2)) sax_nil))))))
  (sss_one (ss_retL 3 (fr := false)))))
set_option maxHeartbeats 4000000 in
theorem ok__law_box (T : Tx K mg a) : FnOk P w K mg base (L2.CX P w) 3 a.f__law_box a.fd__law_box ["draw", "most"] (spD K a.c false 2 f__law_box) := by
  refine DL.okD2 (m := m__law_box) (n := 13) (p := 2) rfl rfl rfl T.d__law_box.fn sc__law_box (fun cdv A outer s H E hr => ?_)
  have tk : Takes (cxOf (L2.CX P w) P w K mg base ["draw", "most", "many", "kind", "found", "state", "moves", "one", "two", "sign", "to", "output", "k"] "_law_box" (defScope s__law_box) a.f__law_box cdv A outer s H E) (fun cls d _ H' => E cls d H') := takes_of (E := E) rfl rfl rfl rfl
  have hu : (A.deeper (envOfC "_law_box" (defScope s__law_box) s.heap.objs.size a.f__law_box cdv)).units + 65 < cLine := by have := hr.un; omega
  have hu4 := hr.units
  exact (sss_cons (ss_set 2 sc__law_box.nd (se_op op_addA bin_add persD persD se_int (se_call (ok__law_take T) (hr.mono (by decide)) T.d__law_take.mg T.d__law_take.kp T.d__law_take.bd tk (sax_v 0 (sax_d (se_var 1) sax_nil)))) (hx := by first | exact .inl rfl | exact .inr rfl))
  (sss_cons (ss_set 3 sc__law_box.nd (se_call (ok__law_take T) (hr.mono (by decide)) T.d__law_take.mg T.d__law_take.kp T.d__law_take.bd tk (sax_v 0 (sax_d se_int sax_nil))) (hx := by first | exact .inl rfl | exact .inr rfl))
  (sss_cons (ss_setL 4 sc__law_box.nd (sf_lst sa_nil) (hx := by first | exact .inl rfl | exact .inr rfl))
  (sss_cons (ss_for (passes_of rfl) rfl (si_rng1 T.n_range (se_var 2)) (sg_name 5 sc__law_box.nd (hx := by first | exact .inl rfl | exact .inr rfl)) (sss_cons (ss_set 6 sc__law_box.nd (SF.se (sf_comp (own := [("sign", 9)]) (is := [9]) rfl sc__law_box.nd (si_rng1 T.n_range se_int) (blkOk_by (by kernel_rfl)) (by decide) (fun _ _ _ _ _ => (sg_name 9 sc__law_box.nd (hx := by first | exact .inl rfl | exact .inr rfl))) (fun _ _ _ _ _ => sts_nil) (fun _ _ _ _ _ => (se_tup (sa_cons (se_call (ok__law_take T) (hr.mono (by decide)) T.d__law_take.mg T.d__law_take.kp T.d__law_take.bd takes0 (sax_v 0 (sax_d (se_var 2) sax_nil))) (sa_cons (se_call (ok__law_take T) (hr.mono (by decide)) T.d__law_take.mg T.d__law_take.kp T.d__law_take.bd takes0 (sax_v 0 (sax_d se_int sax_nil))) sa_nil)))))) (hx := by first | exact .inl rfl | exact .inr rfl))
  (sss_cons (ss_if (st_cmp (op_eqD hu4) bin_eq persD persD (se_var 3) se_int (by rfl)) (sss_one (ss_set 6 sc__law_box.nd (SF.se (sf_comp (own := [("to", 10), ("output", 11)]) (is := [10, 11]) rfl sc__law_box.nd (si_seq (se_var 6)) (blkOk_by (by kernel_rfl)) (by decide) (fun _ _ _ _ _ => (sg_tup rfl (sgs_cons (sg_name 10 sc__law_box.nd (hx := by first | exact .inl rfl | exact .inr rfl)) (sgs_cons (sg_name 11 sc__law_box.nd (hx := by first | exact .inl rfl | exact .inr rfl)) sgs_nil)))) (fun _ _ _ _ _ => sts_nil) (fun _ _ _ _ _ => (se_tup (sa_cons (se_var 10) (sa_cons (se_ix persD persD (se_ix persD persD (se_var 6) se_int) se_int) sa_nil)))))) (hx := by first | exact .inl rfl | exact .inr rfl))) sss_nil)
  (sss_one (ss_app 4 (se_callTy call_tuple_of un_tuple persD T.n_tuple rfl (se_var 6)))))))
  (sss_cons (ss_if (st_cmp (op_eqD hu4) bin_eq persD persD (se_var 3) se_int (by rfl)) (sss_cons (ss_asg (se_tup (sa_cons (se_call (ok__law_order T) (hr.mono (by decide)) T.d__law_order.mg T.d__law_order.kp T.d__law_order.bd tk (sax_v 0 (sax_d (se_var 2) sax_nil))) (sa_cons (se_call (ok__law_order T) (hr.mono (by decide)) T.d__law_order.mg T.d__law_order.kp T.d__law_order.bd tk (sax_v 0 (sax_d (se_var 2) sax_nil))) sa_nil))) (sg_tup rfl (sgs_cons (sg_name 7 sc__law_box.nd (hx := by first | exact .inl rfl | exact .inr rfl)) (sgs_cons (sg_name 8 sc__law_box.nd (hx := by first | exact .inl rfl | exact .inr rfl)) sgs_nil))))
  (sss_one (ss_setL 4 sc__law_box.nd (sf_comp (own := [("k", 12)]) (is := [12]) rfl sc__law_box.nd (si_rng1 T.n_range (se_var 2)) (blkOk_by (by kernel_rfl)) (by decide) (fun _ _ _ _ _ => (sg_name 12 sc__law_box.nd (hx := by first | exact .inl rfl | exact .inr rfl))) (fun _ _ _ _ _ => sts_nil) (fun _ _ _ _ _ => (se_tup (sa_cons (se_tup (sa_cons (se_ix persD persD (se_var 7) (se_var 12)) (sa_cons (se_ix persD persD (se_ix persD persD (se_ix persP persD (sp_var 4) (se_var 12)) se_int) se_int) sa_nil))) (sa_cons (se_tup (sa_cons (se_ix persD persD (se_var 8) (se_var 12)) (sa_cons (se_ix persD persD (se_ix persD persD (se_ix persP persD (sp_var 4) (se_var 12)) se_int) se_int) sa_nil))) sa_nil))))) (hx := by first | exact .inl rfl | exact .inr rfl)))) sss_nil)
  (sss_one (ss_ret (se_callTy call_tuple_of un_tuple persP T.n_tuple rfl (sp_var 4)))))))))
set_option maxHeartbeats 4000000 in
theorem ok__law_sets (T : Tx K mg a) : FnOk P w K mg base (L2.CX P w) 1 a.f__law_sets a.fd__law_sets ["many"] (spD K a.c false 1 f__law_sets) := by
  refine DL.okD2 (m := m__law_sets) (n := 4) (p := 1) rfl rfl rfl T.d__law_sets.fn sc__law_sets (fun cdv A outer s H E hr => ?_)
  have tk : Takes (cxOf (L2.CX P w) P w K mg base ["many", "found", "state", "row"] "_law_sets" (defScope s__law_sets) a.f__law_sets cdv A outer s H E) (fun cls d _ H' => E cls d H') := takes_of (E := E) rfl rfl rfl rfl
  have hu : (A.deeper (envOfC "_law_sets" (defScope s__law_sets) s.heap.objs.size a.f__law_sets cdv)).units + 65 < cLine := by have := hr.un; omega
  have hu4 := hr.units
  exact (sss_cons (ss_set 1 sc__law_sets.nd (SF.se (sf_lst (sa_cons (se_tup sa_nil) sa_nil))) (hx := by first | exact .inl rfl | exact .inr rfl))
  (sss_cons (ss_for (passes_of rfl) rfl (si_rng1 T.n_range (se_var 0)) (sg_name 2 sc__law_sets.nd (hx := by first | exact .inl rfl | exact .inr rfl)) (sss_one (ss_set 1 sc__law_sets.nd (se_op op_addA bin_add persD persD (se_var 1) (SF.se (sf_comp (own := [("row", 3)]) (is := [3]) rfl sc__law_sets.nd (si_seq (se_var 1)) (blkOk_by (by kernel_rfl)) (by decide) (fun _ _ _ _ _ => (sg_name 3 sc__law_sets.nd (hx := by first | exact .inl rfl | exact .inr rfl))) (fun _ _ _ _ _ => sts_nil) (fun _ _ _ _ _ => (se_op op_addA bin_add persD persD (se_var 3) (se_tup (sa_cons (se_var 2) sa_nil))))))) (hx := by first | exact .inl rfl | exact .inr rfl))))
  (sss_one (ss_ret (SF.se (sf_callB (cr_sortD hu) un_sort persD T.n_sorted rfl (se_slice persD (se_var 1) (so_some se_int) so_none)))))))
set_option maxHeartbeats 4000000 in
theorem ok_is_whole (T : Tx K mg a) : FnOk P w K mg base (L2.CX P w) 1 a.f_is_whole a.fd_is_whole ["value"] (spD K a.c false 1 f_is_whole) := by
  refine DL.okD2 (m := m_is_whole) (n := 1) (p := 1) rfl rfl rfl T.d_is_whole.fn sc_is_whole (fun cdv A outer s H E hr => ?_)
  have tk : Takes (cxOf (L2.CX P w) P w K mg base ["value"] "is_whole" (defScope s_is_whole) a.f_is_whole cdv A outer s H E) (fun cls d _ H' => E cls d H') := takes_of (E := E) rfl rfl rfl rfl
  have hu : (A.deeper (envOfC "is_whole" (defScope s_is_whole) s.heap.objs.size a.f_is_whole cdv)).units + 65 < cLine := by have := hr.un; omega
  have hu4 := hr.units
  exact (sss_one (ss_ret (se_and (se_isi (n := 0) persD (se_var 0) T.n_isinstance T.n_int rfl (by decide)) (se_one (se_not (se_isi (n := 1) persD (se_var 0) T.n_isinstance T.n_bool rfl (by decide)))))))
set_option maxHeartbeats 4000000 in
theorem ok_is_move (T : Tx K mg a) : FnOk P w K mg base (L2.CX P w) 2 a.f_is_move a.fd_is_move ["value", "many"] (spD K a.c false 2 f_is_move) := by
  refine DL.okD2 (m := m_is_move) (n := 3) (p := 2) rfl rfl rfl T.d_is_move.fn sc_is_move (fun cdv A outer s H E hr => ?_)
  have tk : Takes (cxOf (L2.CX P w) P w K mg base ["value", "many", "item"] "is_move" (defScope s_is_move) a.f_is_move cdv A outer s H E) (fun cls d _ H' => E cls d H') := takes_of (E := E) rfl rfl rfl rfl
  have hu : (A.deeper (envOfC "is_move" (defScope s_is_move) s.heap.objs.size a.f_is_move cdv)).units + 65 < cLine := by have := hr.un; omega
  have hu4 := hr.units
  exact (sss_cons (ss_if (PW.pt (sw_or (st_not (st_val (se_isi (n := 2) persD (se_var 0) T.n_isinstance T.n_tuple rfl (by decide)))) (sw_or (st_cmp (op_neD hu4) bin_ne persD persD (se_callB call_lenA un_len persD T.n_len rfl (se_var 0)) se_int (by rfl)) (sw_or1 (st_not (st_val (se_callB (cr_all rfl) un_all persD T.n_all rfl (SF.se (sf_comp (own := [("item", 2)]) (is := [2]) rfl sc_is_move.nd (si_seq (se_var 0)) (blkOk_by (by kernel_rfl)) (by decide) (fun _ _ _ _ _ => (sg_name 2 sc_is_move.nd (hx := by first | exact .inl rfl | exact .inr rfl))) (fun _ _ _ _ _ => sts_nil) (fun _ _ _ _ _ => (se_call (ok_is_whole T) (hr.mono (by decide)) T.d_is_whole.mg T.d_is_whole.kp T.d_is_whole.bd takes0 (sax_d (se_var 2) sax_nil)))))))))))) (sss_one (ss_ret se_bl)) sss_nil)
  (sss_one (ss_ret (se_and (se_chain op_leA op_ltA bin_le bin_lt se_int (se_ix persD persD (se_var 0) se_int) (se_var 1)) (se_one (se_chain op_leA op_leA bin_le bin_le se_int (se_ix persD persD (se_var 0) se_int) se_int))))))
set_option maxHeartbeats 4000000 in
theorem ok_is_box (T : Tx K mg a) : FnOk P w K mg base (L2.CX P w) 3 a.f_is_box a.fd_is_box ["value"] (spD K a.c false 1 f_is_box) := by
  refine DL.okD2 (m := m_is_box) (n := 3) (p := 1) rfl rfl rfl T.d_is_box.fn sc_is_box (fun cdv A outer s H E hr => ?_)
  have tk : Takes (cxOf (L2.CX P w) P w K mg base ["value", "moves", "move"] "is_box" (defScope s_is_box) a.f_is_box cdv A outer s H E) (fun cls d _ H' => E cls d H') := takes_of (E := E) rfl rfl rfl rfl
  have hu : (A.deeper (envOfC "is_box" (defScope s_is_box) s.heap.objs.size a.f_is_box cdv)).units + 65 < cLine := by have := hr.un; omega
  have hu4 := hr.units
  obtain ⟨u_MOST_STATES, v_MOST_STATES, g1_MOST_STATES, g2_MOST_STATES, g3_MOST_STATES⟩ := T.g_MOST_STATES
  exact (sss_cons (ss_if (PW.pt (sw_or (st_not (st_val (se_isi (n := 2) persD (se_var 0) T.n_isinstance T.n_tuple rfl (by decide)))) (sw_or1 (st_not (st_chain op_leA op_leA bin_le bin_le se_int (se_callB call_lenA un_len persD T.n_len rfl (se_var 0)) (se_glob g1_MOST_STATES g2_MOST_STATES g3_MOST_STATES)))))) (sss_one (ss_ret se_bl)) sss_nil)
  (sss_cons (ss_if (st_not (st_val (se_callB (cr_all rfl) un_all persD T.n_all rfl (SF.se (sf_comp (own := [("moves", 1)]) (is := [1]) rfl sc_is_box.nd (si_seq (se_var 0)) (blkOk_by (by kernel_rfl)) (by decide) (fun _ _ _ _ _ => (sg_name 1 sc_is_box.nd (hx := by first | exact .inl rfl | exact .inr rfl))) (fun _ _ _ _ _ => sts_nil) (fun _ _ _ _ _ => (se_and (se_isi (n := 2) persD (se_var 1) T.n_isinstance T.n_tuple rfl (by decide)) (se_one (se_cmp (op_eqD hu4) bin_eq persD persD (se_callB call_lenA un_len persD T.n_len rfl (se_var 1)) se_int (by rfl)))))))))) (sss_one (ss_ret se_bl)) sss_nil)
  (sss_one (ss_ret (se_callB (cr_all rfl) un_all persD T.n_all rfl (SF.se (sf_comp2 (own := [("moves", 1), ("move", 2)]) (vs1 := [2]) (is := [1]) (is1 := [2]) rfl sc_is_box.nd (si_seq (se_var 0)) (blkOk_by (by kernel_rfl)) (by decide) (by decide) (by decide) (fun _ _ _ _ _ => (sg_name 1 sc_is_box.nd (hx := by first | exact .inl rfl | exact .inr rfl))) (fun _ _ _ _ _ => sts_nil) (fun _ _ _ _ _ => (si_seq (se_var 1))) (fun _ _ _ _ _ => (sg_name 2 sc_is_box.nd (hx := by first | exact .inl rfl | exact .inr rfl))) (fun _ _ _ _ _ => sts_nil) (fun _ _ _ _ _ => (se_call (ok_is_move T) (hr.mono (by decide)) T.d_is_move.mg T.d_is_move.kp T.d_is_move.bd takes0 (sax_d (se_var 2) (sax_d (se_callB call_lenA un_len persD T.n_len rfl (se_var 0)) sax_nil)))))))))))
set_option maxHeartbeats 4000000 in
theorem ok_check_box (T : Tx K mg a) : FnOk P w K mg base (L2.CX P w) 4 a.f_check_box a.fd_check_box ["value"] (spD K a.c false 1 f_check_box) := by
  refine DL.okD2 (m := m_check_box) (n := 1) (p := 1) rfl rfl rfl T.d_check_box.fn sc_check_box (fun cdv A outer s H E hr => ?_)
  have tk : Takes (cxOf (L2.CX P w) P w K mg base ["value"] "check_box" (defScope s_check_box) a.f_check_box cdv A outer s H E) (fun cls d _ H' => E cls d H') := takes_of (E := E) rfl rfl rfl rfl
  have hu : (A.deeper (envOfC "check_box" (defScope s_check_box) s.heap.objs.size a.f_check_box cdv)).units + 65 < cLine := by have := hr.un; omega
  have hu4 := hr.units
  exact (sss_one (ss_if (st_not (st_val (se_call (ok_is_box T) (hr.mono (by decide)) T.d_is_box.mg T.d_is_box.kp T.d_is_box.bd tk (sax_d (se_var 0) sax_nil)))) (sss_one (ss_raise rfl tk rfl T.x_m.q T.x_m.g T.x_m.kp (T.x_m.r rfl) rfl)) sss_nil))
set_option maxHeartbeats 4000000 in
theorem ok_sets_of (T : Tx K mg a) : FnOk P w K mg base (L2.CX P w) 1 a.f_sets_of a.fd_sets_of ["many"] (spD K a.c false 1 f_sets_of) := by
  refine DL.okD2 (m := m_sets_of) (n := 4) (p := 1) rfl rfl rfl T.d_sets_of.fn sc_sets_of (fun cdv A outer s H E hr => ?_)
  have tk : Takes (cxOf (L2.CX P w) P w K mg base ["many", "found", "state", "row"] "sets_of" (defScope s_sets_of) a.f_sets_of cdv A outer s H E) (fun cls d _ H' => E cls d H') := takes_of (E := E) rfl rfl rfl rfl
  have hu : (A.deeper (envOfC "sets_of" (defScope s_sets_of) s.heap.objs.size a.f_sets_of cdv)).units + 65 < cLine := by have := hr.un; omega
  have hu4 := hr.units
  exact (sss_cons (ss_set 1 sc_sets_of.nd (SF.se (sf_lst (sa_cons (se_tup sa_nil) sa_nil))) (hx := by first | exact .inl rfl | exact .inr rfl))
  (sss_cons (ss_for (passes_of rfl) rfl (si_rng1 T.n_range (se_var 0)) (sg_name 2 sc_sets_of.nd (hx := by first | exact .inl rfl | exact .inr rfl)) (sss_one (ss_set 1 sc_sets_of.nd (se_op op_addA bin_add persD persD (se_var 1) (SF.se (sf_comp (own := [("row", 3)]) (is := [3]) rfl sc_sets_of.nd (si_seq (se_var 1)) (blkOk_by (by kernel_rfl)) (by decide) (fun _ _ _ _ _ => (sg_name 3 sc_sets_of.nd (hx := by first | exact .inl rfl | exact .inr rfl))) (fun _ _ _ _ _ => sts_nil) (fun _ _ _ _ _ => (se_op op_addA bin_add persD persD (se_var 3) (se_tup (sa_cons (se_var 2) sa_nil))))))) (hx := by first | exact .inl rfl | exact .inr rfl))))
  (sss_one (ss_ret (SF.se (sf_callB (cr_sortD hu) un_sort persD T.n_sorted rfl (se_slice persD (se_var 1) (so_some se_int) so_none)))))))
set_option maxHeartbeats 4000000 in
theorem ok_does_stay (T : Tx K mg a) : FnOk P w K mg base (L2.CX P w) 1 a.f_does_stay a.fd_does_stay ["box", "states"] (spD K a.c false 2 f_does_stay) := by
  refine DL.okD2 (m := m_does_stay) (n := 4) (p := 2) rfl rfl rfl T.d_does_stay.fn sc_does_stay (fun cdv A outer s H E hr => ?_)
  have tk : Takes (cxOf (L2.CX P w) P w K mg base ["box", "states", "state", "sign"] "does_stay" (defScope s_does_stay) a.f_does_stay cdv A outer s H E) (fun cls d _ H' => E cls d H') := takes_of (E := E) rfl rfl rfl rfl
  have hu : (A.deeper (envOfC "does_stay" (defScope s_does_stay) s.heap.objs.size a.f_does_stay cdv)).units + 65 < cLine := by have := hr.un; omega
  have hu4 := hr.units
  obtain ⟨u_INPUTS, v_INPUTS, g1_INPUTS, g2_INPUTS, g3_INPUTS⟩ := T.g_INPUTS
  exact (sss_one (ss_ret (se_callB (cr_all rfl) un_all persD T.n_all rfl (SF.se (sf_comp2 (own := [("state", 2), ("sign", 3)]) (vs1 := [3]) (is := [2]) (is1 := [3]) rfl sc_does_stay.nd (si_seq (se_var 1)) (blkOk_by (by kernel_rfl)) (by decide) (by decide) (by decide) (fun _ _ _ _ _ => (sg_name 2 sc_does_stay.nd (hx := by first | exact .inl rfl | exact .inr rfl))) (fun _ _ _ _ _ => sts_nil) (fun _ _ _ _ _ => (si_seq (se_glob g1_INPUTS g2_INPUTS g3_INPUTS))) (fun _ _ _ _ _ => (sg_name 3 sc_does_stay.nd (hx := by first | exact .inl rfl | exact .inr rfl))) (fun _ _ _ _ _ => sts_nil) (fun _ _ _ _ _ => (se_cmp (op_inA hu) bin_in persD persD (se_ix persD persD (se_ix persD persD (se_ix persD persD (se_var 0) (se_var 2)) (se_var 3)) se_int) (se_var 1) (by rfl))))))))
set_option maxHeartbeats 4000000 in
theorem ok_found_staying (T : Tx K mg a) : FnOk P w K mg base (L2.CX P w) 2 a.f_found_staying a.fd_found_staying ["box"] (spD K a.c false 1 f_found_staying) := by
  refine DL.okD2 (m := m_found_staying) (n := 2) (p := 1) rfl rfl rfl T.d_found_staying.fn sc_found_staying (fun cdv A outer s H E hr => ?_)
  have tk : Takes (cxOf (L2.CX P w) P w K mg base ["box", "states"] "found_staying" (defScope s_found_staying) a.f_found_staying cdv A outer s H E) (fun cls d _ H' => E cls d H') := takes_of (E := E) rfl rfl rfl rfl
  have hu : (A.deeper (envOfC "found_staying" (defScope s_found_staying) s.heap.objs.size a.f_found_staying cdv)).units + 65 < cLine := by have := hr.un; omega
  have hu4 := hr.units
  exact (sss_one (ss_ret (SF.se (sf_comp (own := [("states", 1)]) (is := [1]) rfl sc_found_staying.nd (si_seq (se_call (ok_sets_of T) (hr.mono (by decide)) T.d_sets_of.mg T.d_sets_of.kp T.d_sets_of.bd tk (sax_d (se_callB call_lenA un_len persD T.n_len rfl (se_var 0)) sax_nil))) (blkOk_by (by kernel_rfl)) (by decide) (fun _ _ _ _ _ => (sg_name 1 sc_found_staying.nd (hx := by first | exact .inl rfl | exact .inr rfl))) (fun _ _ _ _ _ => (sts_one (st_val (se_call (ok_does_stay T) (hr.mono (by decide)) T.d_does_stay.mg T.d_does_stay.kp T.d_does_stay.bd takes0 (sax_d (se_var 0) (sax_d (se_var 1) sax_nil)))))) (fun _ _ _ _ _ => (se_var 1))))))
set_option maxHeartbeats 4000000 in
theorem ok_staying (T : Tx K mg a) : FnOk P w K mg base (L2.CX P w) 5 a.f_staying a.fd_staying ["box"] (spD K a.c false 1 f_staying) := by
  refine DL.okD2 (m := m_staying) (n := 1) (p := 1) rfl rfl rfl T.d_staying.fn sc_staying (fun cdv A outer s H E hr => ?_)
  have tk : Takes (cxOf (L2.CX P w) P w K mg base ["box"] "staying" (defScope s_staying) a.f_staying cdv A outer s H E) (fun cls d _ H' => E cls d H') := takes_of (E := E) rfl rfl rfl rfl
  have hu : (A.deeper (envOfC "staying" (defScope s_staying) s.heap.objs.size a.f_staying cdv)).units + 65 < cLine := by have := hr.un; omega
  have hu4 := hr.units
  exact (sss_cons (ss_expr (se_call (ok_check_box T) (hr.mono (by decide)) T.d_check_box.mg T.d_check_box.kp T.d_check_box.bd tk (sax_d (se_var 0) sax_nil)))
  (sss_one (ss_ret (se_callTy call_tuple_of un_tuple persD T.n_tuple rfl (se_call (ok_found_staying T) (hr.mono (by decide)) T.d_found_staying.mg T.d_found_staying.kp T.d_found_staying.bd tk (sax_d (se_var 0) sax_nil))))))
set_option maxHeartbeats 4000000 in
theorem ok_closed_sets (T : Tx K mg a) : FnOk P w K mg base (L2.CX P w) 5 a.f_closed_sets a.fd_closed_sets ["box"] (spD K a.c false 1 f_closed_sets) := by
  refine DL.okD2 (m := m_closed_sets) (n := 6) (p := 1) rfl rfl rfl T.d_closed_sets.fn sc_closed_sets (fun cdv A outer s H E hr => ?_)
  have tk : Takes (cxOf (L2.CX P w) P w K mg base ["box", "found", "good", "states", "other", "state"] "closed_sets" (defScope s_closed_sets) a.f_closed_sets cdv A outer s H E) (fun cls d _ H' => E cls d H') := takes_of (E := E) rfl rfl rfl rfl
  have hu : (A.deeper (envOfC "closed_sets" (defScope s_closed_sets) s.heap.objs.size a.f_closed_sets cdv)).units + 65 < cLine := by have := hr.un; omega
  have hu4 := hr.units
  exact (sss_cons (ss_expr (se_call (ok_check_box T) (hr.mono (by decide)) T.d_check_box.mg T.d_check_box.kp T.d_check_box.bd tk (sax_d (se_var 0) sax_nil)))
  (sss_cons (ss_set 1 sc_closed_sets.nd (se_call (ok_found_staying T) (hr.mono (by decide)) T.d_found_staying.mg T.d_found_staying.kp T.d_found_staying.bd tk (sax_d (se_var 0) sax_nil)) (hx := by first | exact .inl rfl | exact .inr rfl))
  (sss_cons (ss_setL 2 sc_closed_sets.nd (sf_lst sa_nil) (hx := by first | exact .inl rfl | exact .inr rfl))
  (sss_cons (ss_for (passes_of rfl) rfl (si_seq (se_var 1)) (sg_name 3 sc_closed_sets.nd (hx := by first | exact .inl rfl | exact .inr rfl)) (sss_one (ss_if (st_not (st_val (se_callB (cr_any rfl) un_any persD T.n_any rfl (SF.se (sf_comp (own := [("other", 4)]) (is := [4]) rfl sc_closed_sets.nd (si_seq (se_var 1)) (blkOk_by (by kernel_rfl)) (by decide) (fun _ _ _ _ _ => (sg_name 4 sc_closed_sets.nd (hx := by first | exact .inl rfl | exact .inr rfl))) (fun _ _ _ _ _ => sts_nil) (fun _ _ _ _ _ => (se_and (se_cmp (op_neD hu4) bin_ne persD persD (se_var 4) (se_var 3) (by rfl)) (se_one (se_callB (cr_all rfl) un_all persD T.n_all rfl (SF.se (sf_comp (own := [("state", 5)]) (is := [5]) rfl sc_closed_sets.nd (si_seq (se_var 4)) (blkOk_by (by kernel_rfl)) (by decide) (fun _ _ _ _ _ => (sg_name 5 sc_closed_sets.nd (hx := by first | exact .inl rfl | exact .inr rfl))) (fun _ _ _ _ _ => sts_nil) (fun _ _ _ _ _ => (se_cmp (op_inA hu) bin_in persD persD (se_var 5) (se_var 3) (by rfl)))))))))))))) (sss_one (ss_app 2 (se_var 3))) sss_nil)))
  (sss_one (ss_ret (se_callTy call_tuple_of un_tuple persP T.n_tuple rfl (sp_var 2))))))))
set_option maxHeartbeats 4000000 in
theorem ok__law_told (T : Tx K mg a) : FnOk P w K mg base (L2.CX P w) 6 a.f__law_told a.fd__law_told ["which", "box"] (spD K a.c false 2 f__law_told) := by
  refine DL.okD2 (m := m__law_told) (n := 2) (p := 2) rfl rfl rfl T.d__law_told.fn sc__law_told (fun cdv A outer s H E hr => ?_)
  have tk : Takes (cxOf (L2.CX P w) P w K mg base ["which", "box"] "_law_told" (defScope s__law_told) a.f__law_told cdv A outer s H E) (fun cls d _ H' => E cls d H') := takes_of (E := E) rfl rfl rfl rfl
  have hu : (A.deeper (envOfC "_law_told" (defScope s__law_told) s.heap.objs.size a.f__law_told cdv)).units + 65 < cLine := by have := hr.un; omega
  have hu4 := hr.units
  exact (sss_one (ss_try (k := fun _ => true) rfl rfl T.x_m.g tk T.x_m.ex (fun W2 pn xe tk2 hp2 => (sss_one (ss_ret (se_if (st_cmp (op_eqD hu4) bin_eq persD persD (se_var 0) se_int (by rfl)) (se_call (ok_staying T) (hr.mono (by decide)) T.d_staying.mg T.d_staying.kp T.d_staying.bd tk2 (sax_d (se_var 1) sax_nil)) (se_call (ok_closed_sets T) (hr.mono (by decide)) T.d_closed_sets.mg T.d_closed_sets.kp T.d_closed_sets.bd tk2 (sax_d (se_var 1) sax_nil)))))) (fun _ _ => (sss_one (ss_ret se_str)))))
set_option maxHeartbeats 4000000 in
theorem ok__law_odd_box (T : Tx K mg a) : FnOk P w K mg base (L2.CX P w) 2 a.f__law_odd_box a.fd__law_odd_box ["draw"] (spD K a.c false 1 f__law_odd_box) := by
  refine DL.okD2 (m := m__law_odd_box) (n := 2) (p := 1) rfl rfl rfl T.d__law_odd_box.fn sc__law_odd_box (fun cdv A outer s H E hr => ?_)
  have tk : Takes (cxOf (L2.CX P w) P w K mg base ["draw", "odd"] "_law_odd_box" (defScope s__law_odd_box) a.f__law_odd_box cdv A outer s H E) (fun cls d _ H' => E cls d H') := takes_of (E := E) rfl rfl rfl rfl
  have hu : (A.deeper (envOfC "_law_odd_box" (defScope s__law_odd_box) s.heap.objs.size a.f__law_odd_box cdv)).units + 65 < cLine := by have := hr.un; omega
  have hu4 := hr.units
  exact (sss_cons (ss_set 1 sc__law_odd_box.nd (SF.se (sf_lst (sa_cons se_non (sa_cons (se_tup sa_nil) (sa_cons se_int (sa_cons (SF.se (sf_lst (sa_cons (se_tup (sa_cons (se_tup (sa_cons se_int (sa_cons se_int sa_nil))) (sa_cons (se_tup (sa_cons se_int (sa_cons se_int sa_nil))) sa_nil))) sa_nil))) (sa_cons (se_tup (sa_cons (se_tup (sa_cons (se_tup (sa_cons se_int (sa_cons se_int sa_nil))) sa_nil)) sa_nil)) (sa_cons (se_tup (sa_cons (se_tup (sa_cons (se_tup (sa_cons se_int (sa_cons se_int sa_nil))) (sa_cons (se_tup (sa_cons se_int (sa_cons se_int sa_nil))) sa_nil))) sa_nil)) (sa_cons (se_tup (sa_cons (se_tup (sa_cons (se_tup (sa_cons se_int (sa_cons se_int sa_nil))) (sa_cons (se_tup (sa_cons se_int (sa_cons se_int sa_nil))) sa_nil))) sa_nil)) (sa_cons (se_tup (sa_cons (se_tup (sa_cons (se_tup (sa_cons se_int (sa_cons se_bl sa_nil))) (sa_cons (se_tup (sa_cons se_int (sa_cons se_int sa_nil))) sa_nil))) sa_nil)) (sa_cons (se_tup (sa_cons (se_tup (sa_cons (se_tup (sa_cons se_int (sa_cons se_int sa_nil))) (sa_cons (se_tup (sa_cons se_int (sa_cons se_int sa_nil))) (sa_cons (se_tup (sa_cons se_int (sa_cons se_int sa_nil))) sa_nil)))) sa_nil)) (sa_cons (se_tup (sa_cons (se_tup (sa_cons (se_tup (sa_cons (se_neg se_int) (sa_cons se_int sa_nil))) (sa_cons (se_tup (sa_cons se_int (sa_cons se_int sa_nil))) sa_nil))) sa_nil)) sa_nil)))))))))))) (hx := by first | exact .inl rfl | exact .inr rfl))
  (sss_one (ss_ret (se_ix persD persD (se_op op_addA bin_add persD persD (se_var 1) (SF.se (sf_lst (sa_cons (se_tup (sa_cons (SF.se (sf_lst (sa_cons (se_tup (sa_cons se_int (sa_cons se_int sa_nil))) (sa_cons (se_tup (sa_cons se_int (sa_cons se_int sa_nil))) sa_nil)))) sa_nil)) (sa_cons (se_tup (sa_cons (se_tup (sa_cons (se_tup (sa_cons se_int (sa_cons se_int sa_nil))) (sa_cons (SF.se (sf_lst (sa_cons se_int (sa_cons se_int sa_nil)))) sa_nil))) sa_nil)) (sa_cons (se_op op_mulA bin_mul persD persD (se_tup (sa_cons (se_tup (sa_cons (se_tup (sa_cons se_int (sa_cons se_int sa_nil))) (sa_cons (se_tup (sa_cons se_int (sa_cons se_int sa_nil))) sa_nil))) sa_nil)) se_int) (sa_cons (se_tup (sa_cons (se_tup (sa_cons (se_tup (sa_cons se_int sa_nil)) (sa_cons (se_tup (sa_cons se_int (sa_cons se_int sa_nil))) sa_nil))) sa_nil)) (sa_cons (se_tup (sa_cons se_non sa_nil)) sa_nil)))))))) (se_call (ok__law_take T) (hr.mono (by decide)) T.d__law_take.mg T.d__law_take.kp T.d__law_take.bd tk (sax_v 0 (sax_d se_int sax_nil)))))))
set_option maxHeartbeats 4000000 in
theorem ok__law_reached (T : Tx K mg a) : FnOk P w K mg base (L2.CX P w) 1 a.f__law_reached a.fd__law_reached ["box", "state"] (spD K a.c false 2 f__law_reached) := by
  refine DL.okD2 (m := m__law_reached) (n := 7) (p := 2) rfl rfl rfl T.d__law_reached.fn sc__law_reached (fun cdv A outer s H E hr => ?_)
  have tk : Takes (cxOf (L2.CX P w) P w K mg base ["box", "state", "found", "turn", "more", "p", "to"] "_law_reached" (defScope s__law_reached) a.f__law_reached cdv A outer s H E) (fun cls d _ H' => E cls d H') := takes_of (E := E) rfl rfl rfl rfl
  have hu : (A.deeper (envOfC "_law_reached" (defScope s__law_reached) s.heap.objs.size a.f__law_reached cdv)).units + 65 < cLine := by have := hr.un; omega
  have hu4 := hr.units
  exact (sss_cons (ss_set 2 sc__law_reached.nd (SF.se (sf_lst (sa_cons (se_var 1) sa_nil))) (hx := by first | exact .inl rfl | exact .inr rfl))
  (sss_cons (ss_for (passes_of rfl) rfl (si_seq (se_var 0)) (sg_name 3 sc__law_reached.nd (hx := by first | exact .inl rfl | exact .inr rfl)) (sss_cons (ss_set 4 sc__law_reached.nd (SF.se (sf_sortSet rfl persD T.n_sorted T.n_set (se_op op_addA bin_add persD persD (SF.se (sf_comp (own := [("p", 5)]) (is := [5]) rfl sc__law_reached.nd (si_seq (se_var 2)) (blkOk_by (by kernel_rfl)) (by decide) (fun _ _ _ _ _ => (sg_name 5 sc__law_reached.nd (hx := by first | exact .inl rfl | exact .inr rfl))) (fun _ _ _ _ _ => sts_nil) (fun _ _ _ _ _ => (se_ix persD persD (se_ix persD persD (se_ix persD persD (se_var 0) (se_var 5)) se_int) se_int)))) (SF.se (sf_comp (own := [("p", 5)]) (is := [5]) rfl sc__law_reached.nd (si_seq (se_var 2)) (blkOk_by (by kernel_rfl)) (by decide) (fun _ _ _ _ _ => (sg_name 5 sc__law_reached.nd (hx := by first | exact .inl rfl | exact .inr rfl))) (fun _ _ _ _ _ => sts_nil) (fun _ _ _ _ _ => (se_ix persD persD (se_ix persD persD (se_ix persD persD (se_var 0) (se_var 5)) se_int) se_int))))))) (hx := by first | exact .inl rfl | exact .inr rfl))
  (sss_one (ss_set 2 sc__law_reached.nd (se_op op_addA bin_add persD persD (se_var 2) (SF.se (sf_comp (own := [("to", 6)]) (is := [6]) rfl sc__law_reached.nd (si_seq (se_var 4)) (blkOk_by (by kernel_rfl)) (by decide) (fun _ _ _ _ _ => (sg_name 6 sc__law_reached.nd (hx := by first | exact .inl rfl | exact .inr rfl))) (fun _ _ _ _ _ => (sts_one (st_cmp (op_notInA hu) bin_notIn persD persD (se_var 6) (se_var 2) (by rfl)))) (fun _ _ _ _ _ => (se_var 6))))) (hx := by first | exact .inl rfl | exact .inr rfl)))))
  (sss_one (ss_ret (SF.se (sf_callB (cr_sortD hu) un_sort persD T.n_sorted rfl (se_var 2)))))))
set_option maxHeartbeats 4000000 in
theorem body_law (T : Tx K mg a) : LawBody P w K mg 7 s_law ["script", "draw", "turn", "box", "every", "stay", "closed", "row", "p", "other", "which"] a.f_law a.c m_law := by
  intro base cdv s H hK hns hr
  have tk : Takes (cxOf (L2.CX P w) P w K mg base ["script", "draw", "turn", "box", "every", "stay", "closed", "row", "p", "other", "which"] "law" (defScope s_law) a.f_law cdv callerA [] s H noX) W0 := takes_of (E := noX) rfl rfl rfl rfl
  have hgd : (callerA.deeper (envOfC "law" (defScope s_law) s.heap.objs.size a.f_law cdv)).guards = some [] := rfl
  have hu : (callerA.deeper (envOfC "law" (defScope s_law) s.heap.objs.size a.f_law cdv)).units + 65 < cLine := by have := hr.un; omega
  have hu4 := hr.units
  exact (sss_draw 1 sc_law.nd (sf_call (ok__law_draw T) (hr.mono (by decide)) T.d__law_draw.mg T.d__law_draw.kp T.d__law_draw.bd tk (sax_v 0 sax_nil)) (sss_cons (ss_for (passes_of rfl) rfl (si_rng1 T.n_range se_int) (sg_name 2 sc_law.nd (hx := by first | exact .inl rfl | exact .inr rfl)) (sss_cons (ss_set 3 sc_law.nd (se_call (ok__law_box T) (hr.mono (by decide)) T.d__law_box.mg T.d__law_box.kp T.d__law_box.bd tk (sax_v 1 (sax_d se_int sax_nil))) (hx := by first | exact .inl rfl | exact .inr rfl))
  (sss_cons (ss_set 4 sc_law.nd (se_call (ok__law_sets T) (hr.mono (by decide)) T.d__law_sets.mg T.d__law_sets.kp T.d__law_sets.bd tk (sax_d (se_callB call_lenA un_len persD T.n_len rfl (se_var 3)) sax_nil)) (hx := by first | exact .inl rfl | exact .inr rfl))
  (sss_cons (ss_setLc 5 (own := [("row", 7)]) (is := [7]) rfl sc_law.nd (sw_true rfl rfl rfl (by decide +kernel)) (si_seq (se_var 4)) (blkOk_by (by kernel_rfl)) (by decide) (fun _ _ _ _ _ => (sg_name 7 sc_law.nd (hx := by first | exact .inl rfl | exact .inr rfl))) (fun _ _ _ _ _ => (sts_one (st_val (se_callB (cr_all rfl) un_all persD T.n_all rfl (SF.se (sf_comp (own := [("p", 8)]) (is := [8]) rfl sc_law.nd (si_seq (se_var 7)) (blkOk_by (by kernel_rfl)) (by decide) (fun _ _ _ _ _ => (sg_name 8 sc_law.nd (hx := by first | exact .inl rfl | exact .inr rfl))) (fun _ _ _ _ _ => sts_nil) (fun _ _ _ _ _ => (se_and (se_cmp (op_inA hu) bin_in persD persD (se_ix persD persD (se_ix persD persD (se_ix persD persD (se_var 3) (se_var 8)) se_int) se_int) (se_var 7) (by rfl)) (se_one (se_cmp (op_inA hu) bin_in persD persD (se_ix persD persD (se_ix persD persD (se_ix persD persD (se_var 3) (se_var 8)) se_int) se_int) (se_var 7) (by rfl))))))))))) (fun _ _ _ _ _ => (se_var 7)))
  (sss_cons (ss_set 6 sc_law.nd (SF.se (sf_comp (own := [("row", 7)]) (is := [7]) rfl sc_law.nd (si_seq (se_var 5)) (blkOk_by (by kernel_rfl)) (by decide) (fun _ _ _ _ _ => (sg_name 7 sc_law.nd (hx := by first | exact .inl rfl | exact .inr rfl))) (fun _ _ _ _ _ => (sts_one (st_val (se_callB (cr_all rfl) un_all persD T.n_all rfl (SF.se (sf_comp (own := [("p", 8)]) (is := [8]) rfl sc_law.nd (si_seq (se_var 7)) (blkOk_by (by kernel_rfl)) (by decide) (fun _ _ _ _ _ => (sg_name 8 sc_law.nd (hx := by first | exact .inl rfl | exact .inr rfl))) (fun _ _ _ _ _ => sts_nil) (fun _ _ _ _ _ => (se_cmp (op_eqD hu4) bin_eq persD persD (se_call (ok__law_reached T) (hr.mono (by decide)) T.d__law_reached.mg T.d__law_reached.kp T.d__law_reached.bd takes0 (sax_d (se_var 3) (sax_d (se_var 8) sax_nil))) (SF.se (sf_callTy call_list_of un_list persD T.n_list rfl (se_var 7))) (by rfl))))))))) (fun _ _ _ _ _ => (se_var 7)))) (hx := by first | exact .inl rfl | exact .inr rfl))
  (sss_cons (ss_if (PW.pt (sw_or (st_cmp (op_neD hu4) bin_ne persD persD (se_callB (cr_repr hu hgd) un_repr persD T.n_repr rfl (se_call (ok_staying T) (hr.mono (by decide)) T.d_staying.mg T.d_staying.kp T.d_staying.bd tk (sax_d (se_var 3) sax_nil))) (se_callB (cr_repr hu hgd) un_repr persD T.n_repr rfl (se_callTy call_tuple_of un_tuple persD T.n_tuple rfl (se_var 5))) (by rfl)) (sw_or1 (st_cmp (op_neD hu4) bin_ne persD persD (se_callB (cr_repr hu hgd) un_repr persD T.n_repr rfl (se_call (ok_closed_sets T) (hr.mono (by decide)) T.d_closed_sets.mg T.d_closed_sets.kp T.d_closed_sets.bd tk (sax_d (se_var 3) sax_nil))) (se_callB (cr_repr hu hgd) un_repr persD T.n_repr rfl (se_callTy call_tuple_of un_tuple persD T.n_tuple rfl (se_var 6))) (by rfl))))) (sss_one (ss_ret se_bl)) sss_nil)
  (sss_one (ss_if (st_not (st_val (se_callB (cr_all rfl) un_all persD T.n_all rfl (SF.se (sf_comp (own := [("row", 7)]) (is := [7]) rfl sc_law.nd (si_seq (se_var 5)) (blkOk_by (by kernel_rfl)) (by decide) (fun _ _ _ _ _ => (sg_name 7 sc_law.nd (hx := by first | exact .inl rfl | exact .inr rfl))) (fun _ _ _ _ _ => sts_nil) (fun _ _ _ _ _ => (se_callB (cr_any rfl) un_any persD T.n_any rfl (SF.se (sf_comp (own := [("other", 9)]) (is := [9]) rfl sc_law.nd (si_seq (se_var 6)) (blkOk_by (by kernel_rfl)) (by decide) (fun _ _ _ _ _ => (sg_name 9 sc_law.nd (hx := by first | exact .inl rfl | exact .inr rfl))) (fun _ _ _ _ _ => sts_nil) (fun _ _ _ _ _ => (se_callB (cr_all rfl) un_all persD T.n_all rfl (SF.se (sf_comp (own := [("p", 8)]) (is := [8]) rfl sc_law.nd (si_seq (se_var 9)) (blkOk_by (by kernel_rfl)) (by decide) (fun _ _ _ _ _ => (sg_name 8 sc_law.nd (hx := by first | exact .inl rfl | exact .inr rfl))) (fun _ _ _ _ _ => sts_nil) (fun _ _ _ _ _ => (se_cmp (op_inA hu) bin_in persD persD (se_var 8) (se_var 7) (by rfl)))))))))))))))) (sss_one (ss_ret se_bl)) sss_nil))))))))
  (sss_one (ss_ret (se_cmp (op_eqD hu4) bin_eq persD persD (SF.se (sf_comp (own := [("which", 10)]) (is := [10]) rfl sc_law.nd (si_seq (se_tup (sa_cons se_int (sa_cons se_int sa_nil)))) (blkOk_by (by kernel_rfl)) (by decide) (fun _ _ _ _ _ => (sg_name 10 sc_law.nd (hx := by first | exact .inl rfl | exact .inr rfl))) (fun _ _ _ _ _ => sts_nil) (fun _ _ _ _ _ => (se_call (ok__law_told T) (hr.mono (by decide)) T.d__law_told.mg T.d__law_told.kp T.d__law_told.bd takes0 (sax_d (se_var 10) (sax_d (se_call (ok__law_odd_box T) (hr.mono (by decide)) T.d__law_odd_box.mg T.d__law_odd_box.kp T.d__law_odd_box.bd takes0 (sax_v 1 sax_nil)) sax_nil)))))) (se_op op_mulA bin_mul persD persD (SF.se (sf_lst (sa_cons se_str sa_nil))) se_int) (by rfl))))) (hx := by first | exact .inl rfl | exact .inr rfl))
end
set_option maxHeartbeats 4000000 in
theorem all_mk {P : Program} {w : World} {K : PySem.W.Frag} {h : Heap} {mg : Str → Option Value} {fa : Addr} (ans : ∀ ns : List Int, ns.length ≤ 63 → runB 11 1 false m_law [.scr ns] none = some (.ok (.bool true), none)) (X : K.In h) (G : h.Ns mainGlobals mg) (hfa : mg "law" = some (.ref fa))
    {f0 : Addr} {od0 an0 : Option Addr} {sl0 : Array (Option Value)} {oc0 kV0 dc0 pm0 cd0 ct0 : Value} {f1 : Addr} {od1 an1 : Option Addr} {sl1 : Array (Option Value)} {oc1 kV1 dc1 pm1 cd1 ct1 : Value} {f2 : Addr} {od2 an2 : Option Addr} {sl2 : Array (Option Value)} {oc2 kV2 dc2 pm2 cd2 ct2 : Value} {f3 : Addr} {od3 an3 : Option Addr} {sl3 : Array (Option Value)} {oc3 kV3 dc3 pm3 cd3 ct3 : Value} {f4 : Addr} {od4 an4 : Option Addr} {sl4 : Array (Option Value)} {oc4 kV4 dc4 pm4 cd4 ct4 : Value} {f5 : Addr} {od5 an5 : Option Addr} {sl5 : Array (Option Value)} {oc5 kV5 dc5 pm5 cd5 ct5 : Value} {f6 : Addr} {od6 an6 : Option Addr} {sl6 : Array (Option Value)} {oc6 kV6 dc6 pm6 cd6 ct6 : Value} {f7 : Addr} {od7 an7 : Option Addr} {sl7 : Array (Option Value)} {oc7 kV7 dc7 pm7 cd7 ct7 : Value} {f8 : Addr} {od8 an8 : Option Addr} {sl8 : Array (Option Value)} {oc8 kV8 dc8 pm8 cd8 ct8 : Value} {f9 : Addr} {od9 an9 : Option Addr} {sl9 : Array (Option Value)} {oc9 kV9 dc9 pm9 cd9 ct9 : Value} {f10 : Addr} {od10 an10 : Option Addr} {sl10 : Array (Option Value)} {oc10 kV10 dc10 pm10 cd10 ct10 : Value} {f11 : Addr} {od11 an11 : Option Addr} {sl11 : Array (Option Value)} {oc11 kV11 dc11 pm11 cd11 ct11 : Value} {f12 : Addr} {od12 an12 : Option Addr} {sl12 : Array (Option Value)} {oc12 kV12 dc12 pm12 cd12 ct12 : Value} {f13 : Addr} {od13 an13 : Option Addr} {sl13 : Array (Option Value)} {oc13 kV13 dc13 pm13 cd13 ct13 : Value} {f14 : Addr} {od14 an14 : Option Addr} {sl14 : Array (Option Value)} {oc14 kV14 dc14 pm14 cd14 ct14 : Value} {f15 : Addr} {od15 an15 : Option Addr} {sl15 : Array (Option Value)} {oc15 kV15 dc15 pm15 cd15 ct15 : Value} {f16 : Addr} {od16 an16 : Option Addr} {sl16 : Array (Option Value)} {oc16 kV16 dc16 pm16 cd16 ct16 : Value} {f17 : Addr} {od17 an17 : Option Addr} {sl17 : Array (Option Value)} {oc17 kV17 dc17 pm17 cd17 ct17 : Value} {t0 : Tok} {q1 : Addr} {t1_0 t1_1 : Tok} {n1 : Nat} {s1 : Array (Option Value)} {cm : Addr}
    (a0 : PySem.W.nsIn K mainGlobals "_law_draw" = some (some (.ref f0))) (l0 : K.lookup f0 = some ⟨oc0, od0, .func (PySem.W.fnOf "_law_draw" "_law_draw" (defArgs s__law_draw) (defBody s__law_draw) (defScope s__law_draw) .none kV0 dc0 pm0 an0 cd0 ct0), sl0⟩) (c0 : PySem.W.codeIn K cd0 "_law_draw" = true) (k0 : PySem.W.keepIn K (.ref f0) = true)
    (a1 : PySem.W.nsIn K mainGlobals "_law_take" = some (some (.ref f1))) (l1 : K.lookup f1 = some ⟨oc1, od1, .func (PySem.W.fnOf "_law_take" "_law_take" (defArgs s__law_take) (defBody s__law_take) (defScope s__law_take) .none kV1 dc1 pm1 an1 cd1 ct1), sl1⟩) (c1 : PySem.W.codeIn K cd1 "_law_take" = true) (k1 : PySem.W.keepIn K (.ref f1) = true)
    (a2 : PySem.W.nsIn K mainGlobals "_law_order" = some (some (.ref f2))) (l2 : K.lookup f2 = some ⟨oc2, od2, .func (PySem.W.fnOf "_law_order" "_law_order" (defArgs s__law_order) (defBody s__law_order) (defScope s__law_order) .none kV2 dc2 pm2 an2 cd2 ct2), sl2⟩) (c2 : PySem.W.codeIn K cd2 "_law_order" = true) (k2 : PySem.W.keepIn K (.ref f2) = true)
    (a3 : PySem.W.nsIn K mainGlobals "_law_box" = some (some (.ref f3))) (l3 : K.lookup f3 = some ⟨oc3, od3, .func (PySem.W.fnOf "_law_box" "_law_box" (defArgs s__law_box) (defBody s__law_box) (defScope s__law_box) .none kV3 dc3 pm3 an3 cd3 ct3), sl3⟩) (c3 : PySem.W.codeIn K cd3 "_law_box" = true) (k3 : PySem.W.keepIn K (.ref f3) = true)
    (a4 : PySem.W.nsIn K mainGlobals "_law_sets" = some (some (.ref f4))) (l4 : K.lookup f4 = some ⟨oc4, od4, .func (PySem.W.fnOf "_law_sets" "_law_sets" (defArgs s__law_sets) (defBody s__law_sets) (defScope s__law_sets) .none kV4 dc4 pm4 an4 cd4 ct4), sl4⟩) (c4 : PySem.W.codeIn K cd4 "_law_sets" = true) (k4 : PySem.W.keepIn K (.ref f4) = true)
    (a5 : PySem.W.nsIn K mainGlobals "is_whole" = some (some (.ref f5))) (l5 : K.lookup f5 = some ⟨oc5, od5, .func (PySem.W.fnOf "is_whole" "is_whole" (defArgs s_is_whole) (defBody s_is_whole) (defScope s_is_whole) .none kV5 dc5 pm5 an5 cd5 ct5), sl5⟩) (c5 : PySem.W.codeIn K cd5 "is_whole" = true) (k5 : PySem.W.keepIn K (.ref f5) = true)
    (a6 : PySem.W.nsIn K mainGlobals "is_move" = some (some (.ref f6))) (l6 : K.lookup f6 = some ⟨oc6, od6, .func (PySem.W.fnOf "is_move" "is_move" (defArgs s_is_move) (defBody s_is_move) (defScope s_is_move) .none kV6 dc6 pm6 an6 cd6 ct6), sl6⟩) (c6 : PySem.W.codeIn K cd6 "is_move" = true) (k6 : PySem.W.keepIn K (.ref f6) = true)
    (a7 : PySem.W.nsIn K mainGlobals "is_box" = some (some (.ref f7))) (l7 : K.lookup f7 = some ⟨oc7, od7, .func (PySem.W.fnOf "is_box" "is_box" (defArgs s_is_box) (defBody s_is_box) (defScope s_is_box) .none kV7 dc7 pm7 an7 cd7 ct7), sl7⟩) (c7 : PySem.W.codeIn K cd7 "is_box" = true) (k7 : PySem.W.keepIn K (.ref f7) = true)
    (a8 : PySem.W.nsIn K mainGlobals "check_box" = some (some (.ref f8))) (l8 : K.lookup f8 = some ⟨oc8, od8, .func (PySem.W.fnOf "check_box" "check_box" (defArgs s_check_box) (defBody s_check_box) (defScope s_check_box) .none kV8 dc8 pm8 an8 cd8 ct8), sl8⟩) (c8 : PySem.W.codeIn K cd8 "check_box" = true) (k8 : PySem.W.keepIn K (.ref f8) = true)
    (a9 : PySem.W.nsIn K mainGlobals "sets_of" = some (some (.ref f9))) (l9 : K.lookup f9 = some ⟨oc9, od9, .func (PySem.W.fnOf "sets_of" "sets_of" (defArgs s_sets_of) (defBody s_sets_of) (defScope s_sets_of) .none kV9 dc9 pm9 an9 cd9 ct9), sl9⟩) (c9 : PySem.W.codeIn K cd9 "sets_of" = true) (k9 : PySem.W.keepIn K (.ref f9) = true)
    (a10 : PySem.W.nsIn K mainGlobals "does_stay" = some (some (.ref f10))) (l10 : K.lookup f10 = some ⟨oc10, od10, .func (PySem.W.fnOf "does_stay" "does_stay" (defArgs s_does_stay) (defBody s_does_stay) (defScope s_does_stay) .none kV10 dc10 pm10 an10 cd10 ct10), sl10⟩) (c10 : PySem.W.codeIn K cd10 "does_stay" = true) (k10 : PySem.W.keepIn K (.ref f10) = true)
    (a11 : PySem.W.nsIn K mainGlobals "found_staying" = some (some (.ref f11))) (l11 : K.lookup f11 = some ⟨oc11, od11, .func (PySem.W.fnOf "found_staying" "found_staying" (defArgs s_found_staying) (defBody s_found_staying) (defScope s_found_staying) .none kV11 dc11 pm11 an11 cd11 ct11), sl11⟩) (c11 : PySem.W.codeIn K cd11 "found_staying" = true) (k11 : PySem.W.keepIn K (.ref f11) = true)
    (a12 : PySem.W.nsIn K mainGlobals "staying" = some (some (.ref f12))) (l12 : K.lookup f12 = some ⟨oc12, od12, .func (PySem.W.fnOf "staying" "staying" (defArgs s_staying) (defBody s_staying) (defScope s_staying) .none kV12 dc12 pm12 an12 cd12 ct12), sl12⟩) (c12 : PySem.W.codeIn K cd12 "staying" = true) (k12 : PySem.W.keepIn K (.ref f12) = true)
    (a13 : PySem.W.nsIn K mainGlobals "closed_sets" = some (some (.ref f13))) (l13 : K.lookup f13 = some ⟨oc13, od13, .func (PySem.W.fnOf "closed_sets" "closed_sets" (defArgs s_closed_sets) (defBody s_closed_sets) (defScope s_closed_sets) .none kV13 dc13 pm13 an13 cd13 ct13), sl13⟩) (c13 : PySem.W.codeIn K cd13 "closed_sets" = true) (k13 : PySem.W.keepIn K (.ref f13) = true)
    (a14 : PySem.W.nsIn K mainGlobals "_law_told" = some (some (.ref f14))) (l14 : K.lookup f14 = some ⟨oc14, od14, .func (PySem.W.fnOf "_law_told" "_law_told" (defArgs s__law_told) (defBody s__law_told) (defScope s__law_told) .none kV14 dc14 pm14 an14 cd14 ct14), sl14⟩) (c14 : PySem.W.codeIn K cd14 "_law_told" = true) (k14 : PySem.W.keepIn K (.ref f14) = true)
    (a15 : PySem.W.nsIn K mainGlobals "_law_odd_box" = some (some (.ref f15))) (l15 : K.lookup f15 = some ⟨oc15, od15, .func (PySem.W.fnOf "_law_odd_box" "_law_odd_box" (defArgs s__law_odd_box) (defBody s__law_odd_box) (defScope s__law_odd_box) .none kV15 dc15 pm15 an15 cd15 ct15), sl15⟩) (c15 : PySem.W.codeIn K cd15 "_law_odd_box" = true) (k15 : PySem.W.keepIn K (.ref f15) = true)
    (a16 : PySem.W.nsIn K mainGlobals "_law_reached" = some (some (.ref f16))) (l16 : K.lookup f16 = some ⟨oc16, od16, .func (PySem.W.fnOf "_law_reached" "_law_reached" (defArgs s__law_reached) (defBody s__law_reached) (defScope s__law_reached) .none kV16 dc16 pm16 an16 cd16 ct16), sl16⟩) (c16 : PySem.W.codeIn K cd16 "_law_reached" = true) (k16 : PySem.W.keepIn K (.ref f16) = true)
    (a17 : PySem.W.nsIn K mainGlobals "law" = some (some (.ref f17))) (l17 : K.lookup f17 = some ⟨oc17, od17, .func (PySem.W.fnOf "law" "law" (defArgs s_law) (defBody s_law) (defScope s_law) .none kV17 dc17 pm17 an17 cd17 ct17), sl17⟩) (c17 : PySem.W.codeIn K cd17 "law" = true) (k17 : PySem.W.keepIn K (.ref f17) = true)
    (z0 : PySem.W.nsIn K mainGlobals "abs" = some none)
    (z1 : PySem.W.nsIn K mainGlobals "all" = some none)
    (z2 : PySem.W.nsIn K mainGlobals "any" = some none)
    (z3 : PySem.W.nsIn K mainGlobals "bool" = some none)
    (z4 : PySem.W.nsIn K mainGlobals "int" = some none)
    (z5 : PySem.W.nsIn K mainGlobals "isinstance" = some none)
    (z6 : PySem.W.nsIn K mainGlobals "len" = some none)
    (z7 : PySem.W.nsIn K mainGlobals "list" = some none)
    (z8 : PySem.W.nsIn K mainGlobals "range" = some none)
    (z9 : PySem.W.nsIn K mainGlobals "repr" = some none)
    (z10 : PySem.W.nsIn K mainGlobals "set" = some none)
    (z11 : PySem.W.nsIn K mainGlobals "sorted" = some none)
    (z12 : PySem.W.nsIn K mainGlobals "tuple" = some none)
    (g0 : PySem.W.nsIn K mainGlobals "MOST_STATES" = some (some (.int 5 t0)))
    (g1 : PySem.W.nsIn K mainGlobals "INPUTS" = some (some (.ref q1))) (h1 : K.lookup q1 = some ⟨.type "tuple", none, .seq #[.int 0 t1_0, .int 1 t1_1] n1, s1⟩)
    (xg : PySem.W.nsIn K mainGlobals "Malformed" = some (some (.ref cm))) (xq : PySem.W.excIn K cm [.type "ValueError", .type "Exception", .type "BaseException", .type "object"] "ValueError.__new__" = true) (xk : PySem.W.keepIn K (.ref cm) = true) (xb : PySem.W.subIn K (.ref cm) (.type "BaseException") = some true) (xt : PySem.W.typeIn K (.ref cm) = some (.type "type")) (xi : PySem.W.isClsIn K cm = true) (xs : PySem.W.subIn K (.ref cm) (.ref cm) = some true)
    : ∃ C st N fd m, LawTxt P w K mg fa 7 C st N fd m := by
  have e := hfa.symm.trans (PySem.W.mg_of X G a17)
  cases e
  have F0 := fun_mk (st := s__law_draw) l0 c0 k0
  have F1 := fun_mk (st := s__law_take) l1 c1 k1
  have F2 := fun_mk (st := s__law_order) l2 c2 k2
  have F3 := fun_mk (st := s__law_box) l3 c3 k3
  have F4 := fun_mk (st := s__law_sets) l4 c4 k4
  have F5 := fun_mk (st := s_is_whole) l5 c5 k5
  have F6 := fun_mk (st := s_is_move) l6 c6 k6
  have F7 := fun_mk (st := s_is_box) l7 c7 k7
  have F8 := fun_mk (st := s_check_box) l8 c8 k8
  have F9 := fun_mk (st := s_sets_of) l9 c9 k9
  have F10 := fun_mk (st := s_does_stay) l10 c10 k10
  have F11 := fun_mk (st := s_found_staying) l11 c11 k11
  have F12 := fun_mk (st := s_staying) l12 c12 k12
  have F13 := fun_mk (st := s_closed_sets) l13 c13 k13
  have F14 := fun_mk (st := s__law_told) l14 c14 k14
  have F15 := fun_mk (st := s__law_odd_box) l15 c15 k15
  have F16 := fun_mk (st := s__law_reached) l16 c16 k16
  have F17 := fun_mk (st := s_law) l17 c17 k17
  have T : Tx K mg { f__law_draw := f0, fd__law_draw := _, f__law_take := f1, fd__law_take := _, f__law_order := f2, fd__law_order := _, f__law_box := f3, fd__law_box := _, f__law_sets := f4, fd__law_sets := _, f_is_whole := f5, fd_is_whole := _, f_is_move := f6, fd_is_move := _, f_is_box := f7, fd_is_box := _, f_check_box := f8, fd_check_box := _, f_sets_of := f9, fd_sets_of := _, f_does_stay := f10, fd_does_stay := _, f_found_staying := f11, fd_found_staying := _, f_staying := f12, fd_staying := _, f_closed_sets := f13, fd_closed_sets := _, f__law_told := f14, fd__law_told := _, f__law_odd_box := f15, fd__law_odd_box := _, f__law_reached := f16, fd__law_reached := _, f_law := fa, fd_law := _, c := ⟨cm, cm, cm⟩ } := {
    d__law_draw := ⟨F0, PySem.W.mg_of X G a0, k0, F0.binds (ps := ["script"]) fun _ _ _ _ _ _ us hl => match us, hl with | [_], _ => rfl⟩
    d__law_take := ⟨F1, PySem.W.mg_of X G a1, k1, F1.binds (ps := ["draw", "many"]) fun _ _ _ _ _ _ us hl => match us, hl with | [_, _], _ => rfl⟩
    d__law_order := ⟨F2, PySem.W.mg_of X G a2, k2, F2.binds (ps := ["draw", "many"]) fun _ _ _ _ _ _ us hl => match us, hl with | [_, _], _ => rfl⟩
    d__law_box := ⟨F3, PySem.W.mg_of X G a3, k3, F3.binds (ps := ["draw", "most"]) fun _ _ _ _ _ _ us hl => match us, hl with | [_, _], _ => rfl⟩
    d__law_sets := ⟨F4, PySem.W.mg_of X G a4, k4, F4.binds (ps := ["many"]) fun _ _ _ _ _ _ us hl => match us, hl with | [_], _ => rfl⟩
    d_is_whole := ⟨F5, PySem.W.mg_of X G a5, k5, F5.binds (ps := ["value"]) fun _ _ _ _ _ _ us hl => match us, hl with | [_], _ => rfl⟩
    d_is_move := ⟨F6, PySem.W.mg_of X G a6, k6, F6.binds (ps := ["value", "many"]) fun _ _ _ _ _ _ us hl => match us, hl with | [_, _], _ => rfl⟩
    d_is_box := ⟨F7, PySem.W.mg_of X G a7, k7, F7.binds (ps := ["value"]) fun _ _ _ _ _ _ us hl => match us, hl with | [_], _ => rfl⟩
    d_check_box := ⟨F8, PySem.W.mg_of X G a8, k8, F8.binds (ps := ["value"]) fun _ _ _ _ _ _ us hl => match us, hl with | [_], _ => rfl⟩
    d_sets_of := ⟨F9, PySem.W.mg_of X G a9, k9, F9.binds (ps := ["many"]) fun _ _ _ _ _ _ us hl => match us, hl with | [_], _ => rfl⟩
    d_does_stay := ⟨F10, PySem.W.mg_of X G a10, k10, F10.binds (ps := ["box", "states"]) fun _ _ _ _ _ _ us hl => match us, hl with | [_, _], _ => rfl⟩
    d_found_staying := ⟨F11, PySem.W.mg_of X G a11, k11, F11.binds (ps := ["box"]) fun _ _ _ _ _ _ us hl => match us, hl with | [_], _ => rfl⟩
    d_staying := ⟨F12, PySem.W.mg_of X G a12, k12, F12.binds (ps := ["box"]) fun _ _ _ _ _ _ us hl => match us, hl with | [_], _ => rfl⟩
    d_closed_sets := ⟨F13, PySem.W.mg_of X G a13, k13, F13.binds (ps := ["box"]) fun _ _ _ _ _ _ us hl => match us, hl with | [_], _ => rfl⟩
    d__law_told := ⟨F14, PySem.W.mg_of X G a14, k14, F14.binds (ps := ["which", "box"]) fun _ _ _ _ _ _ us hl => match us, hl with | [_, _], _ => rfl⟩
    d__law_odd_box := ⟨F15, PySem.W.mg_of X G a15, k15, F15.binds (ps := ["draw"]) fun _ _ _ _ _ _ us hl => match us, hl with | [_], _ => rfl⟩
    d__law_reached := ⟨F16, PySem.W.mg_of X G a16, k16, F16.binds (ps := ["box", "state"]) fun _ _ _ _ _ _ us hl => match us, hl with | [_, _], _ => rfl⟩
    d_law := ⟨F17, PySem.W.mg_of X G a17, k17, F17.binds (ps := ["script"]) fun _ _ _ _ _ _ us hl => match us, hl with | [_], _ => rfl⟩
    n_abs := PySem.W.mg_none_of X G z0
    n_all := PySem.W.mg_none_of X G z1
    n_any := PySem.W.mg_none_of X G z2
    n_bool := PySem.W.mg_none_of X G z3
    n_int := PySem.W.mg_none_of X G z4
    n_isinstance := PySem.W.mg_none_of X G z5
    n_len := PySem.W.mg_none_of X G z6
    n_list := PySem.W.mg_none_of X G z7
    n_range := PySem.W.mg_none_of X G z8
    n_repr := PySem.W.mg_none_of X G z9
    n_set := PySem.W.mg_none_of X G z10
    n_sorted := PySem.W.mg_none_of X G z11
    n_tuple := PySem.W.mg_none_of X G z12
    g_MOST_STATES := ⟨_, .int 5, PySem.W.mg_of X G g0, ⟨_, rfl⟩, fun _ _ => .int _⟩
    g_INPUTS := ⟨_, .ref q1, PySem.W.mg_of X G g1, rfl, fun _ _ => .tup (xs := [.int 0, .int 1]) (.inr ⟨_, _, _, h1, rfl, rfl, Nat.le_trans (show 2 ≤ 16777216 by decide) (Nat.le_of_eq sizeLine_eq.symm), (.cons ⟨_, rfl⟩ (.cons ⟨_, rfl⟩ .nil))⟩) (Nat.le_trans (show 2 ≤ 16777216 by decide) (Nat.le_of_eq sizeLine_eq.symm)) (.cons (.int _) (.cons (.int _) .nil))⟩
    x_m := ⟨PySem.W.mg_of X G xg, xq, xk, fun {Y} e => raises_own (by rw [e]; exact xb) (by rw [e]; exact xt), fun y cls d H q => by cases y <;> (obtain ⟨rfl, _⟩ := q; exact exm_own xb xi xt xs)⟩
  }
  exact ⟨_, s_law, _, _, m_law, T.d_law.fn, sc_law, fun s v => .of_eq rfl, body_law T, ans⟩
end Lw

open PySem PySem.W PyProof.Rows
set_option maxRecDepth 100000 in
set_option maxHeartbeats 0 in
theorem PySem.Challenge.cw_boxkinds_k54_whole_sets_that_stay_holds : PySem.Challenge.rw_boxkinds_k54_whole_sets_that_stay.Holds := by
  w_on; o_law; k_head; (case hw => w_witness2)
  k_fill
  refine DL.walk_law (l := PySem.Challenge.rw_boxkinds_k54_whole_sets_that_stay) (k := 7) rfl rfl ⟨rfl, by decide, by decide⟩ (fun w h Y => PySem.W.kIn_of Y) ?F
  case F =>
    intro w mg fa h KX G hmg
    refine' Lw.all_mk Lw.ans KX G hmg ?va0 ?vl0 ?vc0 ?vk0 ?va1 ?vl1 ?vc1 ?vk1 ?va2 ?vl2 ?vc2 ?vk2 ?va3 ?vl3 ?vc3 ?vk3 ?va4 ?vl4 ?vc4 ?vk4 ?va5 ?vl5 ?vc5 ?vk5 ?va6 ?vl6 ?vc6 ?vk6 ?va7 ?vl7 ?vc7 ?vk7 ?va8 ?vl8 ?vc8 ?vk8 ?va9 ?vl9 ?vc9 ?vk9 ?va10 ?vl10 ?vc10 ?vk10 ?va11 ?vl11 ?vc11 ?vk11 ?va12 ?vl12 ?vc12 ?vk12 ?va13 ?vl13 ?vc13 ?vk13 ?va14 ?vl14 ?vc14 ?vk14 ?va15 ?vl15 ?vc15 ?vk15 ?va16 ?vl16 ?vc16 ?vk16 ?va17 ?vl17 ?vc17 ?vk17 ?vz0 ?vz1 ?vz2 ?vz3 ?vz4 ?vz5 ?vz6 ?vz7 ?vz8 ?vz9 ?vz10 ?vz11 ?vz12 ?vg0 ?vg1 ?vh1 ?vxg ?vxq ?vxk ?vxb ?vxt ?vxi ?vxs
    (case va0 => k_is)
    (case vl0 => k_is)
    (case vc0 => k_is)
    (case vk0 => k_is)
    (case va1 => k_is)
    (case vl1 => k_is)
    (case vc1 => k_is)
    (case vk1 => k_is)
    (case va2 => k_is)
    (case vl2 => k_is)
    (case vc2 => k_is)
    (case vk2 => k_is)
    (case va3 => k_is)
    (case vl3 => k_is)
    (case vc3 => k_is)
    (case vk3 => k_is)
    (case va4 => k_is)
    (case vl4 => k_is)
    (case vc4 => k_is)
    (case vk4 => k_is)
    (case va5 => k_is)
    (case vl5 => k_is)
    (case vc5 => k_is)
    (case vk5 => k_is)
    (case va6 => k_is)
    (case vl6 => k_is)
    (case vc6 => k_is)
    (case vk6 => k_is)
    (case va7 => k_is)
    (case vl7 => k_is)
    (case vc7 => k_is)
    (case vk7 => k_is)
    (case va8 => k_is)
    (case vl8 => k_is)
    (case vc8 => k_is)
    (case vk8 => k_is)
    (case va9 => k_is)
    (case vl9 => k_is)
    (case vc9 => k_is)
    (case vk9 => k_is)
    (case va10 => k_is)
    (case vl10 => k_is)
    (case vc10 => k_is)
    (case vk10 => k_is)
    (case va11 => k_is)
    (case vl11 => k_is)
    (case vc11 => k_is)
    (case vk11 => k_is)
    (case va12 => k_is)
    (case vl12 => k_is)
    (case vc12 => k_is)
    (case vk12 => k_is)
    (case va13 => k_is)
    (case vl13 => k_is)
    (case vc13 => k_is)
    (case vk13 => k_is)
    (case va14 => k_is)
    (case vl14 => k_is)
    (case vc14 => k_is)
    (case vk14 => k_is)
    (case va15 => k_is)
    (case vl15 => k_is)
    (case vc15 => k_is)
    (case vk15 => k_is)
    (case va16 => k_is)
    (case vl16 => k_is)
    (case vc16 => k_is)
    (case vk16 => k_is)
    (case va17 => k_is)
    (case vl17 => k_is)
    (case vc17 => k_is)
    (case vk17 => k_is)
    (case vz0 => k_is)
    (case vz1 => k_is)
    (case vz2 => k_is)
    (case vz3 => k_is)
    (case vz4 => k_is)
    (case vz5 => k_is)
    (case vz6 => k_is)
    (case vz7 => k_is)
    (case vz8 => k_is)
    (case vz9 => k_is)
    (case vz10 => k_is)
    (case vz11 => k_is)
    (case vz12 => k_is)
    (case vg0 => k_is)
    (case vg1 => k_is)
    (case vh1 => k_is)
    (case vxg => k_is)
    (case vxq => k_exc)
    (case vxk => k_is)
    (case vxb => k_is)
    (case vxt => k_is)
    (case vxi => k_is)
    (case vxs => k_is)
