import PyProof.Rows.All
import HandS.ForMost
import HandS.ForExc
import HandS.Deep
import HandS.IsInst
import HandS.TupAny
import HandS.Conv
import HandS.TupMul
import HandS.SortInts
import PyProof.P3In
import KE.SortData
import HandS.SetFor
import HandS.Strs
import PyProof.ReprRoads
import KE.KDictDisplayH
import KE.KDictKeyed
import PySem.Challenge.RW_boxkinds_k69_whole_rows_behind_copies
set_option Elab.async false
set_option linter.all false
set_option maxRecDepth 100000

/-! DL1: the data layer: deep data in the heap, a frame's state, readings by meaning. -/
namespace DL
open PySem PySem.Spec L2
open PyProof.Rows hiding St

/-! ### data in the heap -/
mutual
inductive Df (K : PySem.W.Frag) (H : Hp) (g : Addr → Prop) : V → PyData → Prop
  | non : Df K H g .non .none
  | bl (b : Bool) : Df K H g (.bl b) (.bool b)
  | int (i : Int) : Df K H g (.int i) (.int i)
  | str (x : Str) : Df K H g (.str x) (.str x)
  | lst {a : Addr} {xs : List V} {ds : List PyData} : g a → H a = some (.lst xs) → xs.length ≤ sizeLine → DfAll K H g xs ds → Df K H g (.ref a) (.list ds)
  | tup {a : Addr} {xs : List V} {ds : List PyData} : H a = some (.tup xs) → xs.length ≤ sizeLine → DfAll K H g xs ds → Df K H g (.ref a) (.tuple ds)
inductive DfAll (K : PySem.W.Frag) (H : Hp) (g : Addr → Prop) : List V → List PyData → Prop
  | nil : DfAll K H g [] []
  | cons {v : V} {vs : List V} {d : PyData} {ds : List PyData} : Df K H g v d → DfAll K H g vs ds → DfAll K H g (v :: vs) (d :: ds)
end

section
variable {K : PySem.W.Frag} {H H' : Hp} {g g' : Addr → Prop}
theorem DfAll.length {g : Addr → Prop} : ∀ {vs : List V} {ds : List PyData}, DfAll K H g vs ds → vs.length = ds.length
  | _, _, .nil => rfl
  | _, _, .cons _ t => by rw [List.length_cons, List.length_cons, DfAll.length t]
mutual
theorem Df.mono (hl : ∀ a u, g a → H a = some (.lst u) → g' a ∧ H' a = some (.lst u)) (ht : ∀ a u, H a = some (.tup u) → H' a = some (.tup u)) : ∀ {d : PyData} {v : V}, Df K H g v d → Df K H' g' v d
  | _, _, .non => .non
  | _, _, .bl b => .bl b
  | _, _, .int i => .int i
  | _, _, .str x => .str x
  | _, _, .lst h1 h2 h3 h4 => .lst (hl _ _ h1 h2).1 (hl _ _ h1 h2).2 h3 (DfAll.mono hl ht h4)
  | _, _, .tup h1 h2 h3 => .tup (ht _ _ h1) h2 (DfAll.mono hl ht h3)
theorem DfAll.mono (hl : ∀ a u, g a → H a = some (.lst u) → g' a ∧ H' a = some (.lst u)) (ht : ∀ a u, H a = some (.tup u) → H' a = some (.tup u)) : ∀ {ds : List PyData} {vs : List V}, DfAll K H g vs ds → DfAll K H' g' vs ds
  | _, _, .nil => .nil
  | _, _, .cons h1 h2 => .cons (Df.mono hl ht h1) (DfAll.mono hl ht h2)
end
mutual
theorem Df.dp : ∀ {d : PyData} {v : V}, Df K H g v d → Dp K H v d
  | _, _, .non => .non
  | _, _, .bl b => .bl b
  | _, _, .int i => .int i
  | _, _, .str x => .str x
  | _, _, .lst _ h2 _ h4 => .lst (.inl (.inl h2)) (DfAll.dp h4)
  | _, _, .tup h1 _ h3 => .tup (.inl (.inl h1)) (DfAll.dp h3)
theorem DfAll.dp : ∀ {ds : List PyData} {vs : List V}, DfAll K H g vs ds → DpAll K H vs ds
  | _, _, .nil => .nil
  | _, _, .cons h1 h2 => .cons (Df.dp h1) (DfAll.dp h2)
end
theorem Df.avoid {p : Addr} (h : H p = none) {v : V} {d : PyData} (x : Df K H g v d) : Df K H (fun a => g a ∧ a ≠ p) v d := x.mono (fun a u q e => ⟨⟨q, ne_of_none e h⟩, e⟩) fun _ _ q => q
theorem DfAll.avoid {p : Addr} (h : H p = none) {v : List V} {d : List PyData} (x : DfAll K H g v d) : DfAll K H (fun a => g a ∧ a ≠ p) v d := x.mono (fun a u q e => ⟨⟨q, ne_of_none e h⟩, e⟩) fun _ _ q => q
theorem DfAll.unavoid {p : Addr} {v : List V} {d : List PyData} (x : DfAll K H (fun a => g a ∧ a ≠ p) v d) : DfAll K H g v d := x.mono (fun a u q e => ⟨q.1, e⟩) fun _ _ q => q
theorem DfAll.get : ∀ {vs : List V} {ds : List PyData} {i : Nat} {d : PyData}, DfAll K H g vs ds → ds[i]? = some d → ∃ v, vs[i]? = some v ∧ Df K H g v d
  | _, _, _, _, .nil, e => by simp at e
  | _, _, 0, _, .cons h _, e => by simp at e; subst e; exact ⟨_, rfl, h⟩
  | _, _, i + 1, d, .cons _ t, e => by
    obtain ⟨v, h1, h2⟩ := DfAll.get (i := i) (d := d) t (by simpa using e)
    exact ⟨v, by simpa using h1, h2⟩
theorem DfAll.getV : ∀ {vs : List V} {ds : List PyData} {i : Nat} {v : V}, DfAll K H g vs ds → vs[i]? = some v → ∃ d, ds[i]? = some d ∧ Df K H g v d
  | _, _, _, _, .nil, e => by simp at e
  | _, _, 0, _, .cons h _, e => by simp at e; subst e; exact ⟨_, rfl, h⟩
  | _, _, i + 1, d, .cons _ t, e => by
    obtain ⟨v, h1, h2⟩ := DfAll.getV (i := i) (v := d) t (by simpa using e)
    exact ⟨v, by simpa using h1, h2⟩
theorem DfAll.append : ∀ {vs us : List V} {ds es : List PyData}, DfAll K H g vs ds → DfAll K H g us es → DfAll K H g (vs ++ us) (ds ++ es)
  | _, _, _, _, .nil, s => s
  | _, _, _, _, .cons h t, s => .cons h (DfAll.append t s)
theorem DfAll.take : ∀ {vs : List V} {ds : List PyData} (n : Nat), DfAll K H g vs ds → DfAll K H g (vs.take n) (ds.take n)
  | _, _, 0, _ => .nil
  | _, _, _ + 1, .nil => .nil
  | _, _, n + 1, .cons h t => .cons h (DfAll.take n t)
theorem DfAll.drop : ∀ {vs : List V} {ds : List PyData} (n : Nat), DfAll K H g vs ds → DfAll K H g (vs.drop n) (ds.drop n)
  | _, _, 0, h => h
  | _, _, _ + 1, .nil => .nil
  | _, _, n + 1, .cons _ t => DfAll.drop n t
theorem DfAll.set : ∀ {vs : List V} {ds : List PyData} {v : V} {d : PyData} (n : Nat), DfAll K H g vs ds → Df K H g v d → DfAll K H g (vs.set n v) (ds.set n d)
  | _, _, _, _, _, .nil, _ => .nil
  | _, _, _, _, 0, .cons _ t, h => .cons h t
  | _, _, _, _, n + 1, .cons h t, q => .cons h (DfAll.set n t q)
theorem DfAll.of_ints : ∀ ns : List Int, DfAll K H g (ns.map V.int) (ns.map PyData.int)
  | [] => .nil
  | n :: r => .cons (.int n) (DfAll.of_ints r)
theorem DfAll.ints_inv : ∀ {ns : List Int} {vs : List V}, DfAll K H g vs (ns.map PyData.int) → vs = ns.map V.int
  | [], _, .nil => rfl
  | n :: r, _, .cons (.int _) t => by rw [DfAll.ints_inv t]; rfl
theorem DfAll.bls_inv : ∀ {ns : List Bool} {vs : List V}, DfAll K H g vs (ns.map PyData.bool) → vs = ns.map V.bl
  | [], _, .nil => rfl
  | n :: r, _, .cons (.bl _) t => by rw [DfAll.bls_inv t]; rfl
end

/-! ### the state of a def that runs -/
/-- the errors of the program -/
inductive Exn where
  | malformed
  | refused (r : Str)
  | noText (at_ : Int)
/-- what stands in a slot: nothing told, data, a list of one's own, one that is walked, the draw -/
inductive Sl where
  | un
  | d (x : PyData)
  | l (xs : List PyData)
  | lk (xs : List PyData)
  | dc (t : Bool) (kvs : List (List Int × PyData))
  | drw
  | scr (ns : List Int)
/-- the draw: the cells, then the place, the cell that is used up, the seed -/
structure DSt where
  cells : List Int
  place : Int
  cur : Int
  seed : Int
abbrev DS := Option DSt
inductive Out (α : Type) where
  | ok (a : α)
  | exc (x : Exn)
abbrev Ev := List Sl
abbrev Rz (α : Type) := Option (Out α × DS)
abbrev ME (α : Type) := Ev → DS → Rz α
def Rz.bind {α β : Type} (a : Rz α) (f : α → DS → Rz β) : Rz β :=
  match a with
  | some (.ok x, ds) => f x ds
  | some (.exc e, ds) => some (.exc e, ds)
  | none => none
def ME.bind {α β : Type} (a : ME α) (f : α → ME β) : ME β := fun env ds => (a env ds).bind fun x ds' => f x env ds'
def ME.pure {α : Type} (x : α) : ME α := fun _ ds => some (.ok x, ds)
def ME.lift {α : Type} (x : Option α) : ME α := fun _ ds => match x with
  | some a => some (.ok a, ds)
  | none => none

/-- the addresses of the errors' classes -/
structure Exs where
  m : Addr
  r : Addr
  n : Addr
def ExR (C : Exs) (x : Exn) (cls : Value) (d : Option Addr) (H : Hp) : Prop :=
  match x with
  | .malformed => cls = .ref C.m ∧ d = none
  | .refused r => cls = .ref C.r ∧ ∃ a, d = some a ∧ H a = some (.xd [("reason", .str r)])
  | .noText i => cls = .ref C.n ∧ ∃ a, d = some a ∧ H a = some (.xd [("at", .int i)])

/-- a frame's fixed things: the good addresses, the heap at the entry, the draw's list and that of its cells, the slots whose lists are walked -/
structure Gm where
  ok : Addr → Prop
  H0 : Hp
  dr : Option (Addr × Addr)
  lk : List (Nat × Addr)
def Gm.nd (Γ : Gm) (a : Addr) : Prop := ∀ p, Γ.dr = some p → a ≠ p.1
def Sl.own : Sl → Bool
  | .l _ => true
  | .lk _ => true
  | .dc _ _ => true
  | _ => false
def owned (σ : St) (env : Ev) (a : Addr) : Prop := ∃ (i : Nat) (x : Sl), env[i]? = some x ∧ x.own = true ∧ σ[i]? = some (some (V.ref a))
def gd (Γ : Gm) (σ : St) (env : Ev) (a : Addr) : Prop := Γ.ok a ∧ ¬ owned σ env a ∧ Γ.nd a
/-- all but the draw is as it was -/
def Ext (Γ : Gm) (H H' : Hp) : Prop := ∀ a o, Γ.nd a → H a = some o → H' a = some o
def DrR (K : PySem.W.Frag) (Γ : Gm) (H : Hp) (ds : DS) : Prop :=
  match Γ.dr, ds with
  | none, none => True
  | some p, some s => H p.1 = some (.lst [.ref p.2, .int s.place, .int s.cur, .int s.seed]) ∧ H p.2 = some (.lst (s.cells.map V.int)) ∧ s.cells.length ≤ sizeLine ∧ p.2 ≠ p.1 ∧ Γ.ok p.2
  | _, _ => False
/-- the script stands at a -/
def ScrAt (K : PySem.W.Frag) (H : Hp) (a : Addr) (xs : List V) : Prop :=
  (∃ o, H a = some (.frz o (.lst xs))) ∨ ∃ (o : Obj) (its : Array Value) (n : Nat), K.lookup a = some o ∧ o.cls = .type "list" ∧ o.dict = none ∧ o.data = .seq its n ∧ its.size ≤ sizeLine ∧ Vals xs its.toList
theorem ScrAt.sq {K : PySem.W.Frag} {H : Hp} {a : Addr} {xs : List V} (h : ScrAt K H a xs) : SqL K H a xs := by
  rcases h with ⟨o, h⟩ | h
  · exact .inl (.inr ⟨o, h⟩)
  · exact .inr h
/-- a dict as an object: t: its keys are tuples of ints; else ints -/
def dcObj (t : Bool) (ks : List (List Int)) (us : List V) : HO := if t then .dT ((ks.map fun k => k.map Sum.inl).zip us) else .dK ((ks.map fun k => Sum.inl (k.headD 0)).zip us)
/-- what may change -/
def MutO (o : HO) : Prop := (∃ xs, o = .lst xs) ∨ ∃ t ks us, o = dcObj t ks us
theorem imm_tup {xs : List V} : ¬ MutO (.tup xs) := by
  rintro (⟨_, z⟩ | ⟨t, _, _, z⟩)
  · cases z
  · cases t <;> cases z
theorem imm_frz {o : Obj} {u : HO} : ¬ MutO (.frz o u) := by
  rintro (⟨_, z⟩ | ⟨t, _, _, z⟩)
  · cases z
  · cases t <;> cases z
def SlR (K : PySem.W.Frag) (Γ : Gm) (H : Hp) (g : Addr → Prop) (v : Option (Option V)) : Sl → Prop
  | .un => True
  | .d x => ∃ u, v = some (some u) ∧ Df K H g u x
  | .l xs => ∃ a us, v = some (some (.ref a)) ∧ H a = some (.lst us) ∧ DfAll K H g us xs ∧ us.length ≤ sizeLine ∧ Γ.H0 a = none ∧ Γ.nd a
  | .lk xs => ∃ a us, v = some (some (.ref a)) ∧ H a = some (.lst us) ∧ DfAll K H g us xs ∧ us.length ≤ sizeLine ∧ Γ.H0 a = none ∧ Γ.nd a
  | .dc t kvs => ∃ a us, v = some (some (.ref a)) ∧ H a = some (dcObj t (kvs.map (·.1)) us) ∧ DfAll K H g us (kvs.map (·.2)) ∧ kvs.length ≤ 1000000 ∧ Γ.H0 a = none ∧ Γ.nd a
  | .drw => ∃ p, Γ.dr = some p ∧ v = some (some (.ref p.1))
  | .scr ns => ∃ a, v = some (some (.ref a)) ∧ ScrAt K H a (ns.map V.int) ∧ ns.length ≤ 63
structure Rel (K : PySem.W.Frag) (Γ : Gm) (σ : St) (H : Hp) (env : Ev) (ds : DS) : Prop where
  len : σ.length = env.length
  slot : ∀ (i : Nat) (x : Sl), env[i]? = some x → SlR K Γ H (gd Γ σ env) σ[i]? x
  sep : ∀ (i j : Nat) (x y : Sl), i ≠ j → env[i]? = some x → env[j]? = some y → x.own = true → y.own = true → σ[i]? ≠ σ[j]?
  okf : ∀ a, Γ.H0 a = none → Γ.ok a
  ext : Ext Γ Γ.H0 H
  draw : DrR K Γ H ds
  drc : ∀ p, Γ.dr = some p → ¬ owned σ env p.2
  lkd : ∀ p ∈ Γ.lk, ∃ xs, env[p.1]? = some (.lk xs) ∧ σ[p.1]? = some (some (V.ref p.2))

section
variable {K : PySem.W.Frag} {Γ : Gm} {σ : St} {H H1 H2 : Hp} {env : Ev} {ds ds' : DS}
theorem Ext.refl : Ext Γ H H := fun _ _ _ h => h
theorem Ext.trans (a : Ext Γ H H1) (b : Ext Γ H1 H2) : Ext Γ H H2 := fun c o n h => b c o n (a c o n h)
theorem DrR.tracked (h : DrR K Γ H ds) {p : Addr × Addr} (e : Γ.dr = some p) : H p.1 ≠ none := by
  unfold DrR at h
  rw [e] at h
  cases ds with
  | none => exact h.elim
  | some s => intro z; rw [h.1] at z; cases z
theorem Rel.own_at (R : Rel K Γ σ H env ds) {a : Addr} (h : owned σ env a) : ∃ o, H a = some o ∧ MutO o ∧ Γ.H0 a = none ∧ Γ.nd a := by
  obtain ⟨i, x, hx, ho, hs⟩ := h
  have q := R.slot i x hx
  cases x with
  | l xs =>
    obtain ⟨b, us, e, h1, _, _, h2, h3⟩ := q
    rw [hs] at e
    cases e
    exact ⟨_, h1, .inl ⟨_, rfl⟩, h2, h3⟩
  | lk xs =>
    obtain ⟨b, us, e, h1, _, _, h2, h3⟩ := q
    rw [hs] at e
    cases e
    exact ⟨_, h1, .inl ⟨_, rfl⟩, h2, h3⟩
  | dc t kvs =>
    obtain ⟨b, us, e, h1, _, _, h2, h3⟩ := q
    rw [hs] at e
    cases e
    exact ⟨_, h1, .inr ⟨_, _, _, rfl⟩, h2, h3⟩
  | un => cases ho
  | d x => cases ho
  | drw => cases ho
  | scr ns => cases ho
/-- a new address is good -/
theorem Rel.new_gd (R : Rel K Γ σ H env ds) {a : Addr} (h : H a = none) : gd Γ σ env a := by
  have n : Γ.nd a := fun p e z => R.draw.tracked e (by rw [← z]; exact h)
  refine ⟨R.okf a ?_, fun o => ?_, n⟩
  · cases q : Γ.H0 a with
    | none => rfl
    | some o =>
      have := R.ext a o n q
      rw [h] at this
      cases this
  · obtain ⟨us, e, _⟩ := R.own_at o
    rw [h] at e
    cases e
theorem tup_ext (e : Ext Γ H H1) (d : DrR K Γ H ds) {a : Addr} {u : List V} (h : H a = some (.tup u)) : H1 a = some (.tup u) := by
  refine e _ _ (fun p z q => ?_) h
  unfold DrR at d
  rw [z] at d
  cases ds with
  | none => exact d.elim
  | some s =>
    have := d.1
    rw [← q, h] at this
    cases this
theorem sqT_ext (e : Ext Γ H H1) (d : DrR K Γ H ds) {a : Addr} {u : List V} (h : SqT K H a u) : SqT K H1 a u := by
  rcases h with (h | ⟨o, h⟩) | h
  · refine .inl (.inl (e _ _ (fun p z q => ?_) h))
    unfold DrR at d
    rw [z] at d
    cases ds with
    | none => exact d.elim
    | some s =>
      have := d.1
      rw [← q, h] at this
      cases this
  · refine .inl (.inr ⟨o, e _ _ (fun p z q => ?_) h⟩)
    unfold DrR at d
    rw [z] at d
    cases ds with
    | none => exact d.elim
    | some s =>
      have := d.1
      rw [← q, h] at this
      cases this
  · exact .inr h
theorem frz_ext (e : Ext Γ H H1) (d : DrR K Γ H ds) {a : Addr} {o : Obj} {u : HO} (h : H a = some (.frz o u)) : H1 a = some (.frz o u) := by
  refine e _ _ (fun p z q => ?_) h
  unfold DrR at d
  rw [z] at d
  cases ds with
  | none => exact d.elim
  | some s =>
    have := d.1
    rw [← q, h] at this
    cases this
theorem scr_ext (e : Ext Γ H H1) (d : DrR K Γ H ds) {a : Addr} {xs : List V} (h : ScrAt K H a xs) : ScrAt K H1 a xs := by
  rcases h with ⟨o, h⟩ | h
  · exact .inl ⟨o, frz_ext e d h⟩
  · exact .inr h
theorem Df.ext (e : Ext Γ H H1) (dr : DrR K Γ H ds) {v : V} {d : PyData} (h : Df K H (gd Γ σ env) v d) : Df K H1 (gd Γ σ env) v d :=
  h.mono (fun _ _ q r => ⟨q, e _ _ q.2.2 r⟩) fun _ _ q => tup_ext e dr q
theorem DfAll.ext (e : Ext Γ H H1) (dr : DrR K Γ H ds) {v : List V} {d : List PyData} (h : DfAll K H (gd Γ σ env) v d) : DfAll K H1 (gd Γ σ env) v d :=
  h.mono (fun _ _ q r => ⟨q, e _ _ q.2.2 r⟩) fun _ _ q => tup_ext e dr q
theorem Rel.go (R : Rel K Γ σ H env ds) (e : Ext Γ H H1) (d : DrR K Γ H1 ds') : Rel K Γ σ H1 env ds' where
  len := R.len
  slot := fun i x hx => by
    have q := R.slot i x hx
    cases x with
    | un => trivial
    | d y =>
      obtain ⟨u, e1, e2⟩ := q
      exact ⟨u, e1, e2.ext e R.draw⟩
    | l xs =>
      obtain ⟨a, us, e1, e2, e3, e4, e5, e6⟩ := q
      exact ⟨a, us, e1, e a _ e6 e2, e3.ext e R.draw, e4, e5, e6⟩
    | lk xs =>
      obtain ⟨a, us, e1, e2, e3, e4, e5, e6⟩ := q
      exact ⟨a, us, e1, e a _ e6 e2, e3.ext e R.draw, e4, e5, e6⟩
    | dc t0 xs =>
      obtain ⟨a, us, e1, e2, e3, e4, e5, e6⟩ := q
      exact ⟨a, us, e1, e a _ e6 e2, e3.ext e R.draw, e4, e5, e6⟩
    | drw => exact q
    | scr ns =>
      obtain ⟨a, e1, e2, e3⟩ := q
      exact ⟨a, e1, scr_ext e R.draw e2, e3⟩
  sep := R.sep
  okf := R.okf
  ext := R.ext.trans e
  draw := d
  drc := R.drc
  lkd := R.lkd
/-- a new object laid -/
theorem ext_new {p : Addr} {o : HO} (h : H p = none) : Ext Γ H (upd H p o) := fun a u _ q => by
  rw [upd_ne (ne_of_none q h)]
  exact q
theorem DrR.new {p : Addr} {o : HO} (d : DrR K Γ H ds) (h : H p = none) : DrR K Γ (upd H p o) ds := by
  unfold DrR at d ⊢
  cases e : Γ.dr with
  | none =>
    rw [e] at d
    cases ds with
    | none => trivial
    | some s => exact d
  | some q =>
    rw [e] at d
    cases ds with
    | none => exact d
    | some s =>
      obtain ⟨d1, d2, d3⟩ := d
      refine ⟨?_, ?_, d3⟩
      · rw [upd_ne (ne_of_none d1 h)]; exact d1
      · rw [upd_ne (ne_of_none d2 h)]; exact d2
end

/-! ### readings by meaning -/
def Aft (K : PySem.W.Frag) (C : Exs) (W : WX) (Γ : Gm) (σ : St) (H : Hp) {α : Type} (r : Rz α) (P : α → DS → Hp → Prop) : Prop :=
  match r with
  | some (.ok a, ds') => ∀ H', Ext Γ H H' → DrR K Γ H' ds' → P a ds' H'
  | some (.exc x, ds') => ∀ cls d H', Ext Γ H H' → DrR K Γ H' ds' → ExR C x cls d H' → W cls d σ H'
  | none => False
section
variable {K : PySem.W.Frag} {C : Exs} {W : WX} {Γ : Gm} {σ : St} {H H1 : Hp} {α β : Type}
theorem Aft.bind {r : Rz α} {f : α → DS → Rz β} {P : β → DS → Hp → Prop} (h : Aft K C W Γ σ H (r.bind f) P) : Aft K C W Γ σ H r fun a ds1 H1 => Aft K C W Γ σ H1 (f a ds1) P := by
  unfold Rz.bind at h
  unfold Aft at h ⊢
  rcases r with _ | ⟨a | x, ds⟩
  · exact h
  · intro H1 e1 d1
    dsimp only at h ⊢
    revert h
    rcases f a ds with _ | ⟨b | y, ds2⟩
    · exact fun h => h
    · exact fun h H2 e2 d2 => h H2 (e1.trans e2) d2
    · exact fun h cls d H2 e2 d2 => h cls d H2 (e1.trans e2) d2
  · exact h
theorem Aft.imp {r : Rz α} {P P' : α → DS → Hp → Prop} (h : Aft K C W Γ σ H r P) (f : ∀ a ds1 H1, Ext Γ H H1 → DrR K Γ H1 ds1 → P a ds1 H1 → P' a ds1 H1) : Aft K C W Γ σ H r P' := by
  unfold Aft at h ⊢
  rcases r with _ | ⟨a | x, ds⟩
  · exact h
  · exact fun H1 e1 d1 => f a ds H1 e1 d1 (h H1 e1 d1)
  · exact h
theorem Aft.here {a : α} {ds : DS} {P : α → DS → Hp → Prop} (h : Aft K C W Γ σ H (some (.ok a, ds)) P) (d : DrR K Γ H ds) : P a ds H := h H Ext.refl d
end
/-- a manner of data: what is known of a value behind an expression -/
abbrev Md := PySem.W.Frag → Gm → St → Ev → Hp → V → PyData → Prop
def MD : Md := fun K Γ σ env H v d => Df K H (gd Γ σ env) v d
/-- data whose outermost list may be one's own -/
def MP : Md := fun K Γ σ env H v d =>
  Df K H (gd Γ σ env) v d ∨ ∃ a xs ds, v = .ref a ∧ d = .list ds ∧ H a = some (.lst xs) ∧ Γ.nd a ∧ xs.length ≤ sizeLine ∧ DfAll K H (gd Γ σ env) xs ds
/-- the reading of an expression that gives data -/
def rdG (M : Md) (K : PySem.W.Frag) (C : Exs) (W : WX) (m : ME PyData) : TE := fun σ H Q => ∃ Γ env ds, Rel K Γ σ H env ds ∧
  Aft K C W Γ σ H (m env ds) fun d _ H' => ∀ v, M K Γ σ env H' v d → Q v H'
/-- the good addresses but one -/
def gdx (Γ : Gm) (σ : St) (env : Ev) (p a : Addr) : Prop := gd Γ σ env a ∧ a ≠ p
/-- a new list -/
def rdF (K : PySem.W.Frag) (C : Exs) (W : WX) (m : ME (List PyData)) : TE := fun σ H Q => ∃ Γ env ds, Rel K Γ σ H env ds ∧
  Aft K C W Γ σ H (m env ds) fun xs _ H' => ∀ a us, H a = none → H' a = some (.lst us) → us.length ≤ sizeLine → DfAll K H' (gdx Γ σ env a) us xs → Q (.ref a) H'
/-- a test -/
def rdT (K : PySem.W.Frag) (C : Exs) (W : WX) (m : ME Bool) : TT := fun σ H Q => ∃ Γ env ds, Rel K Γ σ H env ds ∧
  Aft K C W Γ σ H (m env ds) fun b _ H' => Q b H'
/-- arguments -/
def rdA (K : PySem.W.Frag) (C : Exs) (W : WX) (m : ME (List PyData)) : TA := fun σ H Q => ∃ Γ env ds, Rel K Γ σ H env ds ∧
  Aft K C W Γ σ H (m env ds) fun xs _ H' => ∀ vs, DfAll K H' (gd Γ σ env) vs xs → Q vs H'
abbrev SE (X : Cx) (C : Exs) (W : WX) (e : Expr) (m : ME PyData) : Prop := PE X e (rdG MD X.K C W m)
abbrev SP (X : Cx) (C : Exs) (W : WX) (e : Expr) (m : ME PyData) : Prop := PE X e (rdG MP X.K C W m)
abbrev SF (X : Cx) (C : Exs) (W : WX) (e : Expr) (m : ME (List PyData)) : Prop := PE X e (rdF X.K C W m)
abbrev ST (X : Cx) (C : Exs) (W : WX) (e : Expr) (m : ME Bool) : Prop := PT X e (rdT X.K C W m)
abbrev SA (X : Cx) (C : Exs) (W : WX) (es : List Expr) (m : ME (List PyData)) : Prop := PA X es (rdA X.K C W m)
theorem PE.imp {X : Cx} {e : Expr} {t t' : TE} (h : PE X e t) (f : ∀ σ H Q, t' σ H Q → t σ H Q) : PE X e t' := ⟨fun pins s σ H Q I q => h.run pins s σ H Q I (f σ H Q q)⟩
theorem PT.imp {X : Cx} {e : Expr} {t t' : TT} (h : PT X e t) (f : ∀ σ H Q, t' σ H Q → t σ H Q) : PT X e t' := ⟨fun pins s σ H Q I q => h.run pins s σ H Q I (f σ H Q q)⟩
theorem PA.imp {X : Cx} {e : List Expr} {t t' : TA} (h : PA X e t) (f : ∀ σ H Q, t' σ H Q → t σ H Q) : PA X e t' := ⟨fun pos pins s σ H Q I q => h.run pos pins s σ H Q I (f σ H Q q)⟩
end DL

/-! DL2: expressions by their meaning. -/
namespace DL
open PySem PySem.Spec L2
open PyProof.Rows hiding St

section
variable {K : PySem.W.Frag} {Γ : Gm} {σ : St} {H H1 : Hp} {env : Ev} {ds : DS}
/-- what a manner bears -/
structure Pers (M : Md) : Prop where
  ext : ∀ {K : PySem.W.Frag} {Γ : Gm} {σ : St} {env : Ev} {H H1 : Hp} {ds : DS} {v : V} {d : PyData}, Ext Γ H H1 → DrR K Γ H ds → M K Γ σ env H v d → M K Γ σ env H1 v d
  dp : ∀ {K : PySem.W.Frag} {Γ : Gm} {σ : St} {env : Ev} {H : Hp} {v : V} {d : PyData}, M K Γ σ env H v d → Dp K H v d
  pk : ∀ {K : PySem.W.Frag} {Γ : Gm} {σ : St} {env : Ev} {H : Hp} {v : V} {d : PyData}, M K Γ σ env H v d → MP K Γ σ env H v d
theorem persD : Pers MD where
  ext := fun e d h => Df.ext e d h
  dp := fun h => Df.dp h
  pk := fun h => .inl h
theorem persP : Pers MP where
  ext := fun e d h => by
    rcases h with h | ⟨a, xs, ds, e1, e2, e3, e4, e5, e6⟩
    · exact .inl (h.ext e d)
    · exact .inr ⟨a, xs, ds, e1, e2, e _ _ e4 e3, e4, e5, e6.ext e d⟩
  dp := fun h => by
    rcases h with h | ⟨a, xs, ds, e1, e2, e3, e4, e5, e6⟩
    · exact h.dp
    · subst e1 e2
      exact .lst (.inl (.inl e3)) e6.dp
  pk := fun h => h
/-- what is known of a value of a form -/
theorem MP.list (h : MP K Γ σ env H v (.list ds')) : ∃ a xs, v = .ref a ∧ H a = some (.lst xs) ∧ xs.length ≤ sizeLine ∧ DfAll K H (gd Γ σ env) xs ds' := by
  rcases h with h | ⟨a, xs, ds, e1, e2, e3, e4, e5, e6⟩
  · cases h with
    | lst h1 h2 h3 h4 => exact ⟨_, _, rfl, h2, h3, h4⟩
  · cases e2
    exact ⟨a, xs, e1, e3, e5, e6⟩
theorem MP.tuple (h : MP K Γ σ env H v (.tuple ds')) : ∃ a xs, v = .ref a ∧ H a = some (.tup xs) ∧ xs.length ≤ sizeLine ∧ DfAll K H (gd Γ σ env) xs ds' := by
  rcases h with h | ⟨a, xs, ds, e1, e2, e3, e4, e5, e6⟩
  · cases h with
    | tup h1 h2 h3 => exact ⟨_, _, rfl, h1, h2, h3⟩
  · cases e2
theorem MP.int {i : Int} (h : MP K Γ σ env H v (.int i)) : v = .int i := by
  rcases h with h | ⟨a, xs, ds, e1, e2, e3, e4, e5, e6⟩
  · cases h; rfl
  · cases e2
theorem MP.bool {i : Bool} (h : MP K Γ σ env H v (.bool i)) : v = .bl i := by
  rcases h with h | ⟨a, xs, ds, e1, e2, e3, e4, e5, e6⟩
  · cases h; rfl
  · cases e2
theorem MP.str {i : Str} (h : MP K Γ σ env H v (.str i)) : v = .str i := by
  rcases h with h | ⟨a, xs, ds, e1, e2, e3, e4, e5, e6⟩
  · cases h; rfl
  · cases e2
theorem MP.none (h : MP K Γ σ env H v .none) : v = .non := by
  rcases h with h | ⟨a, xs, ds, e1, e2, e3, e4, e5, e6⟩
  · cases h; rfl
  · cases e2
end

/-! ### the meanings -/
def mC (d : PyData) : ME PyData := ME.pure d
def mV (i : Nat) : ME PyData := fun env ds => match env[i]? with
  | some (.d x) => some (.ok x, ds)
  | _ => none
/-- a name read in passing -/
def mVp (i : Nat) : ME PyData := fun env ds => match env[i]? with
  | some (.d x) => some (.ok x, ds)
  | some (.l xs) => some (.ok (.list xs), ds)
  | some (.lk xs) => some (.ok (.list xs), ds)
  | _ => none
def mF (a : ME (List PyData)) : ME PyData := a.bind fun xs => ME.pure (.list xs)
def mOp (f : PyData → PyData → Option PyData) (a b : ME PyData) : ME PyData := a.bind fun x => b.bind fun y => ME.lift (f x y)
def mUn (f : PyData → Option PyData) (a : ME PyData) : ME PyData := a.bind fun x => ME.lift (f x)
def mTst (a : ME PyData) : ME Bool := a.bind fun x => ME.lift (match x with | .bool b => some b | _ => none)
def mB (a : ME Bool) : ME PyData := a.bind fun b => ME.pure (.bool b)
def mAnd (a b : ME Bool) : ME Bool := a.bind fun x => if x then b else ME.pure false
def mOr (a b : ME Bool) : ME Bool := a.bind fun x => if x then ME.pure true else b
def mNot (a : ME Bool) : ME Bool := a.bind fun x => ME.pure (!x)
def mIf {α : Type} (c : ME Bool) (a b : ME α) : ME α := c.bind fun x => if x then a else b
def mNil : ME (List PyData) := ME.pure []
def mCons (a : ME PyData) (b : ME (List PyData)) : ME (List PyData) := a.bind fun x => b.bind fun xs => ME.pure (x :: xs)
def short (n : Nat) : Bool := decide (n ≤ sizeLine)
def mTup (a : ME (List PyData)) : ME PyData := a.bind fun xs => ME.lift (if short xs.length then some (.tuple xs) else none)
def mLst (a : ME (List PyData)) : ME (List PyData) := a.bind fun xs => ME.lift (if short xs.length then some xs else none)

section
variable {X : Cx} {C : Exs} {W : WX} {e a b c : Expr} {ma mb mc : ME PyData} {M M1 M2 : Md} {pos : Pos}

theorem lift_some {K : PySem.W.Frag} {C : Exs} {W : WX} {Γ : Gm} {σ : St} {H : Hp} {α : Type} {x : Option α} {env : Ev} {ds : DS} {P : α → DS → Hp → Prop} (h : Aft K C W Γ σ H (ME.lift x env ds) P) : ∃ y, x = some y ∧ ∀ H', Ext Γ H H' → DrR K Γ H' ds → P y ds H' := by
  cases x with
  | none => exact h.elim
  | some y => exact ⟨y, rfl, h⟩

theorem se_var (i : Nat) {x : Str} {pos : Pos} (hN : X.N[i]? = some x := by rfl) (hv : Vis X.env.scope x := by first | exact Or.inl rfl | exact Or.inr (Or.inl rfl) | exact Or.inr (Or.inr rfl)) (hd : (x == ("__debug__" : Str)) = false := by decide)
    (hcd : (x == ("__classdict__" : Str)) = false := by decide) : SE X C W (.Name x pos) (mV i) := by
  refine PE.imp (pe_var hN hv hd hcd) fun σ H Q ⟨Γ, env, ds, R, h⟩ => ?_
  unfold mV at h
  cases q : env[i]? with
  | none => rw [q] at h; exact h.elim
  | some x =>
    rw [q] at h
    have s := R.slot i x q
    cases x with
    | d y =>
      obtain ⟨u, e1, e2⟩ := s
      exact ⟨u, e1, Aft.here h R.draw u e2⟩
    | _ => exact h.elim
theorem sp_var (i : Nat) {x : Str} {pos : Pos} (hN : X.N[i]? = some x := by rfl) (hv : Vis X.env.scope x := by first | exact Or.inl rfl | exact Or.inr (Or.inl rfl) | exact Or.inr (Or.inr rfl)) (hd : (x == ("__debug__" : Str)) = false := by decide)
    (hcd : (x == ("__classdict__" : Str)) = false := by decide) : SP X C W (.Name x pos) (mVp i) := by
  refine PE.imp (pe_var hN hv hd hcd) fun σ H Q ⟨Γ, env, ds, R, h⟩ => ?_
  unfold mVp at h
  cases q : env[i]? with
  | none => rw [q] at h; exact h.elim
  | some x =>
    rw [q] at h
    have s := R.slot i x q
    cases x with
    | d y =>
      obtain ⟨u, e1, e2⟩ := s
      exact ⟨u, e1, Aft.here h R.draw u (.inl e2)⟩
    | l xs =>
      obtain ⟨a, us, e1, e2, e3, e4, e5, e6⟩ := s
      exact ⟨_, e1, Aft.here h R.draw _ (.inr ⟨a, us, xs, rfl, rfl, e2, e6, e4, e3⟩)⟩
    | lk xs =>
      obtain ⟨a, us, e1, e2, e3, e4, e5, e6⟩ := s
      exact ⟨_, e1, Aft.here h R.draw _ (.inr ⟨a, us, xs, rfl, rfl, e2, e6, e4, e3⟩)⟩
    | _ => exact h.elim
/-- data is data in passing -/
theorem SE.sp (h : SE X C W e ma) : SP X C W e ma := PE.imp h fun σ H Q ⟨Γ, env, ds, R, h⟩ => ⟨Γ, env, ds, R, h.imp fun d ds1 H1 _ _ q v hv => q v (.inl hv)⟩
/-- a new list is data -/
theorem SF.se {m : ME (List PyData)} (h : SF X C W e m) : SE X C W e (mF m) := PE.imp h fun σ H Q ⟨Γ, env, ds, R, h⟩ => ⟨Γ, env, ds, R, h.bind.imp fun d ds1 H1 e1 d1 q a us ha h2 h3 h4 =>
  Aft.here q d1 _ (.lst (R.new_gd ha) h2 h3 h4.unavoid)⟩
theorem se_c {v : V} {d : PyData} (h : PE X e (tC v)) (hd : ∀ H g, Df X.K H g v d) : SE X C W e (mC d) := PE.imp h fun σ H Q ⟨Γ, env, ds, R, h⟩ => Aft.here h R.draw _ (hd _ _)
theorem se_int {i : Int} {j : Nat} : SE X C W (.Constant (.int i) j pos) (mC (.int i)) := se_c pe_int fun _ _ => .int i
theorem se_bl {i : Bool} {j : Nat} : SE X C W (.Constant (.bool i) j pos) (mC (.bool i)) := se_c pe_bl fun _ _ => .bl i
theorem se_str {i : Str} {j : Nat} : SE X C W (.Constant (.str i) j pos) (mC (.str i)) := se_c pe_str fun _ _ => .str i
theorem se_non {j : Nat} : SE X C W (.Constant .none j pos) (mC .none) := se_c pe_non fun _ _ => .non
/-- a constant of the module -/
theorem se_glob {x : Str} {v : V} {u : Value} {d : PyData} (hm : X.mg x = some u) (r : RelV v u) (hd : ∀ H g, Df X.K H g v d) (hg : Gl X x := by rfl) (hdb : (x == ("__debug__" : Str)) = false := by decide) : SE X C W (.Name x pos) (mC d) := se_c (pe_glob hg hm r hdb) hd

/-! operators by what their values ask -/
def Bin (K : PySem.W.Frag) (r : R2) (f : PyData → PyData → Option PyData) : Prop :=
  ∀ (Γ : Gm) (σ : St) (H : Hp) (env : Ev) (ds : DS), Rel K Γ σ H env ds → ∀ (x y : V) (d e z : PyData), MP K Γ σ env H x d → MP K Γ σ env H y e → f d e = some z →
    ∀ Q : VK, (∀ v H', Ext Γ H H' → DrR K Γ H' ds → Df K H' (gd Γ σ env) v z → Q v H') → r x y H Q
theorem Bin.same {K : PySem.W.Frag} {r : R2} {f : PyData → PyData → Option PyData}
    (h : ∀ (Γ : Gm) (σ : St) (H : Hp) (env : Ev) (ds : DS), Rel K Γ σ H env ds → ∀ (x y : V) (d e z : PyData), MP K Γ σ env H x d → MP K Γ σ env H y e → f d e = some z → ∀ Q : VK, (∀ v, Df K H (gd Γ σ env) v z → Q v H) → r x y H Q) : Bin K r f :=
  fun Γ σ H env ds R x y d e z hx hy hf Q q => h Γ σ H env ds R x y d e z hx hy hf Q fun v hv => q v H Ext.refl R.draw hv
theorem bin_rd {K : PySem.W.Frag} {r : R2} {f : PyData → PyData → Option PyData} (hr : Bin K r f) (p1 : Pers M1) (p2 : Pers M2) {σ : St} {H : Hp} {Q : VK} (h : rdG MD K C W (mOp f ma mb) σ H Q) :
    tOp r (rdG M1 K C W ma) (rdG M2 K C W mb) σ H Q := by
  obtain ⟨Γ, env, ds, R, h⟩ := h
  refine ⟨Γ, env, ds, R, h.bind.imp fun d ds1 H1 e1 d1 q x hx => ?_⟩
  have R1 := R.go e1 d1
  refine ⟨Γ, env, ds1, R1, q.bind.imp fun e' ds2 H2 e2 d2 q y hy => ?_⟩
  obtain ⟨z, hz, q⟩ := lift_some q
  exact hr Γ σ H2 env ds2 (R1.go e2 d2) x y d e' z (p1.pk (p1.ext e2 d1 hx)) (p2.pk hy) hz Q fun v H3 e3 d3 hv => q H3 e3 d3 v hv
theorem se_op {op : Operator} {r : R2} {f : PyData → PyData → Option PyData} (ho : OpR X (binaryOp op) r) (hr : Bin X.K r f) (p1 : Pers M1) (p2 : Pers M2) (ha : PE X a (rdG M1 X.K C W ma)) (hb : PE X b (rdG M2 X.K C W mb)) : SE X C W (.BinOp a op b pos) (mOp f ma mb) :=
  PE.imp (pe_op ho ha hb) fun _ _ _ h => bin_rd hr p1 p2 h
theorem se_cmp {op : CmpOp} {r : R2} {f : PyData → PyData → Option PyData} (ho : OpR X (compareOp op) r) (hr : Bin X.K r f) (p1 : Pers M1) (p2 : Pers M2) (ha : PE X a (rdG M1 X.K C W ma)) (hb : PE X b (rdG M2 X.K C W mb)) (hm : behindInMarks op b = false) : SE X C W (.Compare a [op] [b] pos) (mOp f ma mb) :=
  PE.imp (pe_cmpR ho ha hb hm) fun _ _ _ h => bin_rd hr p1 p2 h
theorem tst_rd {K : PySem.W.Frag} {t : TE} {m : ME PyData} (ht : ∀ σ H Q, rdG MD K C W m σ H Q → t σ H Q) {σ : St} {H : Hp} {Q : Bool → Hp → Prop} (h : rdT K C W (mTst m) σ H Q) : t σ H fun x H' => ∃ k, x = .bl k ∧ Q k H' := by
  obtain ⟨Γ, env, ds, R, h⟩ := h
  refine ht σ H _ ⟨Γ, env, ds, R, h.bind.imp fun d ds1 H1 e1 d1 q x hx => ?_⟩
  obtain ⟨z, hz, q⟩ := lift_some q
  cases d with
  | bool k =>
    cases hx
    cases hz
    exact ⟨_, rfl, q H1 Ext.refl d1⟩
  | _ => cases hz
/-- a value that is True or False, as a test -/
theorem st_val (h : SE X C W e ma) (he : ∀ whole, isTrue e X.env whole = (do let v ← whole; standAt e.pos; holding [v] (truthy v)) := by intro _; rfl) : ST X C W e (mTst ma) :=
  PT.imp (pt_val h he) fun σ H Q h => by
    obtain h := tst_rd (t := rdG MD X.K C W ma) (fun _ _ _ z => z) h
    exact h
theorem st_cmp {op : CmpOp} {r : R2} {f : PyData → PyData → Option PyData} (ho : OpR X (compareOp op) r) (hr : Bin X.K r f) (p1 : Pers M1) (p2 : Pers M2) (ha : PE X a (rdG M1 X.K C W ma)) (hb : PE X b (rdG M2 X.K C W mb)) (hm : behindInMarks op b = false) : ST X C W (.Compare a [op] [b] pos) (mTst (mOp f ma mb)) :=
  PT.imp (pt_cmpR ho ha hb hm) fun _ _ _ h => tst_rd (fun _ _ _ z => bin_rd hr p1 p2 z) h
/-- a < b < c -/
def mChain (f f' : PyData → PyData → Option PyData) (a b c : ME PyData) : ME PyData := a.bind fun x => b.bind fun y => (ME.lift (f x y)).bind fun z => match z with
  | .bool true => c.bind fun u => ME.lift (f' y u)
  | .bool false => ME.pure (.bool false)
  | _ => ME.lift none
theorem chain_rd {K : PySem.W.Frag} {r r' : R2} {f f' : PyData → PyData → Option PyData} (hr : Bin K r f) (hr' : Bin K r' f') {σ : St} {H : Hp} {Q : VK} (h : rdG MD K C W (mChain f f' ma mb mc) σ H Q) :
    tChain r r' (rdG MD K C W ma) (rdG MD K C W mb) (rdG MD K C W mc) σ H Q := by
  obtain ⟨Γ, env, ds, R, h⟩ := h
  refine ⟨Γ, env, ds, R, h.bind.imp fun d ds1 H1 e1 d1 q x hx => ?_⟩
  have R1 := R.go e1 d1
  refine ⟨Γ, env, ds1, R1, q.bind.imp fun e' ds2 H2 e2 d2 q y hy => ?_⟩
  have R2 := R1.go e2 d2
  obtain ⟨z, hz, q⟩ := lift_some (Aft.bind q)
  refine hr Γ σ H2 env ds2 R2 x y d e' z (.inl (hx.ext e2 d1)) (.inl hy) hz _ fun v H3 e3 d3 hv => ?_
  have q := q H3 e3 d3
  have R3 := R2.go e3 d3
  cases z with
  | bool k =>
    cases hv
    refine ⟨k, rfl, ?_⟩
    cases k with
    | true =>
      rw [if_pos rfl]
      refine ⟨Γ, env, ds2, R3, q.bind.imp fun u ds4 H4 e4 d4 q w hw => ?_⟩
      obtain ⟨z2, hz2, q⟩ := lift_some q
      exact hr' Γ σ H4 env ds4 (R3.go e4 d4) y w e' u z2 (.inl ((hy.ext e3 d2).ext e4 d3)) (.inl hw) hz2 Q fun v H5 e5 d5 hv => q H5 e5 d5 v hv
    | false =>
      rw [if_neg Bool.false_ne_true]
      exact Aft.here q d3 _ (.bl false)
  | _ => exact q.elim
theorem se_chain {op op' : CmpOp} {r r' : R2} {f f' : PyData → PyData → Option PyData} (ho : OpR X (compareOp op) r) (ho' : OpR X (compareOp op') r') (hr : Bin X.K r f) (hr' : Bin X.K r' f') (ha : SE X C W a ma) (hb : SE X C W b mb) (hc : SE X C W c mc) (hm : lastMarks [op, op'] [b, c] = false := by with_unfolding_all rfl) : SE X C W (.Compare a [op, op'] [b, c] pos) (mChain f f' ma mb mc) :=
  PE.imp (pe_chain ho ho' ha hb hc hm) fun _ _ _ h => chain_rd hr hr' h
theorem st_chain {op op' : CmpOp} {r r' : R2} {f f' : PyData → PyData → Option PyData} (ho : OpR X (compareOp op) r) (ho' : OpR X (compareOp op') r') (hr : Bin X.K r f) (hr' : Bin X.K r' f') (ha : SE X C W a ma) (hb : SE X C W b mb) (hc : SE X C W c mc) (hm : lastMarks [op, op'] [b, c] = false := by with_unfolding_all rfl) : ST X C W (.Compare a [op, op'] [b, c] pos) (mTst (mChain f f' ma mb mc)) :=
  PT.imp (pt_chain ho ho' ha hb hc hm) fun _ _ _ h => tst_rd (fun _ _ _ z => chain_rd hr hr' z) h
end
end DL

/-! DL3: operators, displays, subscripts, slices, tests, calls of built-ins. -/
namespace DL
open PySem PySem.Spec L2
open PyProof.Rows hiding St

/-! ### what the operators give -/
def fAdd : PyData → PyData → Option PyData
  | .int i, .int j => some (.int (i + j))
  | .tuple a, .tuple b => if short (a.length + b.length) then some (.tuple (a ++ b)) else none
  | .list a, .list b => if short (a.length + b.length) then some (.list (a ++ b)) else none
  | .str a, .str b => if short (a.length + b.length) then some (.str (a ++ b)) else none
  | _, _ => none
def fSub : PyData → PyData → Option PyData
  | .int i, .int j => some (.int (i - j))
  | _, _ => none
def fMul : PyData → PyData → Option PyData
  | .int i, .int j => if decide (-(2 ^ 64) < i ∧ i < 2 ^ 64) || decide (-(2 ^ 64) < j ∧ j < 2 ^ 64) then some (.int (i * j)) else none
  | .list a, .int k => if decide (k.natAbs ≤ 1000) && decide (a.length ≤ 1000) then some (.list (List.replicate k.toNat a).flatten) else none
  | .tuple a, .int k => if !a.isEmpty && decide (2 ≤ k ∧ k ≤ 1000) && decide (a.length ≤ 1000) then some (.tuple (List.replicate k.toNat a).flatten) else none
  | _, _ => none
def fFdiv : PyData → PyData → Option PyData
  | .int i, .int j => if decide (0 < j ∧ j < 1073741824) then some (.int (i / j)) else none
  | _, _ => none
def fMod : PyData → PyData → Option PyData
  | .int i, .int j => if decide (0 < j) then some (.int (i % j)) else none
  | _, _ => none
def fShl : PyData → PyData → Option PyData
  | .int i, .int j => if decide (0 ≤ j ∧ j ≤ 1000 ∧ i.natAbs < 2 ^ 64) then some (.int (i * 2 ^ j.toNat)) else none
  | _, _ => none
def fLt : PyData → PyData → Option PyData
  | .int i, .int j => some (.bool (decide (i < j)))
  | .str i, .str j => some (.bool (decide (i.cps.toList < j.cps.toList)))
  | _, _ => none
def fLe : PyData → PyData → Option PyData
  | .int i, .int j => some (.bool (decide (i ≤ j)))
  | .str i, .str j => some (.bool (!decide (j.cps.toList < i.cps.toList)))
  | _, _ => none
def fGt : PyData → PyData → Option PyData
  | .int i, .int j => some (.bool (decide (j < i)))
  | _, _ => none
def fGe : PyData → PyData → Option PyData
  | .int i, .int j => some (.bool (decide (j ≤ i)))
  | _, _ => none
def fEq (d e : PyData) : Option PyData := if SeqAt.shaped d && SeqAt.shaped e then some (.bool (PyData.eqv d e)) else none
def fNe (d e : PyData) : Option PyData := if SeqAt.shaped d && SeqAt.shaped e then some (.bool (!PyData.eqv d e)) else none
def fIn (d e : PyData) : Option PyData := match e with
  | .list ds => if SeqAt.shaped d && SeqAt.shaped (.list ds) then some (.bool (ds.any fun z => PyData.eqv z d)) else none
  | .tuple ds => if SeqAt.shaped d && SeqAt.shaped (.tuple ds) then some (.bool (ds.any fun z => PyData.eqv z d)) else none
  | _ => none
def fNotIn (d e : PyData) : Option PyData := match e with
  | .list ds => if SeqAt.shaped d && SeqAt.shaped (.list ds) then some (.bool (!ds.any fun z => PyData.eqv z d)) else none
  | .tuple ds => if SeqAt.shaped d && SeqAt.shaped (.tuple ds) then some (.bool (!ds.any fun z => PyData.eqv z d)) else none
  | _ => none
def isNone : PyData → Bool
  | .none => true
  | _ => false
def fIs (d e : PyData) : Option PyData := match e with
  | .none => some (.bool (isNone d))
  | _ => none
def fIsNot (d e : PyData) : Option PyData := match e with
  | .none => some (.bool (!isNone d))
  | _ => none
def fIx : PyData → PyData → Option PyData
  | .tuple xs, .int i => atI xs i
  | .list xs, .int i => atI xs i
  | .str z, .int i => if short z.length then (atI z.cps.toList i).map fun c => .str ⟨#[c]⟩ else none
  | _, _ => none
def fNeg : PyData → Option PyData
  | .int i => some (.int (-i))
  | _ => none

section
variable {X : Cx} {C : Exs} {W : WX} {K : PySem.W.Frag}
/-- a new tuple, a new list of data -/
theorem new_tup {Γ : Gm} {σ : St} {H : Hp} {env : Ev} {ds : DS} {us : List V} {xs : List PyData} (R : Rel K Γ σ H env ds) (h : DfAll K H (gd Γ σ env) us xs) (hl : us.length ≤ sizeLine) {p : Addr} (hp : H p = none) :
    Ext Γ H (upd H p (.tup us)) ∧ DrR K Γ (upd H p (.tup us)) ds ∧ Df K (upd H p (.tup us)) (gd Γ σ env) (.ref p) (.tuple xs) :=
  ⟨ext_new hp, R.draw.new hp, .tup upd_same hl (h.ext (ext_new hp) R.draw)⟩
theorem new_lst {Γ : Gm} {σ : St} {H : Hp} {env : Ev} {ds : DS} {us : List V} {xs : List PyData} (R : Rel K Γ σ H env ds) (h : DfAll K H (gd Γ σ env) us xs) (hl : us.length ≤ sizeLine) {p : Addr} (hp : H p = none) :
    Ext Γ H (upd H p (.lst us)) ∧ DrR K Γ (upd H p (.lst us)) ds ∧ Df K (upd H p (.lst us)) (gd Γ σ env) (.ref p) (.list xs) :=
  ⟨ext_new hp, R.draw.new hp, .lst (R.new_gd hp) upd_same hl (h.ext (ext_new hp) R.draw)⟩

theorem len_eq {H : Hp} {g : Addr → Prop} {us : List V} {xs : List PyData} (h : DfAll K H g us xs) : us.length = xs.length := h.length
theorem short_iff {n : Nat} (h : short n = true) : n ≤ sizeLine := of_decide_eq_true h

def rAddA (K : PySem.W.Frag) : R2 := fun x y H Q => (rI0 fun i j => .int (i + j)) x y H Q ∨ rCatA K x y H Q ∨ (∃ i j, x = .str i ∧ y = .str j ∧ i.length + j.length ≤ sizeLine ∧ Q (.str (i ++ j)) H) ∨ rCat x y H Q
theorem op_addA : OpR X (binaryOp .Add) (rAddA X.K) := .or op_add (.or op_catA (.or op_add_str op_cat))
theorem bin_add : Bin K (rAddA K) fAdd := by
  intro Γ σ H env ds R x y d e z hx hy hf Q q
  unfold fAdd at hf
  split at hf
  · obtain rfl := hx.int
    obtain rfl := hy.int
    cases hf
    exact .inl ⟨_, _, rfl, rfl, q _ H Ext.refl R.draw (.int _)⟩
  · obtain ⟨a, us, rfl, hS, hl, hA⟩ := hx.tuple
    obtain ⟨b, ws, rfl, hS2, hl2, hA2⟩ := hy.tuple
    split at hf
    · rename_i hs
      cases hf
      have hs := short_iff hs
      rw [← hA.length, ← hA2.length] at hs
      refine .inr (.inl ⟨a, b, us, ws, rfl, rfl, SqT.of hS, SqT.of hS2, hs, fun z => ?_, fun _ z => ?_, fun _ _ p hp => ?_⟩)
      · subst z
        cases hA
        exact q _ H Ext.refl R.draw (.tup hS2 hl2 hA2)
      · subst z
        cases hA2
        rw [List.append_nil] at q
        exact q _ H Ext.refl R.draw (.tup hS hl hA)
      · obtain ⟨e1, d1, h1⟩ := new_tup R (hA.append hA2) (by rw [List.length_append]; exact hs) hp
        exact q _ _ e1 d1 h1
    · cases hf
  · obtain ⟨a, us, rfl, hS, hl, hA⟩ := hx.list
    obtain ⟨b, ws, rfl, hS2, hl2, hA2⟩ := hy.list
    split at hf
    · rename_i hs
      cases hf
      have hs := short_iff hs
      rw [← hA.length, ← hA2.length] at hs
      refine .inr (.inr (.inr ⟨a, b, us, ws, rfl, rfl, hS, hS2, hs, fun p hp => ?_⟩))
      obtain ⟨e1, d1, h1⟩ := new_lst R (hA.append hA2) (by rw [List.length_append]; exact hs) hp
      exact q _ _ e1 d1 h1
    · cases hf
  · obtain rfl := hx.str
    obtain rfl := hy.str
    split at hf
    · rename_i hs
      cases hf
      exact .inr (.inr (.inl ⟨_, _, rfl, rfl, short_iff hs, q _ H Ext.refl R.draw (.str _)⟩))
    · cases hf
  · cases hf
theorem bin_sub : Bin K (rI0 fun i j => .int (i - j)) fSub := Bin.same fun Γ σ H env ds R x y d e z hx hy hf Q q => by
  unfold fSub at hf
  split at hf
  · obtain rfl := hx.int
    obtain rfl := hy.int
    cases hf
    exact ⟨_, _, rfl, rfl, q _ (.int _)⟩
  · cases hf
theorem DfAll.rep {H : Hp} {g : Addr → Prop} {us : List V} {xs : List PyData} (h : DfAll K H g us xs) : ∀ n : Nat, DfAll K H g (List.replicate n us).flatten (List.replicate n xs).flatten
  | 0 => .nil
  | n + 1 => by
    rw [List.replicate_succ, List.replicate_succ, List.flatten_cons, List.flatten_cons]
    exact h.append (DfAll.rep h n)
def rMulA (K : PySem.W.Frag) : R2 := fun x y H Q => (rI CMul fun i j => .int (i * j)) x y H Q ∨ rRep x y H Q ∨ rRepT K x y H Q
theorem op_mulA : OpR X (binaryOp .Mult) (rMulA X.K) := .or op_mul (.or op_rep op_repT)
theorem rep_short {us : List V} {k : Int} (h1 : k.natAbs ≤ 1000) (h2 : us.length ≤ 1000) : us.length * k.toNat ≤ sizeLine := by
  have h3 : k.toNat ≤ 1000 := by omega
  have h4 : us.length * k.toNat ≤ 1000 * 1000 := Nat.mul_le_mul h2 h3
  have h5 : (1000 * 1000 : Nat) ≤ sizeLine := by decide
  omega
theorem absLe {k : Int} (h : 2 ≤ k ∧ k ≤ 1000) : k.natAbs ≤ 1000 := by omega
theorem bin_mul : Bin K (rMulA K) fMul := by
  intro Γ σ H env ds R x y d e z hx hy hf Q q
  unfold fMul at hf
  split at hf
  · obtain rfl := hx.int
    obtain rfl := hy.int
    split at hf
    · rename_i hc
      cases hf
      rw [Bool.or_eq_true] at hc
      refine .inl ⟨_, _, rfl, rfl, ?_, q _ H Ext.refl R.draw (.int _)⟩
      rcases hc with hc | hc
      · exact .inl (of_decide_eq_true hc)
      · exact .inr (of_decide_eq_true hc)
    · cases hf
  · obtain ⟨a, us, rfl, hS, hl, hA⟩ := hx.list
    obtain rfl := hy.int
    split at hf
    · rename_i hc
      cases hf
      rw [Bool.and_eq_true] at hc
      have h1 := of_decide_eq_true hc.1
      have h2 := of_decide_eq_true hc.2
      rw [← hA.length] at h2
      have h3 := rep_short h1 h2
      refine .inr (.inl ⟨a, _, us, rfl, rfl, hS, by omega, by omega, h3, fun p hp => ?_⟩)
      obtain ⟨e1, d1, q1⟩ := new_lst R (hA.rep _) (by rw [PyProof.Rows.lm_len_rep_flat, Nat.mul_comm]; exact h3) hp
      exact q _ _ e1 d1 q1
    · cases hf
  · obtain ⟨a, us, rfl, hS, hl, hA⟩ := hx.tuple
    obtain rfl := hy.int
    split at hf
    · rename_i hc
      cases hf
      rw [Bool.and_eq_true, Bool.and_eq_true] at hc
      have h1 := of_decide_eq_true hc.1.2
      have h2 := of_decide_eq_true hc.2
      have hne : us ≠ [] := fun z => by
        subst z
        cases hA
        exact absurd hc.1.1 (by decide)
      rw [← hA.length] at h2
      have h4 := absLe h1
      refine .inr (.inr ⟨a, _, us, rfl, rfl, SqT.of hS, hne, h1.1, h1.2, h2, fun p hp => ?_⟩)
      obtain ⟨e1, d1, q1⟩ := new_tup R (hA.rep _) (by rw [PyProof.Rows.lm_len_rep_flat, Nat.mul_comm]; exact rep_short h4 h2) hp
      exact q _ _ e1 d1 q1
    · cases hf
  · cases hf
theorem bin_fdiv : Bin K (rI CDiv fun i j => .int (i / j)) fFdiv := Bin.same fun Γ σ H env ds R x y d e z hx hy hf Q q => by
  unfold fFdiv at hf
  split at hf
  · obtain rfl := hx.int
    obtain rfl := hy.int
    split at hf
    · rename_i hc
      cases hf
      have hd := of_decide_eq_true hc
      exact ⟨_, _, rfl, rfl, hd, q _ (.int _)⟩
    · cases hf
  · cases hf
theorem bin_mod : Bin K (rI (fun _ j => 0 < j) fun i j => .int (i % j)) fMod := Bin.same fun Γ σ H env ds R x y d e z hx hy hf Q q => by
  unfold fMod at hf
  split at hf
  · obtain rfl := hx.int
    obtain rfl := hy.int
    split at hf
    · rename_i hc
      cases hf
      exact ⟨_, _, rfl, rfl, of_decide_eq_true hc, q _ (.int _)⟩
    · cases hf
  · cases hf
theorem bin_shl : Bin K (rI CPow fun i j => .int (i * 2 ^ j.toNat)) fShl := Bin.same fun Γ σ H env ds R x y d e z hx hy hf Q q => by
  unfold fShl at hf
  split at hf
  · obtain rfl := hx.int
    obtain rfl := hy.int
    split at hf
    · rename_i hc
      cases hf
      have h := of_decide_eq_true hc
      exact ⟨_, _, rfl, rfl, ⟨h.1, by omega, h.2.2⟩, q _ (.int _)⟩
    · cases hf
  · cases hf
def rLtA : R2 := fun x y H Q => (rI0 fun i j => .bl (decide (i < j))) x y H Q ∨ (∃ i j, x = .str i ∧ y = .str j ∧ Q (.bl (decide (i.cps.toList < j.cps.toList))) H)
theorem op_ltA : OpR X (compareOp .Lt) rLtA := .or op_lt op_lt_str
theorem bin_lt : Bin K rLtA fLt := Bin.same fun Γ σ H env ds R x y d e z hx hy hf Q q => by
  unfold fLt at hf
  split at hf
  · obtain rfl := hx.int
    obtain rfl := hy.int
    cases hf
    exact .inl ⟨_, _, rfl, rfl, q _ (.bl _)⟩
  · obtain rfl := hx.str
    obtain rfl := hy.str
    cases hf
    exact .inr ⟨_, _, rfl, rfl, q _ (.bl _)⟩
  · cases hf
def rLeA : R2 := fun x y H Q => (rI0 fun i j => .bl (decide (i ≤ j))) x y H Q ∨ (∃ i j, x = .str i ∧ y = .str j ∧ Q (.bl (!decide (j.cps.toList < i.cps.toList))) H)
theorem op_leA : OpR X (compareOp .LtE) rLeA := .or op_le op_le_str
theorem bin_le : Bin K rLeA fLe := Bin.same fun Γ σ H env ds R x y d e z hx hy hf Q q => by
  unfold fLe at hf
  split at hf
  · obtain rfl := hx.int
    obtain rfl := hy.int
    cases hf
    exact .inl ⟨_, _, rfl, rfl, q _ (.bl _)⟩
  · obtain rfl := hx.str
    obtain rfl := hy.str
    cases hf
    exact .inr ⟨_, _, rfl, rfl, q _ (.bl _)⟩
  · cases hf
theorem bin_gt : Bin K (rI0 fun i j => .bl (decide (j < i))) fGt := Bin.same fun Γ σ H env ds R x y d e z hx hy hf Q q => by
  unfold fGt at hf
  split at hf
  · obtain rfl := hx.int
    obtain rfl := hy.int
    cases hf
    exact ⟨_, _, rfl, rfl, q _ (.bl _)⟩
  · cases hf
theorem bin_ge : Bin K (rI0 fun i j => .bl (decide (j ≤ i))) fGe := Bin.same fun Γ σ H env ds R x y d e z hx hy hf Q q => by
  unfold fGe at hf
  split at hf
  · obtain rfl := hx.int
    obtain rfl := hy.int
    cases hf
    exact ⟨_, _, rfl, rfl, q _ (.bl _)⟩
  · cases hf
theorem bin_eq : Bin K (rEqD K) fEq := Bin.same fun Γ σ H env ds R x y d e z hx hy hf Q q => by
  unfold fEq at hf
  split at hf
  · rename_i hc
    cases hf
    rw [Bool.and_eq_true] at hc
    exact ⟨d, e, persP.dp hx, persP.dp hy, hc.1, hc.2, q _ (.bl _)⟩
  · cases hf
theorem bin_ne : Bin K (rNeD K) fNe := Bin.same fun Γ σ H env ds R x y d e z hx hy hf Q q => by
  unfold fNe at hf
  split at hf
  · rename_i hc
    cases hf
    rw [Bool.and_eq_true] at hc
    exact ⟨d, e, persP.dp hx, persP.dp hy, hc.1, hc.2, q _ (.bl _)⟩
  · cases hf
/-- x in a tuple -/
def rInTu (K : PySem.W.Frag) (b : Bool) : R2 := fun x y H Q => ∃ d ds, Dp K H x d ∧ Dp K H y (.tuple ds) ∧ SeqAt.shaped d = true ∧ SeqAt.shaped (.tuple ds) = true ∧ Q (.bl (if b then !ds.any fun z => PyData.eqv z d else ds.any fun z => PyData.eqv z d)) H
theorem op_inTu (hu : X.A.units + 65 < cLine) : OpR X (compareOp .In) (rInTu X.K false) := fun pins s σ H x y v u Q I rx ry h => by
  obtain ⟨d, ds, hd, he, sd, se, q⟩ := h
  obtain ⟨as, r1⟩ := Dp.reads I d x v hd rx
  obtain ⟨bs, r2⟩ := Dp.reads I (.tuple ds) y u he ry
  have room : X.A.units + 1 + min (PyData.depthAll ds) d.depth < cLine := by
    have := SeqAt.depth_of_shaped sd
    omega
  exact SeqAt.in_tuple_reads r2 r1 (SeqAt.canLay_of_shaped se) (SeqAt.canLay_of_shaped sd) room ⟨.bl _, H, I, rfl, q⟩
theorem op_notInTu (hu : X.A.units + 65 < cLine) : OpR X (compareOp .NotIn) (rInTu X.K true) := fun pins s σ H x y v u Q I rx ry h => by
  obtain ⟨d, ds, hd, he, sd, se, q⟩ := h
  obtain ⟨as, r1⟩ := Dp.reads I d x v hd rx
  obtain ⟨bs, r2⟩ := Dp.reads I (.tuple ds) y u he ry
  have room : X.A.units + 1 + min (PyData.depthAll ds) d.depth < cLine := by
    have := SeqAt.depth_of_shaped sd
    omega
  exact SeqAt.notIn_tuple_reads r2 r1 (SeqAt.canLay_of_shaped se) (SeqAt.canLay_of_shaped sd) room ⟨.bl _, H, I, rfl, q⟩
def rInA (K : PySem.W.Frag) : R2 := fun x y H Q => rInD K x y H Q ∨ rInTu K false x y H Q
theorem op_inA (hu : X.A.units + 65 < cLine) : OpR X (compareOp .In) (rInA X.K) := .or (op_inD hu) (op_inTu hu)
def rNotInA (K : PySem.W.Frag) : R2 := fun x y H Q => rNotInD K x y H Q ∨ rInTu K true x y H Q
theorem op_notInA (hu : X.A.units + 65 < cLine) : OpR X (compareOp .NotIn) (rNotInA X.K) := .or (op_notInD hu) (op_notInTu hu)
theorem bin_in : Bin K (rInA K) fIn := Bin.same fun Γ σ H env ds R x y d e z hx hy hf Q q => by
  unfold fIn at hf
  split at hf
  · split at hf
    · rename_i hc
      cases hf
      rw [Bool.and_eq_true] at hc
      exact .inl ⟨d, _, persP.dp hx, persP.dp hy, hc.1, hc.2, q _ (.bl _)⟩
    · cases hf
  · split at hf
    · rename_i hc
      cases hf
      rw [Bool.and_eq_true] at hc
      exact .inr ⟨d, _, persP.dp hx, persP.dp hy, hc.1, hc.2, q _ (.bl _)⟩
    · cases hf
  · cases hf
theorem bin_notIn : Bin K (rNotInA K) fNotIn := Bin.same fun Γ σ H env ds R x y d e z hx hy hf Q q => by
  unfold fNotIn at hf
  split at hf
  · split at hf
    · rename_i hc
      cases hf
      rw [Bool.and_eq_true] at hc
      exact .inl ⟨d, _, persP.dp hx, persP.dp hy, hc.1, hc.2, q _ (.bl _)⟩
    · cases hf
  · split at hf
    · rename_i hc
      cases hf
      rw [Bool.and_eq_true] at hc
      exact .inr ⟨d, _, persP.dp hx, persP.dp hy, hc.1, hc.2, q _ (.bl _)⟩
    · cases hf
  · cases hf
theorem MP.isNone {Γ : Gm} {σ : St} {env : Ev} {H : Hp} {x : V} {d : PyData} (h : MP K Γ σ env H x d) : decide (x = .non) = isNone d := by
  rcases h with h | ⟨a, xs, ds, e1, e2, e3, e4, e5, e6⟩
  · cases h <;> rfl
  · subst e1 e2
    rfl
theorem bin_is : Bin K (fun x y H Q => y = .non ∧ Q (.bl (decide (x = .non))) H) fIs := Bin.same fun Γ σ H env ds R x y d e z hx hy hf Q q => by
  unfold fIs at hf
  split at hf
  · cases hf
    refine ⟨hy.none, ?_⟩
    rw [hx.isNone]
    exact q _ (.bl _)
  · cases hf
theorem bin_isNot : Bin K (fun x y H Q => y = .non ∧ Q (.bl (!decide (x = .non))) H) fIsNot := Bin.same fun Γ σ H env ds R x y d e z hx hy hf Q q => by
  unfold fIsNot at hf
  split at hf
  · cases hf
    refine ⟨hy.none, ?_⟩
    rw [hx.isNone]
    exact q _ (.bl _)
  · cases hf

/-! ### subscripts and slices -/
theorem atI_get {α : Type} {xs : List α} {i : Int} {z : α} (h : atI xs i = some z) : ∃ j, ixN xs.length i = some j ∧ xs[j]? = some z := by
  unfold atI at h
  cases q : ixN xs.length i with
  | none => rw [q] at h; cases h
  | some j => rw [q] at h; exact ⟨j, rfl, h⟩
theorem atI_df {H : Hp} {g : Addr → Prop} {us : List V} {xs : List PyData} {i : Int} {z : PyData} (h : DfAll K H g us xs) (e : atI xs i = some z) : ∃ v, atI us i = some v ∧ Df K H g v z := by
  obtain ⟨j, e1, e2⟩ := atI_get e
  obtain ⟨v, e3, e4⟩ := h.get e2
  refine ⟨v, ?_, e4⟩
  unfold atI
  rw [h.length, e1]
  exact e3
theorem bin_ix : Bin K (rIx K) fIx := Bin.same fun Γ σ H env ds R x y d e z hx hy hf Q q => by
  unfold fIx at hf
  split at hf
  · obtain ⟨a, us, rfl, hS, hl, hA⟩ := hx.tuple
    obtain rfl := hy.int
    obtain ⟨v, e1, e2⟩ := atI_df hA hf
    exact .inr (.inl ⟨a, us, _, v, rfl, rfl, (SqT.of hS), e1, q v e2⟩)
  · obtain ⟨a, us, rfl, hS, hl, hA⟩ := hx.list
    obtain rfl := hy.int
    obtain ⟨v, e1, e2⟩ := atI_df hA hf
    exact .inl ⟨a, us, _, v, rfl, rfl, SqL.of hS, e1, q v e2⟩
  · obtain rfl := hx.str
    obtain rfl := hy.int
    split at hf
    · rename_i hs
      cases e1 : atI (Str.cps (by assumption)).toList (by assumption) with
      | none => rw [e1] at hf; cases hf
      | some c =>
        rw [e1] at hf
        cases hf
        exact .inr (.inr ⟨_, _, c, rfl, rfl, short_iff hs, e1, q _ (.str _)⟩)
    · cases hf
  · cases hf
variable {a b c : Expr} {ma mb mc : ME PyData} {M M1 M2 : Md} {pos p2 : Pos}
theorem se_ix (p1 : Pers M1) (p2 : Pers M2) (ha : PE X a (rdG M1 X.K C W ma)) (hb : PE X b (rdG M2 X.K C W mb)) (hs : PlainIx b := by exact fun _ _ => rfl) : SE X C W (.Subscript a b pos) (mOp fIx ma mb) :=
  PE.imp (pe_ix ix_seq ha hb hs) fun _ _ _ h => bin_rd bin_ix p1 p2 h
theorem se_un {op : UnaryOp} {r : V → Hp → VK → Prop} {f : PyData → Option PyData} (ho : UnR X (unaryOp op) r) (hr : ∀ (Γ : Gm) (σ : St) (H : Hp) (env : Ev) (x : V) (d z : PyData), MP X.K Γ σ env H x d → f d = some z → ∀ Q : VK, (∀ v, Df X.K H (gd Γ σ env) v z → Q v H) → r x H Q)
    (p1 : Pers M1) (ha : PE X a (rdG M1 X.K C W ma)) : SE X C W (.UnaryOp op a pos) (mUn f ma) :=
  PE.imp (pe_un ho ha) fun σ H Q ⟨Γ, env, ds, R, h⟩ => ⟨Γ, env, ds, R, h.bind.imp fun d ds1 H1 e1 d1 q x hx => by
    obtain ⟨z, hz, q⟩ := lift_some q
    exact hr Γ σ H1 env x d z (p1.pk hx) hz Q fun v hv => q H1 Ext.refl d1 v hv⟩
theorem se_neg (ha : SE X C W a ma) : SE X C W (.UnaryOp .USub a pos) (mUn fNeg ma) := se_un un_neg (fun Γ σ H env x d z hx hf Q q => by
  unfold fNeg at hf
  split at hf
  · obtain rfl := hx.int
    cases hf
    exact ⟨_, rfl, q _ (.int _)⟩
  · cases hf) persD ha

/-! ### tests -/
theorem st_not (h : ST X C W a m) : ST X C W (.UnaryOp .Not a pos) (mNot m) := PT.imp (pt_not h) fun σ H Q ⟨Γ, env, ds, R, h⟩ => ⟨Γ, env, ds, R, h.bind.imp fun d ds1 H1 e1 d1 q => Aft.here q d1⟩
abbrev SW (X : Cx) (C : Exs) (W : WX) (e : Expr) (m : ME Bool) : Prop := PW X e (rdT X.K C W m)
variable {rest : List Expr} {m m1 m2 : ME Bool}
theorem PW.imp {X : Cx} {e : Expr} {t t' : TT} (h : PW X e t) (f : ∀ σ H Q, t' σ H Q → t σ H Q) : PW X e t' := ⟨fun wh pins s σ H Q I q => h.run wh pins s σ H Q I (f σ H Q q)⟩
theorem sw_and1 (ha : ST X C W a m) : SW X C W (.BoolOp .And [a] pos) m := pw_and1 ha
theorem sw_or1 (ha : ST X C W a m) : SW X C W (.BoolOp .Or [a] pos) m := pw_or1 ha
theorem and_rd {K : PySem.W.Frag} {σ : St} {H : Hp} {Q : Bool → Hp → Prop} (h : rdT K C W (mAnd m1 m2) σ H Q) : tAnd (rdT K C W m1) (rdT K C W m2) σ H Q := by
  obtain ⟨Γ, env, ds, R, h⟩ := h
  refine ⟨Γ, env, ds, R, h.bind.imp fun d ds1 H1 e1 d1 q => ?_⟩
  cases d with
  | true =>
    rw [if_pos rfl]
    exact ⟨Γ, env, ds1, R.go e1 d1, q⟩
  | false =>
    rw [if_neg Bool.false_ne_true]
    exact Aft.here q d1
theorem or_rd {K : PySem.W.Frag} {σ : St} {H : Hp} {Q : Bool → Hp → Prop} (h : rdT K C W (mOr m1 m2) σ H Q) : tOr (rdT K C W m1) (rdT K C W m2) σ H Q := by
  obtain ⟨Γ, env, ds, R, h⟩ := h
  refine ⟨Γ, env, ds, R, h.bind.imp fun d ds1 H1 e1 d1 q => ?_⟩
  cases d with
  | true =>
    rw [if_pos rfl]
    exact Aft.here q d1
  | false =>
    rw [if_neg Bool.false_ne_true]
    exact ⟨Γ, env, ds1, R.go e1 d1, q⟩
theorem sw_and (ha : ST X C W a m1) (hb : SW X C W (.BoolOp .And (b :: rest) pos) m2) : SW X C W (.BoolOp .And (a :: b :: rest) pos) (mAnd m1 m2) := PW.imp (pw_and ha hb) fun _ _ _ h => and_rd h
theorem sw_or (ha : ST X C W a m1) (hb : SW X C W (.BoolOp .Or (b :: rest) pos) m2) : SW X C W (.BoolOp .Or (a :: b :: rest) pos) (mOr m1 m2) := PW.imp (pw_or ha hb) fun _ _ _ h => or_rd h
/-- and, or, not of truth values, as a value -/
def mAndV (a b : ME PyData) : ME PyData := a.bind fun x => match x with
  | .bool true => b
  | .bool false => ME.pure (.bool false)
  | _ => ME.lift none
def mOrV (a b : ME PyData) : ME PyData := a.bind fun x => match x with
  | .bool true => ME.pure (.bool true)
  | .bool false => b
  | _ => ME.lift none
def fNot : PyData → Option PyData
  | .bool b => some (.bool (!b))
  | _ => none
theorem se_one {op} (h : SE X C W a ma) : SE X C W (.BoolOp op [a] pos) ma := pe_one h
theorem se_and (ha : SE X C W a ma) (hb : SE X C W (.BoolOp .And (b :: rest) pos) mb) : SE X C W (.BoolOp .And (a :: b :: rest) pos) (mAndV ma mb) :=
  PE.imp (pe_and ha hb) fun σ H Q ⟨Γ, env, ds, R, h⟩ => ⟨Γ, env, ds, R, h.bind.imp fun d ds1 H1 e1 d1 q x hx => by
    cases d with
    | bool k =>
      cases hx
      refine ⟨_, rfl, ?_⟩
      cases k with
      | true =>
        rw [if_pos rfl]
        exact ⟨Γ, env, ds1, R.go e1 d1, q⟩
      | false =>
        rw [if_neg Bool.false_ne_true]
        exact Aft.here q d1 _ (.bl false)
    | _ => exact q.elim⟩
theorem se_or (ha : SE X C W a ma) (hb : SE X C W (.BoolOp .Or (b :: rest) pos) mb) : SE X C W (.BoolOp .Or (a :: b :: rest) pos) (mOrV ma mb) :=
  PE.imp (pe_or ha hb) fun σ H Q ⟨Γ, env, ds, R, h⟩ => ⟨Γ, env, ds, R, h.bind.imp fun d ds1 H1 e1 d1 q x hx => by
    cases d with
    | bool k =>
      cases hx
      refine ⟨_, rfl, ?_⟩
      cases k with
      | true =>
        rw [if_pos rfl]
        exact Aft.here q d1 _ (.bl true)
      | false =>
        rw [if_neg Bool.false_ne_true]
        exact ⟨Γ, env, ds1, R.go e1 d1, q⟩
    | _ => exact q.elim⟩
theorem se_not (ha : SE X C W a ma) : SE X C W (.UnaryOp .Not a pos) (mUn fNot ma) :=
  PE.imp (pe_not ha) fun σ H Q ⟨Γ, env, ds, R, h⟩ => ⟨Γ, env, ds, R, h.bind.imp fun d ds1 H1 e1 d1 q x hx => by
    obtain ⟨z, hz, q⟩ := lift_some q
    cases d with
    | bool k =>
      cases hx
      cases hz
      exact ⟨_, rfl, q H1 Ext.refl d1 _ (.bl _)⟩
    | _ => cases hz⟩
/-- a if c else b -/
theorem se_if (hc : ST X C W c m) (ha : SE X C W a ma) (hb : SE X C W b mb) : SE X C W (.IfExp c a b pos) (mIf m ma mb) :=
  PE.imp (pe_ifExp hc ha hb) fun σ H Q ⟨Γ, env, ds, R, h⟩ => ⟨Γ, env, ds, R, h.bind.imp fun d ds1 H1 e1 d1 q => by
    cases d with
    | true =>
      rw [if_pos rfl]
      exact ⟨Γ, env, ds1, R.go e1 d1, q⟩
    | false =>
      rw [if_neg Bool.false_ne_true]
      exact ⟨Γ, env, ds1, R.go e1 d1, q⟩⟩

/-! ### argument lists, displays -/
variable {e : Expr} {es : List Expr} {me : ME PyData} {ms : ME (List PyData)}
theorem sa_nil : SA X C W [] mNil := PA.imp pa_nil fun σ H Q ⟨Γ, env, ds, R, h⟩ => Aft.here h R.draw _ .nil
theorem sa_cons (he : SE X C W e me) (hr : SA X C W es ms) (hs : starEach (e :: es) X.env = (false, eval e X.env) :: starEach es X.env := by rfl) : SA X C W (e :: es) (mCons me ms) :=
  PA.imp (pa_cons he hr hs) fun σ H Q ⟨Γ, env, ds, R, h⟩ => ⟨Γ, env, ds, R, h.bind.imp fun d ds1 H1 e1 d1 q x hx => ⟨Γ, env, ds1, R.go e1 d1, q.bind.imp fun xs ds2 H2 e2 d2 q vs hv =>
    Aft.here q d2 _ (.cons (Df.ext e2 d1 hx) hv)⟩⟩
theorem se_tup {n : Nat} (h : SA X C W es ms) : SE X C W (.Tuple es n pos) (mTup ms) :=
  PE.imp (pe_tup h) fun σ H Q ⟨Γ, env, ds, R, h⟩ => ⟨Γ, env, ds, R, h.bind.imp fun xs ds1 H1 e1 d1 q vs hv => by
    obtain ⟨z, hz, q⟩ := lift_some q
    split at hz
    · rename_i hs
      cases hz
      have hs := short_iff hs
      rw [← hv.length] at hs
      refine ⟨hs, fun p hp => ?_⟩
      obtain ⟨e2, d2, h2⟩ := new_tup (R.go e1 d1) hv hs hp
      exact q _ e2 d2 _ h2
    · cases hz⟩
theorem sf_lst (h : SA X C W es ms) : SF X C W (.List es pos) (mLst ms) :=
  PE.imp (pe_lst h) fun σ H Q ⟨Γ, env, ds, R, h⟩ => ⟨Γ, env, ds, R, h.bind.imp fun xs ds1 H1 e1 d1 q vs hv => by
    obtain ⟨z, hz, q⟩ := lift_some q
    split at hz
    · rename_i hs
      cases hz
      have hs := short_iff hs
      rw [← hv.length] at hs
      refine ⟨hs, fun p hp => ?_⟩
      refine q _ (ext_new hp) (d1.new hp) p vs ?_ upd_same hs ((hv.avoid hp).mono (fun a u q e => ⟨q, ext_new (Γ := Γ) hp a _ q.1.2.2 e⟩) fun _ _ q => tup_ext (ext_new hp) d1 q)
      cases k : H p with
      | none => rfl
      | some o =>
        have := e1 p o ((R.go e1 d1).new_gd hp).2.2 k
        rw [hp] at this
        cases this
    · cases hz⟩
end
end DL

/-! DL4: calls of built-ins, slices. -/
namespace DL
open PySem PySem.Spec L2
open PyProof.Rows hiding St

theorem CallR.or {X : Cx} {f : Value} {r r' : List V → Hp → VK → Prop} (h : CallR X f r) (h' : CallR X f r') : CallR X f fun xs H Q => r xs H Q ∨ r' xs H Q := by
  intro pins s σ H xs us Q I rx q
  rcases q with q | q
  · exact h pins s σ H xs us Q I rx q
  · exact h' pins s σ H xs us Q I rx q

section
variable {X : Cx} {C : Exs} {W : WX} {K : PySem.W.Frag} {a b : Expr} {ma mb : ME PyData} {M M1 M2 : Md} {pos p2 p : Pos} {x : Str} {bid T : String}
/-- a call of one argument, by values -/
def Un1 (K : PySem.W.Frag) (r : List V → Hp → VK → Prop) (f : PyData → Option PyData) : Prop :=
  ∀ (Γ : Gm) (σ : St) (H : Hp) (env : Ev) (ds : DS), Rel K Γ σ H env ds → ∀ (x : V) (d z : PyData), MP K Γ σ env H x d → f d = some z →
    ∀ Q : VK, (∀ v H', Ext Γ H H' → DrR K Γ H' ds → Df K H' (gd Γ σ env) v z → Q v H') → r [x] H Q
theorem Un1.same {r : List V → Hp → VK → Prop} {f : PyData → Option PyData} (h : ∀ (Γ : Gm) (σ : St) (H : Hp) (env : Ev) (x : V) (d z : PyData), MP K Γ σ env H x d → f d = some z → ∀ Q : VK, (∀ v, Df K H (gd Γ σ env) v z → Q v H) → r [x] H Q) : Un1 K r f :=
  fun Γ σ H env ds R x d z hx hf Q q => h Γ σ H env x d z hx hf Q fun v hv => q v H Ext.refl R.draw hv
theorem un1_rd {r : List V → Hp → VK → Prop} {f : PyData → Option PyData} (hr : Un1 K r f) (p1 : Pers M) {σ : St} {H : Hp} {Q : VK} (h : rdG MD K C W (mUn f ma) σ H Q) : tCB r (tCons (rdG M K C W ma) tNil) σ H Q := by
  obtain ⟨Γ, env, ds, R, h⟩ := h
  refine ⟨Γ, env, ds, R, h.bind.imp fun d ds1 H1 e1 d1 q x hx => ?_⟩
  obtain ⟨z, hz, q⟩ := lift_some q
  exact hr Γ σ H1 env ds1 (R.go e1 d1) x d z (p1.pk hx) hz Q fun v H3 e3 d3 hv => q H3 e3 d3 v hv
theorem se_callB {r : List V → Hp → VK → Prop} {f : PyData → Option PyData} (hc : CallR X (.builtin bid) r) (hr : Un1 X.K r f) (p1 : Pers M) (hm : X.mg x = none) (hv : bootBuiltins x = some (.builtin bid)) (ha : PE X a (rdG M X.K C W ma)) (hg : Gl X x := by rfl)
    (hn : x ≠ "__name__" := by decide) (hdb : (x == ("__debug__" : Str)) = false := by decide) (he : starEach (a :: []) X.env = (false, eval a X.env) :: starEach [] X.env := by rfl) (hpl : (backTo pos (starEach [] X.env)).any (·.1) = false := by rfl) : SE X C W (.Call (.Name x p) [a] [] pos) (mUn f ma) :=
  PE.imp (pe_callB hc hg hm hv (pa_cons ha pa_nil he) hn hdb he hpl) fun _ _ _ h => un1_rd hr p1 h
theorem se_callTy {r : List V → Hp → VK → Prop} {f : PyData → Option PyData} (hc : CallR X (.type T) r) (hr : Un1 X.K r f) (p1 : Pers M) (hm : X.mg x = none) (hv : bootBuiltins x = some (.type T)) (ha : PE X a (rdG M X.K C W ma)) (hg : Gl X x := by rfl)
    (hn : x ≠ "__name__" := by decide) (hdb : (x == ("__debug__" : Str)) = false := by decide) (he : starEach (a :: []) X.env = (false, eval a X.env) :: starEach [] X.env := by rfl) (hpl : (backTo pos (starEach [] X.env)).any (·.1) = false := by rfl) : SE X C W (.Call (.Name x p) [a] [] pos) (mUn f ma) :=
  PE.imp (pe_callTy hc hg hm hv (pa_cons ha pa_nil he) hn hdb he hpl) fun _ _ _ h => un1_rd hr p1 h
/-- .. that gives a new list -/
def mUnF (f : PyData → Option (List PyData)) (a : ME PyData) : ME (List PyData) := a.bind fun x => ME.lift (f x)
def Un1F (K : PySem.W.Frag) (r : List V → Hp → VK → Prop) (f : PyData → Option (List PyData)) : Prop :=
  ∀ (Γ : Gm) (σ : St) (H : Hp) (env : Ev) (ds : DS), Rel K Γ σ H env ds → ∀ (x : V) (d : PyData) (z : List PyData), MP K Γ σ env H x d → f d = some z →
    ∀ Q : VK, (∀ p us, H p = none → us.length ≤ sizeLine → DfAll K H (gd Γ σ env) us z → Q (.ref p) (upd H p (.lst us))) → r [x] H Q
theorem Rel.none_back {Γ : Gm} {σ : St} {H H1 : Hp} {env : Ev} {ds ds1 : DS} (R : Rel K Γ σ H env ds) (e : Ext Γ H H1) (d : DrR K Γ H1 ds1) {p : Addr} (h : H1 p = none) : H p = none := by
  cases k : H p with
  | none => rfl
  | some o =>
    have := e p o ((R.go e d).new_gd h).2.2 k
    rw [h] at this
    cases this
theorem DfAll.newx {Γ : Gm} {σ : St} {env : Ev} {H : Hp} {ds : DS} {p : Addr} {o : HO} {us : List V} {xs : List PyData} (h : DfAll K H (gd Γ σ env) us xs) (hp : H p = none) (d : DrR K Γ H ds) : DfAll K (upd H p o) (gdx Γ σ env p) us xs :=
  (h.avoid hp).mono (fun a u q e => ⟨q, ext_new (Γ := Γ) hp a _ q.1.2.2 e⟩) fun _ _ q => tup_ext (ext_new hp) d q
theorem un1F_rd {r : List V → Hp → VK → Prop} {f : PyData → Option (List PyData)} (hr : Un1F K r f) (p1 : Pers M) {σ : St} {H : Hp} {Q : VK} (h : rdF K C W (mUnF f ma) σ H Q) : tCB r (tCons (rdG M K C W ma) tNil) σ H Q := by
  obtain ⟨Γ, env, ds, R, h⟩ := h
  refine ⟨Γ, env, ds, R, h.bind.imp fun d ds1 H1 e1 d1 q x hx => ?_⟩
  obtain ⟨z, hz, q⟩ := lift_some q
  exact hr Γ σ H1 env ds1 (R.go e1 d1) x d z (p1.pk hx) hz Q fun p us hp hl hA => q _ (ext_new hp) (d1.new hp) p us (R.none_back e1 d1 hp) upd_same hl (hA.newx hp d1)
theorem sf_callB {r : List V → Hp → VK → Prop} {f : PyData → Option (List PyData)} (hc : CallR X (.builtin bid) r) (hr : Un1F X.K r f) (p1 : Pers M) (hm : X.mg x = none) (hv : bootBuiltins x = some (.builtin bid)) (ha : PE X a (rdG M X.K C W ma)) (hg : Gl X x := by rfl)
    (hn : x ≠ "__name__" := by decide) (hdb : (x == ("__debug__" : Str)) = false := by decide) (he : starEach (a :: []) X.env = (false, eval a X.env) :: starEach [] X.env := by rfl) (hpl : (backTo pos (starEach [] X.env)).any (·.1) = false := by rfl) : SF X C W (.Call (.Name x p) [a] [] pos) (mUnF f ma) :=
  PE.imp (pe_callB hc hg hm hv (pa_cons ha pa_nil he) hn hdb he hpl) fun _ _ _ h => un1F_rd hr p1 h
theorem sf_callTy {r : List V → Hp → VK → Prop} {f : PyData → Option (List PyData)} (hc : CallR X (.type T) r) (hr : Un1F X.K r f) (p1 : Pers M) (hm : X.mg x = none) (hv : bootBuiltins x = some (.type T)) (ha : PE X a (rdG M X.K C W ma)) (hg : Gl X x := by rfl)
    (hn : x ≠ "__name__" := by decide) (hdb : (x == ("__debug__" : Str)) = false := by decide) (he : starEach (a :: []) X.env = (false, eval a X.env) :: starEach [] X.env := by rfl) (hpl : (backTo pos (starEach [] X.env)).any (·.1) = false := by rfl) : SF X C W (.Call (.Name x p) [a] [] pos) (mUnF f ma) :=
  PE.imp (pe_callTy hc hg hm hv (pa_cons ha pa_nil he) hn hdb he hpl) fun _ _ _ h => un1F_rd hr p1 h

/-! the built-ins -/
def fLen : PyData → Option PyData
  | .list xs => some (.int xs.length)
  | .tuple xs => some (.int xs.length)
  | .str z => if short z.length then some (.int z.length) else none
  | _ => none
theorem un_len : Un1 K (fun xs H Q => (∃ p ys, xs = [.ref p] ∧ (SqL K H p ys ∨ SqT K H p ys) ∧ Q (.int ys.length) H) ∨ ∃ z, xs = [.str z] ∧ z.length ≤ sizeLine ∧ Q (.int z.length) H) fLen := Un1.same fun Γ σ H env x d z hx hf Q q => by
  unfold fLen at hf
  split at hf
  · obtain ⟨a, us, rfl, hS, hl, hA⟩ := hx.list
    cases hf
    refine .inl ⟨a, us, rfl, .inl (SqL.of hS), ?_⟩
    rw [hA.length]
    exact q _ (.int _)
  · obtain ⟨a, us, rfl, hS, hl, hA⟩ := hx.tuple
    cases hf
    refine .inl ⟨a, us, rfl, .inr (SqT.of hS), ?_⟩
    rw [hA.length]
    exact q _ (.int _)
  · obtain rfl := hx.str
    split at hf
    · rename_i hs
      cases hf
      exact .inr ⟨_, rfl, short_iff hs, q _ (.int _)⟩
    · cases hf
  · cases hf
theorem call_lenA : CallR X (.builtin "len") (fun xs H Q => (∃ p ys, xs = [.ref p] ∧ (SqL X.K H p ys ∨ SqT X.K H p ys) ∧ Q (.int ys.length) H) ∨ ∃ z, xs = [.str z] ∧ z.length ≤ sizeLine ∧ Q (.int z.length) H) := .or call_len_seq call_len_str
def fTuple : PyData → Option PyData
  | .list xs => some (.tuple xs)
  | .tuple xs => some (.tuple xs)
  | _ => none
theorem un_tuple : Un1 K (fun xs H Q => ∃ p ys, xs = [.ref p] ∧ ((SqL K H p ys ∧ ∀ l, H l = none → Q (.ref l) (upd H l (.tup ys))) ∨ (SqT K H p ys ∧ Q (.ref p) H))) fTuple := fun Γ σ H env ds R x d z hx hf Q q => by
  unfold fTuple at hf
  split at hf
  · obtain ⟨a, us, rfl, hS, hl, hA⟩ := hx.list
    cases hf
    refine ⟨a, us, rfl, .inl ⟨SqL.of hS, fun p hp => ?_⟩⟩
    obtain ⟨e1, d1, h1⟩ := new_tup R hA hl hp
    exact q _ _ e1 d1 h1
  · obtain ⟨a, us, rfl, hS, hl, hA⟩ := hx.tuple
    cases hf
    exact ⟨a, us, rfl, .inr ⟨SqT.of hS, q _ H Ext.refl R.draw (.tup hS hl hA)⟩⟩
  · cases hf
def fList : PyData → Option (List PyData)
  | .list xs => some xs
  | .tuple xs => some xs
  | _ => none
theorem un_list : Un1F K (fun xs H Q => ∃ p ys, xs = [.ref p] ∧ (SqL K H p ys ∨ SqT K H p ys) ∧ ∀ l, H l = none → Q (.ref l) (upd H l (.lst ys))) fList := fun Γ σ H env ds R x d z hx hf Q q => by
  unfold fList at hf
  split at hf
  · obtain ⟨a, us, rfl, hS, hl, hA⟩ := hx.list
    cases hf
    exact ⟨a, us, rfl, .inl (SqL.of hS), fun p hp => q p us hp hl hA⟩
  · obtain ⟨a, us, rfl, hS, hl, hA⟩ := hx.tuple
    cases hf
    exact ⟨a, us, rfl, .inr (SqT.of hS), fun p hp => q p us hp hl hA⟩
  · cases hf
def boolsOf : List PyData → Option (List Bool)
  | [] => some []
  | .bool b :: r => (boolsOf r).map (b :: ·)
  | _ => none
def intsOf : List PyData → Option (List Int)
  | [] => some []
  | .int b :: r => (intsOf r).map (b :: ·)
  | _ => none
theorem boolsOf_eq : ∀ {xs : List PyData} {bs : List Bool}, boolsOf xs = some bs → xs = bs.map .bool
  | [], _, h => by cases h; rfl
  | .bool b :: r, _, h => by
    unfold boolsOf at h
    cases q : boolsOf r with
    | none => rw [q] at h; cases h
    | some bs' => rw [q] at h; cases h; rw [boolsOf_eq q]; rfl
  | .none :: _, _, h => by cases h
  | .int _ :: _, _, h => by cases h
  | .str _ :: _, _, h => by cases h
  | .list _ :: _, _, h => by cases h
  | .tuple _ :: _, _, h => by cases h
  | .dict _ :: _, _, h => by cases h
theorem intsOf_eq : ∀ {xs : List PyData} {bs : List Int}, intsOf xs = some bs → xs = bs.map .int
  | [], _, h => by cases h; rfl
  | .int b :: r, _, h => by
    unfold intsOf at h
    cases q : intsOf r with
    | none => rw [q] at h; cases h
    | some bs' => rw [q] at h; cases h; rw [intsOf_eq q]; rfl
  | .none :: _, _, h => by cases h
  | .bool _ :: _, _, h => by cases h
  | .str _ :: _, _, h => by cases h
  | .list _ :: _, _, h => by cases h
  | .tuple _ :: _, _, h => by cases h
  | .dict _ :: _, _, h => by cases h
theorem boolsOf_map : ∀ bs : List Bool, boolsOf (bs.map .bool) = some bs
  | [] => rfl
  | b :: r => by show (boolsOf (r.map .bool)).map (b :: ·) = _; rw [boolsOf_map r]; rfl
theorem intsOf_map : ∀ bs : List Int, intsOf (bs.map .int) = some bs
  | [] => rfl
  | b :: r => by show (intsOf (r.map .int)).map (b :: ·) = _; rw [intsOf_map r]; rfl
def fAll : PyData → Option PyData
  | .list xs => (boolsOf xs).map fun bs => .bool (bs.all id)
  | _ => none
def fAny : PyData → Option PyData
  | .list xs => (boolsOf xs).map fun bs => .bool (bs.any id)
  | _ => none
def fSum : PyData → Option PyData
  | .list xs => (intsOf xs).map fun bs => .int bs.sum
  | _ => none
theorem un_all : Un1 K (rAll K) fAll := Un1.same fun Γ σ H env x d z hx hf Q q => by
  unfold fAll at hf
  split at hf
  · obtain ⟨a, us, rfl, hS, hl, hA⟩ := hx.list
    obtain ⟨bs, e1, e2⟩ := Option.map_eq_some_iff.mp hf
    subst e2
    obtain rfl := boolsOf_eq e1
    rw [hA.bls_inv] at hS
    exact ⟨a, bs, rfl, SqL.of hS, q _ (.bl _)⟩
  · cases hf
theorem un_any : Un1 K (rAny K) fAny := Un1.same fun Γ σ H env x d z hx hf Q q => by
  unfold fAny at hf
  split at hf
  · obtain ⟨a, us, rfl, hS, hl, hA⟩ := hx.list
    obtain ⟨bs, e1, e2⟩ := Option.map_eq_some_iff.mp hf
    subst e2
    obtain rfl := boolsOf_eq e1
    rw [hA.bls_inv] at hS
    exact ⟨a, bs, rfl, SqL.of hS, q _ (.bl _)⟩
  · cases hf
theorem un_sum : Un1 K (rSum K) fSum := Un1.same fun Γ σ H env x d z hx hf Q q => by
  unfold fSum at hf
  split at hf
  · obtain ⟨a, us, rfl, hS, hl, hA⟩ := hx.list
    obtain ⟨bs, e1, e2⟩ := Option.map_eq_some_iff.mp hf
    subst e2
    obtain rfl := intsOf_eq e1
    rw [hA.ints_inv] at hS
    exact ⟨a, bs, rfl, SqL.of hS, q _ (.int _)⟩
  · cases hf
def fAbs : PyData → Option PyData
  | .int i => some (.int (if i < 0 then -i else i))
  | _ => none
theorem un_abs : Un1 K (fun xs H Q => ∃ i, xs = [.int i] ∧ Q (.int (if i < 0 then -i else i)) H) fAbs := Un1.same fun Γ σ H env x d z hx hf Q q => by
  unfold fAbs at hf
  split at hf
  · obtain rfl := hx.int
    cases hf
    exact ⟨_, rfl, q _ (.int _)⟩
  · cases hf
def fInt : PyData → Option PyData
  | .int i => some (.int i)
  | .bool b => some (.int (if b then 1 else 0))
  | _ => none
theorem un_int : Un1 K (fun xs H Q => (∃ i, xs = [.int i] ∧ Q (.int i) H) ∨ ∃ k, xs = [.bl k] ∧ Q (.int (if k then 1 else 0)) H) fInt := Un1.same fun Γ σ H env x d z hx hf Q q => by
  unfold fInt at hf
  split at hf
  · obtain rfl := hx.int
    cases hf
    exact .inl ⟨_, rfl, q _ (.int _)⟩
  · obtain rfl := hx.bool
    cases hf
    exact .inr ⟨_, rfl, q _ (.int _)⟩
  · cases hf
def maxOf : Int → List Int → Int
  | m, [] => m
  | m, x :: r => maxOf (if x > m then x else m) r
def minOf : Int → List Int → Int
  | m, [] => m
  | m, x :: r => minOf (if x < m then x else m) r
theorem maxOf_ge : ∀ (r : List Int) (m : Int), m ≤ maxOf m r ∧ (∀ x ∈ r, x ≤ maxOf m r) ∧ (maxOf m r = m ∨ maxOf m r ∈ r)
  | [], m => ⟨Int.le_refl _, (fun _ h => by cases h), .inl rfl⟩
  | x :: r, m => by
    obtain ⟨h1, h2, h3⟩ := maxOf_ge r (if x > m then x else m)
    refine ⟨?_, fun y hy => ?_, ?_⟩
    · show m ≤ maxOf (if x > m then x else m) r
      by_cases k : x > m
      · rw [if_pos k] at h1 ⊢; omega
      · rw [if_neg k] at h1 ⊢; exact h1
    · show y ≤ maxOf (if x > m then x else m) r
      rcases List.mem_cons.mp hy with rfl | hy
      · by_cases k : y > m
        · rw [if_pos k] at h1 ⊢; exact h1
        · rw [if_neg k] at h1 ⊢; omega
      · exact h2 y hy
    · show maxOf (if x > m then x else m) r = m ∨ maxOf (if x > m then x else m) r ∈ x :: r
      rcases h3 with h3 | h3
      · by_cases k : x > m
        · rw [if_pos k] at h3 ⊢; exact .inr (List.mem_cons.mpr (.inl h3))
        · rw [if_neg k] at h3 ⊢; exact .inl h3
      · exact .inr (List.mem_cons_of_mem _ h3)
theorem minOf_le : ∀ (r : List Int) (m : Int), minOf m r ≤ m ∧ (∀ x ∈ r, minOf m r ≤ x) ∧ (minOf m r = m ∨ minOf m r ∈ r)
  | [], m => ⟨Int.le_refl _, (fun _ h => by cases h), .inl rfl⟩
  | x :: r, m => by
    obtain ⟨h1, h2, h3⟩ := minOf_le r (if x < m then x else m)
    refine ⟨?_, fun y hy => ?_, ?_⟩
    · show minOf (if x < m then x else m) r ≤ m
      by_cases k : x < m
      · rw [if_pos k] at h1 ⊢; omega
      · rw [if_neg k] at h1 ⊢; exact h1
    · show minOf (if x < m then x else m) r ≤ y
      rcases List.mem_cons.mp hy with rfl | hy
      · by_cases k : y < m
        · rw [if_pos k] at h1 ⊢; exact h1
        · rw [if_neg k] at h1 ⊢; omega
      · exact h2 y hy
    · show minOf (if x < m then x else m) r = m ∨ minOf (if x < m then x else m) r ∈ x :: r
      rcases h3 with h3 | h3
      · by_cases k : x < m
        · rw [if_pos k] at h3 ⊢; exact .inr (List.mem_cons.mpr (.inl h3))
        · rw [if_neg k] at h3 ⊢; exact .inl h3
      · exact .inr (List.mem_cons_of_mem _ h3)
def fMax : PyData → Option PyData
  | .list xs => (intsOf xs).bind fun bs => match bs with | [] => none | m :: r => some (.int (maxOf m r))
  | _ => none
def fMin : PyData → Option PyData
  | .list xs => (intsOf xs).bind fun bs => match bs with | [] => none | m :: r => some (.int (minOf m r))
  | _ => none
theorem un_max : Un1 K (rMax K) fMax := Un1.same fun Γ σ H env x d z hx hf Q q => by
  unfold fMax at hf
  split at hf
  · obtain ⟨a, us, rfl, hS, hl, hA⟩ := hx.list
    obtain ⟨bs, e1, e2⟩ := Option.bind_eq_some_iff.mp hf
    obtain rfl := intsOf_eq e1
    rw [hA.ints_inv] at hS
    cases bs with
    | nil => cases e2
    | cons m r =>
      cases e2
      refine ⟨a, _, rfl, SqL.of hS, Nat.succ_pos _, fun k hk hle => ?_⟩
      obtain ⟨h1, h2, h3⟩ := maxOf_ge r m
      have e : k = maxOf m r := by
        have t1 : k ≤ maxOf m r := by
          rcases List.mem_cons.mp hk with rfl | hk
          · exact h1
          · exact h2 k hk
        have t2 : maxOf m r ≤ k := by
          rcases h3 with h3 | h3
          · rw [h3]; exact hle m List.mem_cons_self
          · exact hle _ (List.mem_cons_of_mem _ h3)
        omega
      rw [e]
      exact q _ (.int _)
  · cases hf
theorem un_min : Un1 K (rMin K) fMin := Un1.same fun Γ σ H env x d z hx hf Q q => by
  unfold fMin at hf
  split at hf
  · obtain ⟨a, us, rfl, hS, hl, hA⟩ := hx.list
    obtain ⟨bs, e1, e2⟩ := Option.bind_eq_some_iff.mp hf
    obtain rfl := intsOf_eq e1
    rw [hA.ints_inv] at hS
    cases bs with
    | nil => cases e2
    | cons m r =>
      cases e2
      refine ⟨a, _, rfl, SqL.of hS, Nat.succ_pos _, fun k hk hle => ?_⟩
      obtain ⟨h1, h2, h3⟩ := minOf_le r m
      have e : k = minOf m r := by
        have t1 : minOf m r ≤ k := by
          rcases List.mem_cons.mp hk with rfl | hk
          · exact h1
          · exact h2 k hk
        have t2 : k ≤ minOf m r := by
          rcases h3 with h3 | h3
          · rw [h3]; exact hle m List.mem_cons_self
          · exact hle _ (List.mem_cons_of_mem _ h3)
        omega
      rw [e]
      exact q _ (.int _)
  · cases hf
/-- isinstance(x, T) -/
def isOf (n : String) : PyData → Option Bool
  | .none => if n = "int" ∨ n = "bool" ∨ n = "tuple" ∨ n = "str" ∨ n = "list" then some false else none
  | .bool _ => if n = "int" ∨ n = "bool" then some true else if n = "tuple" ∨ n = "str" ∨ n = "list" then some false else none
  | .int _ => if n = "int" then some true else if n = "bool" ∨ n = "tuple" ∨ n = "str" ∨ n = "list" then some false else none
  | .str _ => if n = "str" then some true else if n = "bool" ∨ n = "tuple" ∨ n = "int" ∨ n = "list" then some false else none
  | .list _ => if n = "list" then some true else if n = "bool" ∨ n = "tuple" ∨ n = "int" ∨ n = "str" then some false else none
  | .tuple _ => if n = "tuple" then some true else if n = "bool" ∨ n = "list" ∨ n = "int" ∨ n = "str" then some false else none
  | .dict _ => none
def mIsi (n : Nat) (a : ME PyData) : ME PyData := a.bind fun x => ME.lift ((isOf (["int", "bool", "tuple", "str", "list"].getD n "") x).map .bool)
theorem tyX_of {Γ : Gm} {σ : St} {env : Ev} {H : Hp} {v : V} {d : PyData} (h : MP K Γ σ env H v d) : (d = .none ∧ TyX K H v (.type "NoneType")) ∨ ((∃ b, d = .bool b) ∧ TyX K H v (.type "bool")) ∨ ((∃ b, d = .int b) ∧ TyX K H v (.type "int")) ∨
    ((∃ b, d = .str b) ∧ TyX K H v (.type "str")) ∨ ((∃ b, d = .list b) ∧ TyX K H v (.type "list")) ∨ ((∃ b, d = .tuple b) ∧ TyX K H v (.type "tuple")) := by
  cases d with
  | none => obtain rfl := h.none; exact .inl ⟨rfl, .base .non⟩
  | bool b => obtain rfl := h.bool; exact .inr (.inl ⟨⟨_, rfl⟩, .base (.bl _)⟩)
  | int b => obtain rfl := h.int; exact .inr (.inr (.inl ⟨⟨_, rfl⟩, .base (.int _)⟩))
  | str b => obtain rfl := h.str; exact .inr (.inr (.inr (.inl ⟨⟨_, rfl⟩, .base (.str _)⟩)))
  | list b =>
    obtain ⟨a, us, rfl, hS, hl, hA⟩ := h.list
    exact .inr (.inr (.inr (.inr (.inl ⟨⟨_, rfl⟩, .base (.lst hS)⟩))))
  | tuple b =>
    obtain ⟨a, us, rfl, hS, hl, hA⟩ := h.tuple
    refine .inr (.inr (.inr (.inr (.inr ⟨⟨_, rfl⟩, ?_⟩))))
    exact .base (.tup hS)
  | dict b =>
    rcases h with h | ⟨a, xs, ds, e1, e2, e3, e4, e5, e6⟩
    · cases h
    · cases e2
theorem kit_tab (a n : String) (b : Bool) (h : (a, n, b) ∈ [("NoneType", "int", false), ("NoneType", "bool", false), ("NoneType", "tuple", false), ("NoneType", "str", false), ("NoneType", "list", false), ("bool", "int", true), ("bool", "bool", true), ("bool", "tuple", false), ("bool", "str", false), ("bool", "list", false),
    ("int", "int", true), ("int", "bool", false), ("int", "tuple", false), ("int", "str", false), ("int", "list", false), ("str", "int", false), ("str", "bool", false), ("str", "tuple", false), ("str", "str", true), ("str", "list", false),
    ("list", "int", false), ("list", "bool", false), ("list", "tuple", false), ("list", "str", false), ("list", "list", true), ("tuple", "int", false), ("tuple", "bool", false), ("tuple", "tuple", true), ("tuple", "str", false), ("tuple", "list", false)]) : PySem.W.kitOne K (.type a) (.type n) = some b := by
  refine kit_ty ?_
  revert h
  have key : ([("NoneType", "int", false), ("NoneType", "bool", false), ("NoneType", "tuple", false), ("NoneType", "str", false), ("NoneType", "list", false), ("bool", "int", true), ("bool", "bool", true), ("bool", "tuple", false), ("bool", "str", false), ("bool", "list", false),
    ("int", "int", true), ("int", "bool", false), ("int", "tuple", false), ("int", "str", false), ("int", "list", false), ("str", "int", false), ("str", "bool", false), ("str", "tuple", false), ("str", "str", true), ("str", "list", false),
    ("list", "int", false), ("list", "bool", false), ("list", "tuple", false), ("list", "str", false), ("list", "list", true), ("tuple", "int", false), ("tuple", "bool", false), ("tuple", "tuple", true), ("tuple", "str", false), ("tuple", "list", false)].all fun (t : String × String × Bool) => decide (kitB t.1 t.2.1 = some t.2.2)) = true := by decide +kernel
  intro h
  exact of_decide_eq_true (List.all_eq_true.mp key _ h)
theorem se_isi {n : Nat} {q : Pos} {y : Str} (p1 : Pers M) (ha : PE X a (rdG M X.K C W ma)) (hm : X.mg "isinstance" = none) (hmn : X.mg y = none) (hy : bootBuiltins y = some (.type (["int", "bool", "tuple", "str", "list"].getD n ""))) (hn : n < 5) (hg : Gl X "isinstance" := by rfl) (hgn : Gl X y := by rfl)
    (hyn : y ≠ "__name__" := by decide) (hyd : (y == ("__debug__" : Str)) = false := by decide)
    (he : starEach [a, Expr.Name y q] X.env = (false, eval a X.env) :: starEach [Expr.Name y q] X.env := by rfl) (hs2 : starEach [Expr.Name y q] X.env = (false, eval (Expr.Name y q) X.env) :: starEach [] X.env := by rfl) (hpl : (backTo pos (starEach [Expr.Name y q] X.env)).any (·.1) = false := by rfl) :
    SE X C W (.Call (.Name "isinstance" p) [a, .Name y q] [] pos) (mIsi n ma) := by
  refine PE.imp (pe_callB call_isi hg hm PyProof.Rows.boot_isinstance (pa_cons ha (pa_cons (pe_bltn (v := .ty (["int", "bool", "tuple", "str", "list"].getD n "")) hgn hmn hy rfl hyn hyd) pa_nil hs2) he) (by decide) (by decide) he hpl) fun σ H Q ⟨Γ, env, ds, R, h⟩ => ⟨Γ, env, ds, R, h.bind.imp fun d ds1 H1 e1 d1 q x hx => ?_⟩
  obtain ⟨z, hz, q⟩ := lift_some q
  obtain ⟨b, hb, rfl⟩ := Option.map_eq_some_iff.mp hz
  have fin : ∀ t, TyX X.K H1 x (.type t) → PySem.W.kitOne X.K (.type t) (.type (["int", "bool", "tuple", "str", "list"].getD n "")) = some b → tCons (tC (V.ty (["int", "bool", "tuple", "str", "list"].getD n ""))) tNil σ H1 (fun xs H2 => rIsi X.K (x :: xs) H2 Q) := fun t ty k =>
    ⟨x, _, _, _, b, rfl, .ty _, ty, k, q H1 Ext.refl d1 _ (.bl b)⟩
  have hn5 : n = 0 ∨ n = 1 ∨ n = 2 ∨ n = 3 ∨ n = 4 := by omega
  rcases tyX_of (p1.pk hx) with ⟨rfl, ty⟩ | ⟨⟨_, rfl⟩, ty⟩ | ⟨⟨_, rfl⟩, ty⟩ | ⟨⟨_, rfl⟩, ty⟩ | ⟨⟨_, rfl⟩, ty⟩ | ⟨⟨_, rfl⟩, ty⟩ <;> rcases hn5 with rfl | rfl | rfl | rfl | rfl <;>
    (refine fin _ ty (kit_tab _ _ _ ?_); cases hb; decide)

/-! slices -/
def mPart (a : ME PyData) : ME (Option Int) := a.bind fun x => ME.lift (match x with | .int i => some (some i) | _ => none)
def mNoPart : ME (Option Int) := ME.pure none
def rdO (K : PySem.W.Frag) (C : Exs) (W : WX) (m : ME (Option Int)) : TO := fun σ H Q => ∃ Γ env ds, Rel K Γ σ H env ds ∧ Aft K C W Γ σ H (m env ds) fun o _ H' => Q o H'
abbrev SO (X : Cx) (C : Exs) (W : WX) (e : Option Expr) (m : ME (Option Int)) : Prop := PO X e (rdO X.K C W m)
theorem PO.imp {e : Option Expr} {t t' : TO} (h : PO X e t) (f : ∀ σ H Q, t' σ H Q → t σ H Q) : PO X e t' := ⟨fun pins s σ H Q I q => h.run pins s σ H Q I (f σ H Q q)⟩
theorem so_none : SO X C W none mNoPart := PO.imp po_none fun σ H Q ⟨Γ, env, ds, R, h⟩ => Aft.here h R.draw
theorem so_some (h : SE X C W a ma) : SO X C W (some a) (mPart ma) := PO.imp (po_some h) fun σ H Q ⟨Γ, env, ds, R, h⟩ => ⟨Γ, env, ds, R, h.bind.imp fun d ds1 H1 e1 d1 q x hx => by
  obtain ⟨z, hz, q⟩ := lift_some q
  cases d with
  | int i =>
    cases hx
    cases hz
    exact ⟨_, rfl, q H1 Ext.refl d1⟩
  | _ => cases hz⟩
def cutL {α : Type} (xs : List α) (lo hi : Option Int) : List α := (xs.drop (HT.sIx xs.length 0 lo)).take (HT.sIx xs.length xs.length hi - HT.sIx xs.length 0 lo)
def fSlice (d : PyData) (lo hi : Option Int) : Option PyData := match d with
  | .tuple xs => some (.tuple (cutL xs lo hi))
  | .list xs => some (.list (cutL xs lo hi))
  | .str z => if short z.length then some (.str (cutS z lo hi)) else none
  | _ => none
def mSlice (a : ME PyData) (l h : ME (Option Int)) : ME PyData := a.bind fun x => l.bind fun lo => h.bind fun hi => ME.lift (fSlice x lo hi)
theorem DfAll.cut {H : Hp} {g : Addr → Prop} {us : List V} {xs : List PyData} (h : DfAll K H g us xs) (lo hi : Option Int) : DfAll K H g (cutV us lo hi) (cutL xs lo hi) := by
  unfold cutV cutL
  rw [h.length]
  exact (h.drop _).take _
variable {lo hi : Option Expr} {ml mh : ME (Option Int)}
theorem se_slice (p1 : Pers M) (ha : PE X a (rdG M X.K C W ma)) (hl : SO X C W lo ml) (hh : SO X C W hi mh) : SE X C W (.Subscript a (.Slice lo hi none p2) pos) (mSlice ma ml mh) :=
  PE.imp (pe_slice (SlR.or sl_tupA (SlR.or sl_list sl_str)) ha hl hh) fun σ H Q ⟨Γ, env, ds, R, h⟩ => ⟨Γ, env, ds, R, h.bind.imp fun d ds1 H1 e1 d1 q x hx => ⟨Γ, env, ds1, R.go e1 d1, q.bind.imp fun l ds2 H2 e2 d2 q => ⟨Γ, env, ds2, (R.go e1 d1).go e2 d2, q.bind.imp fun u ds3 H3 e3 d3 q => by
    obtain ⟨z, hz, q⟩ := lift_some q
    have hx3 := p1.pk (p1.ext e3 d2 (p1.ext e2 d1 hx))
    have R3 := ((R.go e1 d1).go e2 d2).go e3 d3
    unfold fSlice at hz
    split at hz
    · obtain ⟨p, us, rfl, hS, hl, hA⟩ := hx3.tuple
      cases hz
      refine .inl ⟨p, us, rfl, SqT.of hS, fun hw => ?_, fun _ t ht => ?_⟩
      · refine q H3 Ext.refl d3 _ ?_
        rw [show cutL _ l u = _ from by unfold cutL; rw [← hA.length, hw.1, hw.2, List.drop_zero, Nat.sub_zero, hA.length, List.take_length]]
        exact .tup hS hl hA
      · obtain ⟨e4, d4, h4⟩ := new_tup R3 (hA.cut l u) (Nat.le_trans (cutV_length _ _ _) hl) ht
        exact q _ e4 d4 _ h4
    · obtain ⟨p, us, rfl, hS, hl, hA⟩ := hx3.list
      cases hz
      refine .inr (.inl ⟨p, us, rfl, SqL.of hS, fun t ht => ?_⟩)
      obtain ⟨e4, d4, h4⟩ := new_lst R3 (hA.cut l u) (Nat.le_trans (cutV_length _ _ _) hl) ht
      exact q _ e4 d4 _ h4
    · obtain rfl := hx3.str
      split at hz
      · rename_i hs
        cases hz
        exact .inr (.inr ⟨_, rfl, short_iff hs, q H3 Ext.refl d3 _ (.str _)⟩)
      · cases hz
    · cases hz⟩⟩⟩
/-- a slice of a list as a new list -/
def mSliceF (a : ME PyData) (l h : ME (Option Int)) : ME (List PyData) := a.bind fun x => l.bind fun lo => h.bind fun hi => ME.lift (match x with | .list xs => some (cutL xs lo hi) | _ => none)
theorem sf_slice (p1 : Pers M) (ha : PE X a (rdG M X.K C W ma)) (hl : SO X C W lo ml) (hh : SO X C W hi mh) : SF X C W (.Subscript a (.Slice lo hi none p2) pos) (mSliceF ma ml mh) :=
  PE.imp (pe_slice sl_list ha hl hh) fun σ H Q ⟨Γ, env, ds, R, h⟩ => ⟨Γ, env, ds, R, h.bind.imp fun d ds1 H1 e1 d1 q x hx => ⟨Γ, env, ds1, R.go e1 d1, q.bind.imp fun l ds2 H2 e2 d2 q => ⟨Γ, env, ds2, (R.go e1 d1).go e2 d2, q.bind.imp fun u ds3 H3 e3 d3 q => by
    obtain ⟨z, hz, q⟩ := lift_some q
    have hx3 := p1.pk (p1.ext e3 d2 (p1.ext e2 d1 hx))
    have R2 := (R.go e1 d1).go e2 d2
    cases d with
    | list xs =>
      obtain ⟨p, us, rfl, hS, hl, hA⟩ := hx3.list
      cases hz
      refine ⟨p, us, rfl, SqL.of hS, fun t ht => ?_⟩
      exact q _ (ext_new ht) (d3.new ht) t _ (R.none_back ((e1.trans e2).trans e3) d3 ht) upd_same (Nat.le_trans (cutV_length _ _ _) hl) ((hA.cut l u).newx ht d3)
    | _ => cases hz⟩⟩⟩
end
end DL

/-! DL5: statements by their meaning. -/
namespace DL
open PySem PySem.Spec L2
open PyProof.Rows hiding St

/-! ### slots stored -/
section
variable {K : PySem.W.Frag} {Γ : Gm} {σ : St} {H H1 : Hp} {env env' : Ev} {ds ds1 : DS}
/-- a slot that may be stored: it isn't walked -/
def notLk (env : Ev) (i : Nat) : Bool := match env[i]? with
  | some (.lk _) => false
  | _ => true
def put (i : Nat) (x : Sl) (env : Ev) : Option Ev := if notLk env i && decide (i < env.length) then some (env.set i x) else none
theorem put_some {i : Nat} {x : Sl} (h : put i x env = some env') : (∀ xs, env[i]? ≠ some (.lk xs)) ∧ i < env.length ∧ env' = env.set i x := by
  unfold put at h
  split at h
  · rename_i hc
    rw [Bool.and_eq_true] at hc
    cases h
    refine ⟨fun xs q => ?_, of_decide_eq_true hc.2, rfl⟩
    have := hc.1
    unfold notLk at this
    rw [q] at this
    cases this
  · cases h
theorem owned_set_d {i : Nat} {v : V} {x : Sl} (hx : x.own = false) {a : Addr} (h : owned (σ.set i (some v)) (env.set i x) a) : owned σ env a ∧ True := by
  obtain ⟨j, y, h1, h2, h3⟩ := h
  refine ⟨?_, trivial⟩
  by_cases e : i = j
  · subst e
    by_cases hl : i < env.length
    · rw [List.getElem?_set_self hl] at h1
      cases h1
      rw [hx] at h2
      cases h2
    · rw [List.getElem?_eq_none (by rw [List.length_set]; omega)] at h1
      cases h1
  · rw [List.getElem?_set_ne e] at h1 h3
    exact ⟨j, y, h1, h2, h3⟩
theorem gd_set_d {i : Nat} {v : V} {x : Sl} (hx : x.own = false) {a : Addr} (h : gd Γ σ env a) : gd Γ (σ.set i (some v)) (env.set i x) a := ⟨h.1, fun q => h.2.1 (owned_set_d hx q).1, h.2.2⟩
/-- what a slot tells, under more good addresses -/
theorem SlR.mono {g g' : Addr → Prop} {v : Option (Option V)} {x : Sl} (h : SlR K Γ H g v x) (hg : ∀ a, g a → g' a) : SlR K Γ H g' v x := by
  have m : ∀ {us : List V} {xs : List PyData}, DfAll K H g us xs → DfAll K H g' us xs := fun q => q.mono (fun a u z e => ⟨hg a z, e⟩) fun _ _ z => z
  cases x with
  | un => trivial
  | d y =>
    obtain ⟨u, e1, e2⟩ := h
    exact ⟨u, e1, e2.mono (fun a u z e => ⟨hg a z, e⟩) fun _ _ z => z⟩
  | l xs =>
    obtain ⟨a, us, e1, e2, e3, e4⟩ := h
    exact ⟨a, us, e1, e2, m e3, e4⟩
  | lk xs =>
    obtain ⟨a, us, e1, e2, e3, e4⟩ := h
    exact ⟨a, us, e1, e2, m e3, e4⟩
  | dc t0 xs =>
    obtain ⟨a, us, e1, e2, e3, e4⟩ := h
    exact ⟨a, us, e1, e2, m e3, e4⟩
  | drw => exact h
  | scr ns => exact h
/-- a slot is stored with what owns nothing -/
theorem Rel.set_n (R : Rel K Γ σ H env ds) {i : Nat} {v : V} {x : Sl} (hx : x.own = false) (h : SlR K Γ H (gd Γ σ env) (some (some v)) x) (hp : put i x env = some env') : Rel K Γ (σ.set i (some v)) H env' ds := by
  obtain ⟨h1, h2, rfl⟩ := put_some hp
  refine ⟨by rw [List.length_set, List.length_set]; exact R.len, fun j y hy => ?_, fun j k y z hjk hj hk oj ok => ?_, R.okf, R.ext, R.draw, fun p e q => R.drc p e (owned_set_d hx q).1, fun p hp => ?_⟩
  · by_cases e : i = j
    · subst e
      rw [List.getElem?_set_self h2] at hy
      cases hy
      rw [List.getElem?_set_self (by rw [R.len]; exact h2)]
      exact h.mono fun a q => gd_set_d hx q
    · rw [List.getElem?_set_ne e] at hy ⊢
      exact (R.slot j y hy).mono fun a q => gd_set_d hx q
  · have n1 : i ≠ j := fun e => by
      subst e
      rw [List.getElem?_set_self h2] at hj
      cases hj
      rw [hx] at oj
      cases oj
    have n2 : i ≠ k := fun e => by
      subst e
      rw [List.getElem?_set_self h2] at hk
      cases hk
      rw [hx] at ok
      cases ok
    rw [List.getElem?_set_ne n1] at hj ⊢
    rw [List.getElem?_set_ne n2] at hk ⊢
    exact R.sep j k y z hjk hj hk oj ok
  · obtain ⟨xs, e1, e2⟩ := R.lkd p hp
    have n1 : i ≠ p.1 := fun e => by
      subst e
      exact h1 xs e1
    exact ⟨xs, by rw [List.getElem?_set_ne n1]; exact e1, by rw [List.getElem?_set_ne n1]; exact e2⟩
theorem Rel.set_d (R : Rel K Γ σ H env ds) {i : Nat} {v : V} {x : PyData} (h : Df K H (gd Γ σ env) v x) (hp : put i (.d x) env = some env') : Rel K Γ (σ.set i (some v)) H env' ds := R.set_n (x := .d x) rfl ⟨v, rfl, h⟩ hp
/-- a slot is stored with a new list: at H the address was free, since then H1 came about -/
theorem Rel.set_l (R : Rel K Γ σ H env ds) (e : Ext Γ H H1) (d : DrR K Γ H1 ds1) {i : Nat} {p : Addr} {us : List V} {xs : List PyData} (hf : H p = none) (hH : H1 p = some (.lst us)) (hl : us.length ≤ sizeLine) (hA : DfAll K H1 (gdx Γ σ env p) us xs) (hp : put i (.l xs) env = some env') :
    Rel K Γ (σ.set i (some (.ref p))) H1 env' ds1 := by
  obtain ⟨h1, h2, rfl⟩ := put_some hp
  have h3 : i < σ.length := by rw [R.len]; exact h2
  have R1 := R.go e d
  have np := R.new_gd hf
  -- what owns afterwards: p, or another slot
  have ow : ∀ a, owned (σ.set i (some (.ref p))) (env.set i (.l xs)) a → a = p ∨ owned σ env a := by
    rintro a ⟨j, y, q1, q2, q3⟩
    by_cases z : i = j
    · subst z
      rw [List.getElem?_set_self h3] at q3
      cases q3
      exact .inl rfl
    · rw [List.getElem?_set_ne z] at q1 q3
      exact .inr ⟨j, y, q1, q2, q3⟩
  have gx : ∀ a, gd Γ σ env a → a ≠ p → gd Γ (σ.set i (some (.ref p))) (env.set i (.l xs)) a := fun a q n => ⟨q.1, fun z => (ow a z).elim n q.2.1, q.2.2⟩
  -- what was told at H keeps away from p
  have keep : ∀ {v : Option (Option V)} {y : Sl}, SlR K Γ H (gd Γ σ env) v y → SlR K Γ H1 (gd Γ (σ.set i (some (.ref p))) (env.set i (.l xs))) v y := by
    intro v y q
    have m : ∀ {u : V} {x : PyData}, Df K H (gd Γ σ env) u x → Df K H1 (gd Γ (σ.set i (some (.ref p))) (env.set i (.l xs))) u x := fun q =>
      (q.avoid hf).mono (fun a u z k => ⟨gx a z.1 z.2, e a _ z.1.2.2 k⟩) fun _ _ z => tup_ext e R.draw z
    have ms : ∀ {u : List V} {x : List PyData}, DfAll K H (gd Γ σ env) u x → DfAll K H1 (gd Γ (σ.set i (some (.ref p))) (env.set i (.l xs))) u x := fun q =>
      (q.avoid hf).mono (fun a u z k => ⟨gx a z.1 z.2, e a _ z.1.2.2 k⟩) fun _ _ z => tup_ext e R.draw z
    cases y with
    | un => trivial
    | d x =>
      obtain ⟨u, q1, q2⟩ := q
      exact ⟨u, q1, m q2⟩
    | l x =>
      obtain ⟨a, u, q1, q2, q3, q4, q5, q6⟩ := q
      exact ⟨a, u, q1, e a _ q6 q2, ms q3, q4, q5, q6⟩
    | lk x =>
      obtain ⟨a, u, q1, q2, q3, q4, q5, q6⟩ := q
      exact ⟨a, u, q1, e a _ q6 q2, ms q3, q4, q5, q6⟩
    | dc t0 x =>
      obtain ⟨a, u, q1, q2, q3, q4, q5, q6⟩ := q
      exact ⟨a, u, q1, e a _ q6 q2, ms q3, q4, q5, q6⟩
    | drw => exact q
    | scr ns =>
      obtain ⟨a, q1, q2, q3⟩ := q
      exact ⟨a, q1, scr_ext e R.draw q2, q3⟩
  have free : Γ.H0 p = none := by
    cases q : Γ.H0 p with
    | none => rfl
    | some o =>
      have := R.ext p o np.2.2 q
      rw [hf] at this
      cases this
  -- an owning slot stands elsewhere
  have apart : ∀ (j : Nat) (y : Sl), env[j]? = some y → y.own = true → σ[j]? ≠ some (some (.ref p)) := fun j y hy oy z => by
    obtain ⟨us', q, _⟩ := R.own_at ⟨j, y, hy, oy, z⟩
    rw [hf] at q
    cases q
  refine ⟨by rw [List.length_set, List.length_set]; exact R.len, fun j y hy => ?_, fun j k y z hjk hj hk oj ok => ?_, R.okf, R1.ext, d, fun q eq z => ?_, fun q hq => ?_⟩
  · by_cases z : i = j
    · subst z
      rw [List.getElem?_set_self h2] at hy
      cases hy
      rw [List.getElem?_set_self h3]
      exact ⟨p, us, rfl, hH, hA.mono (fun a u q k => ⟨gx a q.1 q.2, k⟩) (fun _ _ q => q), hl, free, np.2.2⟩
    · rw [List.getElem?_set_ne z] at hy ⊢
      exact keep (R.slot j y hy)
  · by_cases n1 : i = j
    · subst n1
      have n2 : i ≠ k := hjk
      rw [List.getElem?_set_ne n2] at hk ⊢
      rw [List.getElem?_set_self h3]
      exact fun z' => apart k z hk ok z'.symm
    · rw [List.getElem?_set_ne n1] at hj ⊢
      by_cases n2 : i = k
      · subst n2
        rw [List.getElem?_set_self h3]
        exact fun z' => apart j y hj oj z'
      · rw [List.getElem?_set_ne n2] at hk ⊢
        exact R.sep j k y z hjk hj hk oj ok
  · rcases ow _ z with z | z
    · -- the cells' list was there at H
      have dd := R.draw
      unfold DrR at dd
      rw [eq] at dd
      cases hds : ds with
      | none => rw [hds] at dd; exact dd
      | some s =>
        rw [hds] at dd
        have := dd.2.1
        rw [z, hf] at this
        cases this
    · exact R.drc q eq z
  · obtain ⟨ys, e1, e2⟩ := R.lkd q hq
    have n1 : i ≠ q.1 := fun z => by
      subst z
      exact h1 ys e1
    exact ⟨ys, by rw [List.getElem?_set_ne n1]; exact e1, by rw [List.getElem?_set_ne n1]; exact e2⟩
/-- one's own list is changed -/
theorem Rel.upd_l (R : Rel K Γ σ H env ds) {i : Nat} {a : Addr} {us' : List V} {xs xs' : List PyData} (hs : env[i]? = some (.l xs)) (hv : σ[i]? = some (some (.ref a))) (hl : us'.length ≤ sizeLine) (hA : DfAll K H (gd Γ σ env) us' xs') :
    Rel K Γ σ (upd H a (.lst us')) (env.set i (.l xs')) ds := by
  have q := R.slot i _ hs
  obtain ⟨b, us0, e1, e2, e3, e4, e5, e6⟩ := q
  rw [hv] at e1
  cases e1
  have h2 : i < env.length := (List.getElem?_eq_some_iff.mp hs).1
  have oa : owned σ env a := ⟨i, _, hs, rfl, hv⟩
  have ow : ∀ c, owned σ (env.set i (.l xs')) c ↔ owned σ env c := fun c => by
    constructor
    · rintro ⟨j, y, q1, q2, q3⟩
      by_cases z : i = j
      · subst z
        exact ⟨i, _, hs, rfl, q3⟩
      · rw [List.getElem?_set_ne z] at q1
        exact ⟨j, y, q1, q2, q3⟩
    · rintro ⟨j, y, q1, q2, q3⟩
      by_cases z : i = j
      · subst z
        exact ⟨i, .l xs', by rw [List.getElem?_set_self h2], rfl, q3⟩
      · exact ⟨j, y, by rw [List.getElem?_set_ne z]; exact q1, q2, q3⟩
  have gg : ∀ c, gd Γ σ env c → gd Γ σ (env.set i (.l xs')) c ∧ c ≠ a := fun c q => ⟨⟨q.1, fun z => q.2.1 ((ow c).mp z), q.2.2⟩, fun z => q.2.1 (by rw [z]; exact oa)⟩
  have tq : ∀ c u, H c = some (.tup u) → upd H a (.lst us') c = some (.tup u) := fun c u q => by
    rw [upd_ne (ne_of q e2 (by intro z; cases z))]; exact q
  have m : ∀ {u : V} {x : PyData}, Df K H (gd Γ σ env) u x → Df K (upd H a (.lst us')) (gd Γ σ (env.set i (.l xs'))) u x := fun q =>
    q.mono (fun c u z k => ⟨(gg c z).1, by rw [upd_ne (gg c z).2]; exact k⟩) tq
  have ms : ∀ {u : List V} {x : List PyData}, DfAll K H (gd Γ σ env) u x → DfAll K (upd H a (.lst us')) (gd Γ σ (env.set i (.l xs'))) u x := fun q =>
    q.mono (fun c u z k => ⟨(gg c z).1, by rw [upd_ne (gg c z).2]; exact k⟩) tq
  refine ⟨by rw [List.length_set]; exact R.len, fun j y hy => ?_, fun j k y z hjk hj hk oj ok => ?_, R.okf, fun c o n q => ?_, ?_, fun p e z => R.drc p e ((ow _).mp z), fun p hp => ?_⟩
  · by_cases z : i = j
    · subst z
      rw [List.getElem?_set_self h2] at hy
      cases hy
      exact ⟨a, us', hv, upd_same, ms hA, hl, e5, e6⟩
    · rw [List.getElem?_set_ne z] at hy
      have q := R.slot j y hy
      have ne : ∀ b, y.own = true → σ[j]? = some (some (.ref b)) → b ≠ a := fun b oy e w => R.sep i j _ y z hs hy rfl oy (by rw [hv, e, w])
      cases y with
      | un => trivial
      | d x =>
        obtain ⟨u, q1, q2⟩ := q
        exact ⟨u, q1, m q2⟩
      | l x =>
        obtain ⟨b, u, q1, q2, q3, q4⟩ := q
        exact ⟨b, u, q1, by rw [upd_ne (ne b rfl q1)]; exact q2, ms q3, q4⟩
      | lk x =>
        obtain ⟨b, u, q1, q2, q3, q4⟩ := q
        exact ⟨b, u, q1, by rw [upd_ne (ne b rfl q1)]; exact q2, ms q3, q4⟩
      | dc t0 x =>
        obtain ⟨b, u, q1, q2, q3, q4⟩ := q
        exact ⟨b, u, q1, by rw [upd_ne (ne b rfl q1)]; exact q2, ms q3, q4⟩
      | drw => exact q
      | scr ns =>
        obtain ⟨b, q1, q2, q3⟩ := q
        refine ⟨b, q1, ?_, q3⟩
        rcases q2 with ⟨o, q2⟩ | q2
        · refine .inl ⟨o, ?_⟩
          rw [upd_ne (ne_of q2 e2 (by intro z; cases z))]
          exact q2
        · exact .inr q2
  · have hj' : ∃ y', env[j]? = some y' ∧ y'.own = true := by
      by_cases z : i = j
      · subst z; exact ⟨_, hs, rfl⟩
      · rw [List.getElem?_set_ne z] at hj; exact ⟨y, hj, oj⟩
    have hk' : ∃ y', env[k]? = some y' ∧ y'.own = true := by
      by_cases z : i = k
      · subst z; exact ⟨_, hs, rfl⟩
      · rw [List.getElem?_set_ne z] at hk; exact ⟨_, hk, ok⟩
    obtain ⟨y1, q1, q2⟩ := hj'
    obtain ⟨y2, q3, q4⟩ := hk'
    exact R.sep j k y1 y2 hjk q1 q3 q2 q4
  · have w := R.ext c o n q
    have : c ≠ a := fun z => by rw [z, e5] at q; cases q
    rw [upd_ne this]
    exact w
  · have dd := R.draw
    unfold DrR at dd ⊢
    cases hdr : Γ.dr with
    | none =>
      rw [hdr] at dd
      cases ds with
      | none => trivial
      | some s => exact dd
    | some p =>
      rw [hdr] at dd
      cases ds with
      | none => exact dd
      | some s =>
        obtain ⟨d1, d2, d3⟩ := dd
        refine ⟨by rw [upd_ne fun z => e6 p hdr z.symm]; exact d1, ?_, d3⟩
        have : p.2 ≠ a := fun z => R.drc p hdr (by rw [z]; exact oa)
        rw [upd_ne this]
        exact d2
  · obtain ⟨ys, q1, q2⟩ := R.lkd p hp
    have n1 : i ≠ p.1 := fun z => by
      subst z
      rw [hs] at q1
      cases q1
    exact ⟨ys, by rw [List.getElem?_set_ne n1]; exact q1, q2⟩
end

/-! ### meanings of statements -/
inductive Fl where
  | nx (env : Ev)
  | bk (env : Ev)
  | ct (env : Ev)
  | rt (d : PyData)
  | ex (x : Exn) (env : Ev)
abbrev MS := Ev → DS → Option (Fl × DS)
/-- what is handed back: data; where fr, a new list -/
def RetR (fr : Bool) (K : PySem.W.Frag) (Γ : Gm) (H : Hp) (ds : DS) (v : V) (d : PyData) : Prop :=
  Ext Γ Γ.H0 H ∧ DrR K Γ H ds ∧ if fr = true then ∃ p us xs, v = .ref p ∧ d = .list xs ∧ Γ.H0 p = none ∧ Γ.nd p ∧ H p = some (.lst us) ∧ us.length ≤ sizeLine ∧ DfAll K H (fun a => (Γ.ok a ∧ Γ.nd a) ∧ a ≠ p) us xs
    else Df K H (fun a => Γ.ok a ∧ Γ.nd a) v d
def rdS (K : PySem.W.Frag) (C : Exs) (W : WX) (fr : Bool) (m : MS) : TS := fun D σ H => ∃ Γ env ds, Rel K Γ σ H env ds ∧
  match m env ds with
  | some (.nx env', ds') => ∀ σ' H', Rel K Γ σ' H' env' ds' → D.nx σ' H'
  | some (.bk env', ds') => ∀ σ' H', Rel K Γ σ' H' env' ds' → D.bk σ' H'
  | some (.ct env', ds') => ∀ σ' H', Rel K Γ σ' H' env' ds' → D.ct σ' H'
  | some (.rt d, ds') => ∀ v H', RetR fr K Γ H' ds' v d → D.rt v H'
  | some (.ex x env', ds') => ∀ cls dd σ' H', Rel K Γ σ' H' env' ds' → ExR C x cls dd H' → W cls dd σ' H'
  | none => False
/-- the same as a statement about a result -/
def Aft2 (K : PySem.W.Frag) (C : Exs) (W : WX) (fr : Bool) (Γ : Gm) (D : Ends) (r : Option (Fl × DS)) : Prop :=
  match r with
  | some (.nx env', ds') => ∀ σ' H', Rel K Γ σ' H' env' ds' → D.nx σ' H'
  | some (.bk env', ds') => ∀ σ' H', Rel K Γ σ' H' env' ds' → D.bk σ' H'
  | some (.ct env', ds') => ∀ σ' H', Rel K Γ σ' H' env' ds' → D.ct σ' H'
  | some (.rt d, ds') => ∀ v H', RetR fr K Γ H' ds' v d → D.rt v H'
  | some (.ex x env', ds') => ∀ cls dd σ' H', Rel K Γ σ' H' env' ds' → ExR C x cls dd H' → W cls dd σ' H'
  | none => False
theorem rdS_iff {K : PySem.W.Frag} {C : Exs} {W : WX} {fr : Bool} {m : MS} {D : Ends} {σ : St} {H : Hp} : rdS K C W fr m D σ H ↔ ∃ Γ env ds, Rel K Γ σ H env ds ∧ Aft2 K C W fr Γ D (m env ds) := Iff.rfl
abbrev SS (X : Cx) (C : Exs) (W : WX) (fr : Bool) (st : Stmt) (m : MS) : Prop := PS X st (rdS X.K C W fr m)
abbrev SSs (X : Cx) (C : Exs) (W : WX) (fr : Bool) (st : List Stmt) (m : MS) : Prop := PSs X st (rdS X.K C W fr m)
theorem PS.imp {X : Cx} {st : Stmt} {t t' : TS} (h : PS X st t) (f : ∀ D σ H, t' D σ H → t D σ H) : PS X st t' := ⟨fun pins s σ H D I q => h.run pins s σ H D I (f D σ H q)⟩
theorem PSs.imp {X : Cx} {st : List Stmt} {t t' : TS} (h : PSs X st t) (f : ∀ D σ H, t' D σ H → t D σ H) : PSs X st t' := ⟨fun pins s σ H D I q => h.run pins s σ H D I (f D σ H q)⟩
/-- from an expression's result to a statement's -/
def exS {α : Type} (a : ME α) (f : α → MS) : MS := fun env ds => match a env ds with
  | some (.ok x, ds') => f x env ds'
  | some (.exc e, ds') => some (.ex e env, ds')
  | none => none
def mSkip : MS := fun env ds => some (.nx env, ds)
def mSeq (a b : MS) : MS := fun env ds => match a env ds with
  | some (.nx env', ds') => b env' ds'
  | r => r
def mSet (i : Nat) (a : ME PyData) : MS := exS a fun x env ds => match put i (.d x) env with
  | some env' => some (.nx env', ds)
  | none => none
def mSetL (i : Nat) (a : ME (List PyData)) : MS := exS a fun xs env ds => match put i (.l xs) env with
  | some env' => some (.nx env', ds)
  | none => none
def mDrop (a : ME PyData) : MS := exS a fun _ => mSkip
def mRet (a : ME PyData) : MS := exS a fun x _ ds => some (.rt x, ds)
def mRetF (a : ME (List PyData)) : MS := exS a fun x _ ds => some (.rt (.list x), ds)
def mRetN : MS := fun _ ds => some (.rt .none, ds)
def mIfS (c : ME Bool) (a b : MS) : MS := exS c fun x => if x then a else b
def mRaise (x : Exn) : MS := fun env ds => some (.ex x env, ds)
def mBrk : MS := fun env ds => some (.bk env, ds)
def mCont : MS := fun env ds => some (.ct env, ds)
def mNever : MS := fun _ _ => none

section
variable {X : Cx} {C : Exs} {W : WX} {fr : Bool} {st : Stmt} {rest : List Stmt} {m m1 m2 : MS} {e : Expr} {me : ME PyData} {mf : ME (List PyData)} {pos : Pos}
theorem exS_aft {K : PySem.W.Frag} {α : Type} {a : ME α} {f : α → MS} {Γ : Gm} {σ : St} {H : Hp} {env : Ev} {ds : DS} {D : Ends} (R : Rel K Γ σ H env ds) (h : Aft2 K C W fr Γ D (exS a f env ds)) :
    Aft K C W Γ σ H (a env ds) fun x ds1 H1 => Aft2 K C W fr Γ D (f x env ds1) := by
  unfold exS at h
  unfold Aft
  rcases q : a env ds with _ | ⟨x | x, ds1⟩
  · rw [q] at h; exact h
  · rw [q] at h; exact fun H1 e1 d1 => h
  · rw [q] at h
    exact fun cls d H1 e1 d1 hx => h cls d σ H1 (R.go e1 d1) hx
theorem ss_pass : SS X C W fr (.Pass pos) mSkip := PS.imp ps_pass fun D σ H ⟨Γ, env, ds, R, h⟩ => h σ H R
theorem ss_break : SS X C W fr (.Break pos) mBrk := PS.imp ps_break fun D σ H ⟨Γ, env, ds, R, h⟩ => h σ H R
theorem ss_cont : SS X C W fr (.Continue pos) mCont := PS.imp ps_continue fun D σ H ⟨Γ, env, ds, R, h⟩ => h σ H R
theorem sss_nil : SSs X C W fr [] mSkip := PSs.imp pss_nil fun D σ H ⟨Γ, env, ds, R, h⟩ => h σ H R
theorem sss_one (h : SS X C W fr st m) : SSs X C W fr [st] m := pss_one h
theorem seq_aft {K : PySem.W.Frag} {Γ : Gm} {D : Ends} {env : Ev} {ds : DS} (h : Aft2 K C W fr Γ D (mSeq m1 m2 env ds)) : Aft2 K C W fr Γ { D with nx := rdS K C W fr m2 D } (m1 env ds) := by
  unfold mSeq at h
  rcases q : m1 env ds with _ | ⟨f, ds1⟩
  · rw [q] at h; exact h
  · rw [q] at h
    cases f with
    | nx env' => exact fun σ' H' R' => ⟨Γ, env', ds1, R', h⟩
    | bk env' => exact h
    | ct env' => exact h
    | rt d => exact h
    | ex x env' => exact h
theorem sss_cons (h1 : SS X C W fr st m1) (h2 : SSs X C W fr rest m2) : SSs X C W fr (st :: rest) (mSeq m1 m2) :=
  PSs.imp (pss_cons h1 h2) fun D σ H ⟨Γ, env, ds, R, h⟩ => ⟨Γ, env, ds, R, seq_aft h⟩
theorem ss_set (i : Nat) {x : Str} {pos' : Pos} (hN : X.N.Nodup) (he : SE X C W e me) (hi : X.N[i]? = some x := by rfl) (hx : Loc X.env.scope x := by exact .inl rfl) (hs : swapsWith e (some (.Name x pos')) pos.line X.env = pure false := by rfl)
    (hf : X.fn x = true ∨ X.env.scope.names.lookup x = some .local := by first | exact .inl rfl | exact .inr rfl) : SS X C W fr (.Assign [.Name x pos'] e pos) (mSet i me) :=
  PS.imp (ps_set hN hi hx he hs hf) fun D σ H ⟨Γ, env, ds, R, h⟩ => ⟨Γ, env, ds, R, (exS_aft R h).imp fun d ds1 H1 e1 d1 q v hv => by
    cases hp : put i (.d d) env with
    | none => rw [hp] at q; exact q.elim
    | some env' =>
      rw [hp] at q
      exact q _ _ ((R.go e1 d1).set_d hv hp)⟩
theorem ss_setL (i : Nat) {x : Str} {pos' : Pos} (hN : X.N.Nodup) (he : SF X C W e mf) (hi : X.N[i]? = some x := by rfl) (hx : Loc X.env.scope x := by exact .inl rfl) (hs : swapsWith e (some (.Name x pos')) pos.line X.env = pure false := by rfl)
    (hf : X.fn x = true ∨ X.env.scope.names.lookup x = some .local := by first | exact .inl rfl | exact .inr rfl) : SS X C W fr (.Assign [.Name x pos'] e pos) (mSetL i mf) :=
  PS.imp (ps_set hN hi hx he hs hf) fun D σ H ⟨Γ, env, ds, R, h⟩ => ⟨Γ, env, ds, R, (exS_aft R h).imp fun d ds1 H1 e1 d1 q a us h1 h2 h3 h4 => by
    cases hp : put i (.l d) env with
    | none => rw [hp] at q; exact q.elim
    | some env' =>
      rw [hp] at q
      exact q _ _ (R.set_l e1 d1 h1 h2 h3 h4 hp)⟩
theorem ss_expr (he : SE X C W e me) (hs : swapsWith e none pos.line X.env = pure false := by rfl) : SS X C W fr (.Expr e pos) (mDrop me) :=
  PS.imp (ps_expr he hs) fun D σ H ⟨Γ, env, ds, R, h⟩ => ⟨Γ, env, ds, R, (exS_aft R h).imp fun d ds1 H1 e1 d1 q v hv => q _ _ (R.go e1 d1)⟩
theorem ss_ret (he : SE X C W e me) : SS X C W false (.Return (some e) pos) (mRet me) :=
  PS.imp (ps_ret he) fun D σ H ⟨Γ, env, ds, R, h⟩ => ⟨Γ, env, ds, R, (exS_aft R h).imp fun d ds1 H1 e1 d1 q v hv => q v H1 ⟨R.ext.trans e1, d1, hv.mono (fun a u z k => ⟨⟨z.1, z.2.2⟩, k⟩) fun _ _ z => z⟩⟩
theorem ss_retN : SS X C W false (.Return none pos) mRetN :=
  PS.imp ps_retN fun D σ H ⟨Γ, env, ds, R, h⟩ => h .non H ⟨R.ext, R.draw, .non⟩
theorem ss_retF (he : SF X C W e mf) : SS X C W true (.Return (some e) pos) (mRetF mf) :=
  PS.imp (ps_ret he) fun D σ H ⟨Γ, env, ds, R, h⟩ => ⟨Γ, env, ds, R, (exS_aft R h).imp fun d ds1 H1 e1 d1 q a us h1 h2 h3 h4 => by
    have np := R.new_gd h1
    refine q (.ref a) H1 ⟨R.ext.trans e1, d1, ?_⟩
    rw [if_pos rfl]
    refine ⟨a, us, d, rfl, rfl, ?_, np.2.2, h2, h3, h4.mono (fun b u z k => ⟨⟨⟨z.1.1, z.1.2.2⟩, z.2⟩, k⟩) fun _ _ z => z⟩
    cases q' : Γ.H0 a with
    | none => rfl
    | some o =>
      have := R.ext a o np.2.2 q'
      rw [h1] at this
      cases this⟩
/-- one's own list is handed back -/
def mRetL (i : Nat) : MS := fun env ds => match env[i]? with
  | some (.l xs) => some (.rt (.list xs), ds)
  | _ => none
theorem ss_retL (i : Nat) {x : Str} {p : Pos} (hN : X.N[i]? = some x := by rfl) (hv : Vis X.env.scope x := by first | exact Or.inl rfl | exact Or.inr (Or.inl rfl) | exact Or.inr (Or.inr rfl)) (hd : (x == ("__debug__" : Str)) = false := by decide)
    (hcd : (x == ("__classdict__" : Str)) = false := by decide) (fr : Bool) : SS X C W fr (.Return (some (.Name x p)) pos) (mRetL i) :=
  PS.imp (ps_ret (pe_var hN hv hd hcd)) fun D σ H ⟨Γ, env, ds, R, h⟩ => by
    unfold mRetL at h
    cases q : env[i]? with
    | none => rw [q] at h; exact h.elim
    | some x =>
      rw [q] at h
      have s := R.slot i x q
      cases x with
      | l xs =>
        obtain ⟨a, us, e1, e2, e3, e4, e5, e6⟩ := s
        refine ⟨_, e1, h (.ref a) H ⟨R.ext, R.draw, ?_⟩⟩
        have oa : owned σ env a := ⟨i, _, q, rfl, e1⟩
        cases fr with
        | true =>
          rw [if_pos rfl]
          exact ⟨a, us, xs, rfl, rfl, e5, e6, e2, e4, e3.mono (fun b u z k => ⟨⟨⟨z.1, z.2.2⟩, fun w => z.2.1 (by rw [w]; exact oa)⟩, k⟩) fun _ _ z => z⟩
        | false =>
          rw [if_neg Bool.false_ne_true]
          exact .lst ⟨R.okf a e5, e6⟩ e2 e4 (e3.mono (fun b u z k => ⟨⟨z.1, z.2.2⟩, k⟩) fun _ _ z => z)
      | _ => exact h.elim
theorem ss_if {c : Expr} {a b : List Stmt} {mc : ME Bool} (hc : ST X C W c mc) (ha : SSs X C W fr a m1) (hb : SSs X C W fr b m2) : SS X C W fr (.If c a b pos) (mIfS mc m1 m2) :=
  PS.imp (ps_if hc ha hb) fun D σ H ⟨Γ, env, ds, R, h⟩ => ⟨Γ, env, ds, R, (exS_aft R h).imp fun d ds1 H1 e1 d1 q => by
    cases d with
    | true =>
      rw [if_pos rfl]
      exact ⟨Γ, env, ds1, R.go e1 d1, q⟩
    | false =>
      rw [if_neg Bool.false_ne_true]
      exact ⟨Γ, env, ds1, R.go e1 d1, q⟩⟩
theorem ss_raise {x n : Str} {j : Nat} {p p2 p3 : Pos} {Cm : Addr} (hc : X.calm = true) (tk : Takes X W) (hC : C.m = Cm) (q : PySem.W.excIn X.K Cm [.type "ValueError", .type "Exception", .type "BaseException", .type "object"] "ValueError.__new__" = true) (gC : X.mg x = some (.ref Cm)) (kC : PySem.W.keepIn X.K (.ref Cm) = true) (r : Raises X (.ref Cm)) (hg : Gl X x)
    (hdb : (x == ("__debug__" : Str)) = false := by decide) : SS X C W fr (.Raise (some (.Call (.Name x p) [.Constant (.str n) j p2] [] p3)) none pos) (mRaise .malformed) :=
  PS.imp (ps_raise hc tk (pmk_own PySem.F.excBase_ValueError q gC kC r hg hdb)) fun D σ H ⟨Γ, env, ds, R, h⟩ => h _ none σ H R ⟨by rw [hC], rfl⟩
end
end DL

/-! DL6: targets, loops, comprehensions. -/
namespace DL
open PySem PySem.Spec L2
open PyProof.Rows hiding St

/-! ### another ground -/
section
variable {K : PySem.W.Frag} {C : Exs} {W : WX} {fr : Bool} {Γ : Gm} {σ σ' : St} {H H1 H' : Hp} {env env' : Ev} {ds ds' : DS}
open Classical in
noncomputable def Gm.at (Γ : Gm) (σ : St) (env : Ev) (H : Hp) : Gm := { Γ with H0 := fun a => if owned σ env a then none else H a }
open Classical in
theorem Gm.at_some {a : Addr} {o : HO} (h : ¬ owned σ env a) (e : H a = some o) : (Γ.at σ env H).H0 a = some o := by
  show (if owned σ env a then none else H a) = some o
  rw [if_neg h]
  exact e
open Classical in
theorem Gm.at_none {a : Addr} (h : (Γ.at σ env H).H0 a = none) : owned σ env a ∨ H a = none := by
  by_cases q : owned σ env a
  · exact .inl q
  · refine .inr ?_
    have h' : (if owned σ env a then none else H a) = none := h
    rw [if_neg q] at h'
    exact h'
open Classical in
theorem Gm.at_le {a : Addr} {o : HO} (h : (Γ.at σ env H).H0 a = some o) : H a = some o := by
  have h' : (if owned σ env a then none else H a) = some o := h
  split at h'
  · cases h'
  · exact h'
open Classical in
theorem Gm.at_owned {a : Addr} (h : owned σ env a) : (Γ.at σ env H).H0 a = none := by
  show (if owned σ env a then none else H a) = none
  rw [if_pos h]
theorem Rel.rebase (R : Rel K Γ σ H env ds) : Rel K (Γ.at σ env H) σ H env ds where
  len := R.len
  slot := fun i x hx => by
    have q := R.slot i x hx
    cases x with
    | un => trivial
    | d y => exact q
    | l xs =>
      obtain ⟨a, us, e1, e2, e3, e4, e5, e6⟩ := q
      exact ⟨a, us, e1, e2, e3, e4, Gm.at_owned ⟨i, _, hx, rfl, e1⟩, e6⟩
    | lk xs =>
      obtain ⟨a, us, e1, e2, e3, e4, e5, e6⟩ := q
      exact ⟨a, us, e1, e2, e3, e4, Gm.at_owned ⟨i, _, hx, rfl, e1⟩, e6⟩
    | dc t0 xs =>
      obtain ⟨a, us, e1, e2, e3, e4, e5, e6⟩ := q
      exact ⟨a, us, e1, e2, e3, e4, Gm.at_owned ⟨i, _, hx, rfl, e1⟩, e6⟩
    | drw => exact q
    | scr ns => exact q
  sep := R.sep
  okf := fun a h => by
    rcases Gm.at_none h with q | q
    · obtain ⟨_, _, _, e, _⟩ := R.own_at q
      exact R.okf a e
    · exact (R.new_gd q).1
  ext := fun a o _ h => Gm.at_le h
  draw := R.draw
  drc := R.drc
  lkd := R.lkd
theorem Gm.at_free (R : Rel K Γ σ H env ds) {a : Addr} (h : (Γ.at σ env H).H0 a = none) : Γ.H0 a = none := by
  rcases Gm.at_none h with q | q
  · obtain ⟨_, _, _, e, _⟩ := R.own_at q
    exact e
  · cases k : Γ.H0 a with
    | none => rfl
    | some o =>
      have := R.ext a o (R.new_gd q).2.2 k
      rw [q] at this
      cases this
theorem Gm.at_ext (R : Rel K Γ σ H env ds) (e : Ext (Γ.at σ env H) (Γ.at σ env H).H0 H') : Ext Γ Γ.H0 H' := fun a o n h => by
  refine e a o n (Gm.at_some (fun q => ?_) (R.ext a o n h))
  obtain ⟨_, _, _, z, _⟩ := R.own_at q
  rw [h] at z
  cases z
theorem Rel.unbase (R : Rel K Γ σ H env ds) (R' : Rel K (Γ.at σ env H) σ' H' env' ds') : Rel K Γ σ' H' env' ds' where
  len := R'.len
  slot := fun i x hx => by
    have q := R'.slot i x hx
    cases x with
    | un => trivial
    | d y => exact q
    | l xs =>
      obtain ⟨a, us, e1, e2, e3, e4, e5, e6⟩ := q
      exact ⟨a, us, e1, e2, e3, e4, Gm.at_free R e5, e6⟩
    | lk xs =>
      obtain ⟨a, us, e1, e2, e3, e4, e5, e6⟩ := q
      exact ⟨a, us, e1, e2, e3, e4, Gm.at_free R e5, e6⟩
    | dc t0 xs =>
      obtain ⟨a, us, e1, e2, e3, e4, e5, e6⟩ := q
      exact ⟨a, us, e1, e2, e3, e4, Gm.at_free R e5, e6⟩
    | drw => exact q
    | scr ns => exact q
  sep := R'.sep
  okf := R.okf
  ext := Gm.at_ext R R'.ext
  draw := R'.draw
  drc := R'.drc
  lkd := R'.lkd
theorem RetR.unbase (R : Rel K Γ σ H env ds) {v : V} {d : PyData} (h : RetR fr K (Γ.at σ env H) H' ds' v d) : RetR fr K Γ H' ds' v d := by
  obtain ⟨h1, h2, h3⟩ := h
  refine ⟨Gm.at_ext R h1, h2, ?_⟩
  cases fr with
  | true =>
    rw [if_pos rfl] at h3 ⊢
    obtain ⟨p, us, xs, e1, e2, e3, e4⟩ := h3
    exact ⟨p, us, xs, e1, e2, Gm.at_free R e3, e4⟩
  | false => exact h3
theorem Aft2.rebase (R : Rel K Γ σ H env ds) {D : Ends} {r : Option (Fl × DS)} (h : Aft2 K C W fr Γ D r) : Aft2 K C W fr (Γ.at σ env H) D r := by
  rcases r with _ | ⟨f, ds1⟩
  · exact h
  · cases f with
    | nx e => exact fun σ' H' R' => h σ' H' (R.unbase R')
    | bk e => exact fun σ' H' R' => h σ' H' (R.unbase R')
    | ct e => exact fun σ' H' R' => h σ' H' (R.unbase R')
    | rt d => exact fun v H' q => h v H' (q.unbase R)
    | ex x e => exact fun cls dd σ' H' R' hx => h cls dd σ' H' (R.unbase R') hx
end

/-! ### targets -/
abbrev Tg := PyData → Ev → Option Ev
abbrev Tgs := List PyData → Ev → Option Ev
/-- slots but those of is stand as they stood -/
def SameBut (is : List Nat) (σ σ' : St) : Prop := σ'.length = σ.length ∧ ∀ j, j ∉ is → σ'[j]? = σ[j]?
def EvBut (is : List Nat) (env env' : Ev) : Prop := env'.length = env.length ∧ ∀ j, j ∉ is → env'[j]? = env[j]?
def rdTg (K : PySem.W.Frag) (is : List Nat) (t : Tg) : TG := fun v σ H Q => ∃ Γ env ds d env', Rel K Γ σ H env ds ∧ Df K H (gd Γ σ env) v d ∧ t d env = some env' ∧ ∀ σ', Rel K Γ σ' H env' ds → SameBut is σ σ' → EvBut is env env' → Q σ' H
def rdTgs (K : PySem.W.Frag) (is : List Nat) (t : Tgs) : TGs := fun vs σ H Q => ∃ Γ env ds d env', Rel K Γ σ H env ds ∧ DfAll K H (gd Γ σ env) vs d ∧ t d env = some env' ∧ ∀ σ', Rel K Γ σ' H env' ds → (∀ a, gd Γ σ env a → gd Γ σ' env' a) → SameBut is σ σ' → EvBut is env env' → Q σ' H
def rdTgm (K : PySem.W.Frag) (is : List Nat) (t : Tg) : TG := fun v σ H Q => ∃ Γ env ds d env', Rel K Γ σ H env ds ∧ Df K H (gd Γ σ env) v d ∧ t d env = some env' ∧ ∀ σ', Rel K Γ σ' H env' ds → (∀ a, gd Γ σ env a → gd Γ σ' env' a) → SameBut is σ σ' → EvBut is env env' → Q σ' H
abbrev SG (X : Cx) (tg : Expr) (is : List Nat) (t : Tg) : Prop := PG X tg (rdTgm X.K is t)
abbrev SGs (X : Cx) (tg : List Expr) (is : List Nat) (t : Tgs) : Prop := PGs X tg (rdTgs X.K is t)
def tName (i : Nat) : Tg := fun d env => put i (.d d) env
def tTup (n : Nat) (ts : Tgs) : Tg := fun d env => match d with
  | .tuple xs => if xs.length = n then ts xs env else none
  | _ => none
def tNilT : Tgs := fun xs env => if xs.isEmpty then some env else none
def tConsT (t : Tg) (ts : Tgs) : Tgs := fun xs env => match xs with
  | x :: r => (t x env).bind (ts r)
  | [] => none
section
variable {X : Cx} {e : Expr} {es : List Expr} {is js : List Nat} {t : Tg} {ts : Tgs} {pos : Pos}
theorem PG.imp {X : Cx} {e : Expr} {t t' : TG} (h : PG X e t) (f : ∀ v σ H Q, t' v σ H Q → t v σ H Q) : PG X e t' := ⟨fun pins s σ H v u Q I r q => h.run pins s σ H v u Q I r (f v σ H Q q)⟩
theorem PGs.imp {X : Cx} {e : List Expr} {t t' : TGs} (h : PGs X e t) (f : ∀ v σ H Q, t' v σ H Q → t v σ H Q) : PGs X e t' := ⟨fun pins s σ H vs us Q I r q => h.run pins s σ H vs us Q I r (f vs σ H Q q)⟩
theorem sg_name (i : Nat) {x : Str} (hN : X.N.Nodup) (hi : X.N[i]? = some x := by rfl) (hx : Loc X.env.scope x := by exact .inl rfl) (hf : X.fn x = true ∨ X.env.scope.names.lookup x = some .local := by first | exact .inl rfl | exact .inr rfl) : SG X (.Name x pos) [i] (tName i) :=
  PG.imp (pg_name hN hi hx hf) fun v σ H Q ⟨Γ, env, ds, d, env', R, hv, ht, q⟩ => by
    obtain ⟨h1, h2, h3⟩ := put_some ht
    refine q _ (R.set_d hv ht) (fun a z => by rw [h3]; exact gd_set_d rfl z) ⟨List.length_set .., fun j hj => ?_⟩ ⟨by rw [h3, List.length_set], fun j hj => ?_⟩
    · rw [List.getElem?_set_ne fun z => hj (by rw [z]; exact List.mem_cons_self)]
    · rw [h3, List.getElem?_set_ne fun z => hj (by rw [z]; exact List.mem_cons_self)]
theorem sgs_nil : SGs X [] [] tNilT := PGs.imp pgs_nil fun v σ H Q ⟨Γ, env, ds, d, env', R, hv, ht, q⟩ => by
  unfold tNilT at ht
  split at ht
  · rename_i hd
    cases ht
    cases d with
    | nil =>
      cases hv
      exact ⟨rfl, q σ R (fun _ z => z) ⟨rfl, fun _ _ => rfl⟩ ⟨rfl, fun _ _ => rfl⟩⟩
    | cons x r => cases hd
  · cases ht
theorem sgs_cons (h1 : SG X e is t) (h2 : SGs X es js ts) (hs : (assignEach (e :: es) X.env).map (·.2) = assign e X.env :: (assignEach es X.env).map (·.2) := by rfl) : SGs X (e :: es) (is ++ js) (tConsT t ts) :=
  PGs.imp (pgs_cons h1 h2 hs) fun v σ H Q ⟨Γ, env, ds, d, env', R, hv, ht, q⟩ => by
    cases hv with
    | nil => cases ht
    | cons a b =>
      obtain ⟨env1, q1, q2⟩ := Option.bind_eq_some_iff.mp (show (t _ env).bind _ = some env' from ht)
      refine ⟨_, _, rfl, Γ, env, ds, _, env1, R, a, q1, fun σ1 R1 g1 s1 v1 => ?_⟩
      refine ⟨Γ, env1, ds, _, env', R1, b.mono (fun c u z k => ⟨g1 c z, k⟩) (fun _ _ z => z), q2, fun σ2 R2 g2 s2 v2 => ?_⟩
      refine q σ2 R2 (fun c z => g2 c (g1 c z)) ⟨s2.1.trans s1.1, fun j hj => ?_⟩ ⟨v2.1.trans v1.1, fun j hj => ?_⟩
      · exact (s2.2 j fun z => hj (List.mem_append_right _ z)).trans (s1.2 j fun z => hj (List.mem_append_left _ z))
      · exact (v2.2 j fun z => hj (List.mem_append_right _ z)).trans (v1.2 j fun z => hj (List.mem_append_left _ z))
theorem sg_tup {k n : Nat} (hc : X.calm = true) (h : SGs X es is ts) (hn : (assignEach es X.env).length = n := by rfl) (hst : (assignEach es X.env).findIdx? (·.1) = none := by rfl) : SG X (.Tuple es k pos) is (tTup n ts) :=
  PG.imp (pg_tup hc h hn hst) fun v σ H Q ⟨Γ, env, ds, d, env', R, hv, ht, q⟩ => by
    unfold tTup at ht
    split at ht
    · split at ht
      · rename_i hl
        cases hv with
        | tup a1 a2 a3 => exact ⟨_, _, rfl, SqT.of a1, a3.length.trans hl, Γ, env, ds, _, env', R, a3, ht, q⟩
      · cases ht
    · cases ht
/-- target = data -/
def mAsg (t : Tg) (a : ME PyData) : MS := exS a fun x env ds => match t x env with
  | some env' => some (.nx env', ds)
  | none => none
theorem ss_asg {C : Exs} {W : WX} {fr : Bool} {tg : Expr} {me : ME PyData} (he : SE X C W e me) (hg : SG X tg is t) (hs : swapsWithSole [tg] e pos.line X.env = pure false := by rfl) (hw : swappedStores [tg] e X.env = pure none := by rfl)
    (h1 : (assignEach [tg] X.env).map (·.2) = [assign tg X.env] := by rfl) : SS X C W fr (.Assign [tg] e pos) (mAsg t me) :=
  PS.imp (ps_asg he hg hs hw h1) fun D σ H ⟨Γ, env, ds, R, h⟩ => ⟨Γ, env, ds, R, (exS_aft R h).imp fun d ds1 H1 e1 d1 q v hv => by
    cases ht : t d env with
    | none => rw [ht] at q; exact q.elim
    | some env' =>
      rw [ht] at q
      exact ⟨Γ, env, ds1, d, env', R.go e1 d1, hv, ht, fun σ' R' _ _ _ => q σ' H1 R'⟩⟩
end

/-! ### what is walked -/
structure Wlk (K : PySem.W.Frag) (J : It) (items : List PyData) (g : Addr → Prop) (H : Hp) : Prop where
  go : ∀ i, i < items.length → J.go i H
  yld : ∀ i x H', i < items.length → J.yld i H x H' → ∃ d, items[i]? = some d ∧ (∀ a o, H a = some o → H' a = some o) ∧ Df K H' g x d
  stop : ∀ i, items.length ≤ i → J.stop i H
theorem Wlk.mono {K : PySem.W.Frag} {J : It} {items : List PyData} {g g' : Addr → Prop} {H : Hp} (h : Wlk K J items g H) (hg : ∀ a, g a → g' a) : Wlk K J items g' H :=
  ⟨h.go, fun i x H' hi q => let ⟨d, e1, e2, e3⟩ := h.yld i x H' hi q; ⟨d, e1, e2, e3.mono (fun a u z k => ⟨hg a z, k⟩) fun _ _ z => z⟩, h.stop⟩
def Kept (Γ : Gm) (σ : St) (env : Ev) (H H' : Hp) : Prop := ∀ a o, ¬ owned σ env a → Γ.nd a → (∀ us, o = .lst us → Γ.ok a) → H a = some o → H' a = some o
def Wk (K : PySem.W.Frag) (Γ : Gm) (σ : St) (env : Ev) (J : It) (items : List PyData) (H : Hp) : Prop := ∀ H2, Kept Γ σ env H H2 → Wlk K J items (fun b => gd Γ σ env b ∧ H b ≠ none) H2
def rdI (K : PySem.W.Frag) (C : Exs) (W : WX) (mi : ME (List PyData)) : TI := fun σ H R => ∃ Γ env ds, Rel K Γ σ H env ds ∧ Aft K C W Γ σ H (mi env ds) fun items _ H' => ∀ J, Wk K Γ σ env J items H' → R J H'
abbrev SI (X : Cx) (C : Exs) (W : WX) (tg iter : Expr) (mi : ME (List PyData)) : Prop := PI X tg iter (rdI X.K C W mi)
theorem PI.imp {X : Cx} {tg e : Expr} {t t' : TI} (h : PI X tg e t) (f : ∀ σ H Q, t' σ H Q → t σ H Q) : PI X tg e t' := ⟨fun pins s σ H Q I q => h.run pins s σ H Q I (f σ H Q q)⟩
section
variable {K : PySem.W.Frag} {Γ : Gm} {σ : St} {env : Ev} {H H2 : Hp} {ds : DS}
theorem kept_nd (R : Rel K Γ σ H env ds) {a : Addr} {o : HO} (h : H a = some o) (hn : ¬ MutO o) : ¬ owned σ env a ∧ Γ.nd a := by
  refine ⟨fun q => ?_, fun p e z => ?_⟩
  · obtain ⟨_, e, mo, _⟩ := R.own_at q
    rw [h] at e
    cases e
    exact hn mo
  · have d := R.draw
    unfold DrR at d
    rw [e] at d
    cases ds with
    | none => exact d
    | some s =>
      have := d.1
      rw [← z, h] at this
      cases this
      exact hn (.inl ⟨_, rfl⟩)
theorem kept_sqT (R : Rel K Γ σ H env ds) (k : Kept Γ σ env H H2) {a : Addr} {u : List V} (h : SqT K H a u) : SqT K H2 a u := by
  rcases h with (h | ⟨o, h⟩) | h
  · obtain ⟨n1, n2⟩ := kept_nd R h imm_tup
    exact .inl (.inl (k a _ n1 n2 (fun _ z => by cases z) h))
  · obtain ⟨n1, n2⟩ := kept_nd R h imm_frz
    exact .inl (.inr ⟨o, k a _ n1 n2 (fun _ z => by cases z) h⟩)
  · exact .inr h
theorem kept_tup (R : Rel K Γ σ H env ds) (k : Kept Γ σ env H H2) {a : Addr} {u : List V} (h : H a = some (.tup u)) : H2 a = some (.tup u) := by
  obtain ⟨n1, n2⟩ := kept_nd R h imm_tup
  exact k a _ n1 n2 (fun _ z => by cases z) h
theorem kept_dfAll (R : Rel K Γ σ H env ds) (k : Kept Γ σ env H H2) {u : List V} {x : List PyData} (h : DfAll K H (gd Γ σ env) u x) : DfAll K H2 (fun b => gd Γ σ env b ∧ H b ≠ none) u x :=
  h.mono (fun a u z e => ⟨⟨z, by rw [e]; intro w; cases w⟩, k a _ z.2.1 z.2.2 (fun _ _ => z.1) e⟩) fun _ _ z => kept_tup R k z
/-- SqL, SqT tell one thing, by the data's length and items -/
theorem wk_list (R : Rel K Γ σ H env ds) {a : Addr} {us : List V} {xs : List PyData} (h1 : gd Γ σ env a) (h2 : H a = some (.lst us)) (h3 : DfAll K H (gd Γ σ env) us xs) : Wk K Γ σ env (Itl K a) xs H := fun H2 k => by
  have s2 : H2 a = some (.lst us) := k a _ h1.2.1 h1.2.2 (fun _ _ => h1.1) h2
  have d2 := kept_dfAll R k h3
  refine ⟨fun i hi => ?_, fun i x H' hi q => ?_, fun i hi => ⟨us, SqL.of s2, by rw [h3.length]; exact hi⟩⟩
  · rw [← h3.length] at hi
    exact ⟨us, us[i], SqL.of s2, List.getElem?_eq_getElem hi⟩
  · obtain ⟨rfl, q⟩ := q
    obtain ⟨d, e1, e2⟩ := d2.getV (q us (SqL.of s2))
    exact ⟨d, e1, fun _ _ z => z, e2⟩
theorem wk_tup (R : Rel K Γ σ H env ds) {a : Addr} {us : List V} {xs : List PyData} (h2 : SqT K H a us) (h3 : DfAll K H (gd Γ σ env) us xs) : Wk K Γ σ env (Itt K a) xs H := fun H2 k => by
  have s2 := kept_sqT R k h2
  have d2 := kept_dfAll R k h3
  refine ⟨fun i hi => ?_, fun i x H' hi q => ?_, fun i hi => ⟨us, s2, by rw [h3.length]; exact hi⟩⟩
  · rw [← h3.length] at hi
    exact ⟨us, us[i], s2, List.getElem?_eq_getElem hi⟩
  · obtain ⟨rfl, q⟩ := q
    obtain ⟨d, e1, e2⟩ := d2.getV (q us s2)
    exact ⟨d, e1, fun _ _ z => z, e2⟩
def rangeD (lo : Int) (n : Nat) : List PyData := (List.range n).map fun (k : Nat) => PyData.int (lo + (k : Int))
theorem wk_range {lo : Int} {n : Nat} : Wk K Γ σ env (Itr lo n) (rangeD lo n) H := fun H2 k => by
  have hl : (rangeD lo n).length = n := by unfold rangeD; rw [List.length_map, List.length_range]
  refine ⟨fun i hi => by rw [hl] at hi; exact hi, fun i x H' hi q => ?_, fun i hi => by rw [hl] at hi; exact hi⟩
  obtain ⟨rfl, rfl⟩ := q
  rw [hl] at hi
  refine ⟨_, ?_, fun _ _ z => z, .int _⟩
  unfold rangeD
  rw [List.getElem?_map, List.getElem?_range hi]
  rfl
end
/-! sources -/
def itemsOf : PyData → Option (List PyData)
  | .list xs => some xs
  | .tuple xs => some xs
  | _ => none
def mItems (a : ME PyData) : ME (List PyData) := a.bind fun x => ME.lift (itemsOf x)
def mRng1 (a : ME PyData) : ME (List PyData) := a.bind fun x => ME.lift (match x with | .int j => if decide (-(2 ^ 62) ≤ j ∧ j < 2 ^ 62) then some (rangeD 0 j.toNat) else none | _ => none)
def mRng2 (a b : ME PyData) : ME (List PyData) := a.bind fun x => b.bind fun y => ME.lift (match x, y with | .int i, .int j => if decide (-(2 ^ 62) ≤ i ∧ i < 2 ^ 62 ∧ -(2 ^ 62) ≤ j ∧ j < 2 ^ 62) then some (rangeD i (j - i).toNat) else none | _, _ => none)
section
variable {X : Cx} {C : Exs} {W : WX} {tg e a b : Expr} {me ma mb : ME PyData} {p pos : Pos}
/-- a list or a tuple that is walked -/
def iSeq (K : PySem.W.Frag) (tl : TE) : TI := fun σ H R => tl σ H fun x H1 => ∃ a, x = .ref a ∧ (((∃ xs, SqL K H1 a xs) ∧ R (Itl K a) H1) ∨ ((∃ xs, SqT K H1 a xs) ∧ R (Itt K a) H1))
theorem pi_seq {tl : TE} (hl : PE X e tl) : PI X tg e (iSeq X.K tl) := ⟨fun pins s σ H R I h =>
  thn (hl.run pins s σ H _ I h) fun v s1 ⟨x, H1, I1, r1, a, ex, q⟩ => by
    subst ex
    cases r1
    rcases q with ⟨⟨xs, hq⟩, q⟩ | ⟨⟨xs, hq⟩, q⟩
    · obtain ⟨its, rv, pl, hz⟩ := I1.list hq
      exact wpAny_pyIter_list pl.isList (pi_one (tk := s1.toks) I1 _ (turn_list a _) ⟨_, Heap.get?_push_size _ rfl, rfl, rfl⟩ q)
    · obtain ⟨its, rv, pl, hz⟩ := I1.tuple hq
      exact wpAny_pyIter_tuple (show s1.heap.IsTuple a its.toArray from pl) (pi_one (tk := s1.toks) I1 _ (turn_tuple a _) ⟨_, Heap.get?_push_size _ rfl, rfl, rfl⟩ q)⟩
theorem si_seq (he : SE X C W e me) : SI X C W tg e (mItems me) :=
  PI.imp (pi_seq he) fun σ H Q ⟨Γ, env, ds, R, h⟩ => ⟨Γ, env, ds, R, h.bind.imp fun d ds1 H1 e1 d1 q v hv => by
    obtain ⟨z, hz, q⟩ := lift_some q
    have R1 := R.go e1 d1
    cases d with
    | list xs =>
      cases hz
      cases hv with
      | lst a1 a2 a3 a4 => exact ⟨_, rfl, .inl ⟨⟨_, SqL.of a2⟩, q H1 Ext.refl d1 _ (wk_list R1 a1 a2 a4)⟩⟩
    | tuple xs =>
      cases hz
      cases hv with
      | tup a2 a3 a4 => exact ⟨_, rfl, .inr ⟨⟨_, SqT.of a2⟩, q H1 Ext.refl d1 _ (wk_tup R1 (SqT.of a2) a4)⟩⟩
    | _ => cases hz⟩
theorem si_rng1 (hm : X.mg "range" = none) (ha : SE X C W a ma) (hg : Gl X "range" := by rfl) (h1 : starEach (a :: []) X.env = (false, eval a X.env) :: starEach [] X.env := by rfl) (hs : starEach [a] X.env = [(false, eval a X.env)] := by rfl) : SI X C W tg (.Call (.Name "range" p) [a] [] pos) (mRng1 ma) :=
  PI.imp (pi_range1 hg hm (pa_cons ha pa_nil h1) hs) fun σ H Q ⟨Γ, env, ds, R, h⟩ => ⟨Γ, env, ds, R, h.bind.imp fun d ds1 H1 e1 d1 q v hv => by
    obtain ⟨z, hz, q⟩ := lift_some q
    cases d with
    | int j =>
      cases hv
      dsimp only at hz
      split at hz
      · rename_i hc
        cases hz
        have hc := of_decide_eq_true hc
        exact ⟨j, rfl, hc.1, hc.2, q H1 Ext.refl d1 _ wk_range⟩
      · cases hz
    | _ => cases hz⟩
theorem si_rng2 (hm : X.mg "range" = none) (ha : SE X C W a ma) (hb : SE X C W b mb) (hg : Gl X "range" := by rfl) (h1 : starEach (a :: [b]) X.env = (false, eval a X.env) :: starEach [b] X.env := by rfl) (h2 : starEach (b :: []) X.env = (false, eval b X.env) :: starEach [] X.env := by rfl)
    (h3 : starEach [a, b] X.env = [(false, eval a X.env), (false, eval b X.env)] := by rfl) : SI X C W tg (.Call (.Name "range" p) [a, b] [] pos) (mRng2 ma mb) :=
  PI.imp (pi_range2 hg hm (pa_cons ha (pa_cons hb pa_nil h2) h1) h3 h2) fun σ H Q ⟨Γ, env, ds, R, h⟩ => ⟨Γ, env, ds, R, h.bind.imp fun d ds1 H1 e1 d1 q v hv => ⟨Γ, env, ds1, R.go e1 d1, q.bind.imp fun d2 ds2 H2 e2 d2' q w hw => by
    obtain ⟨z, hz, q⟩ := lift_some q
    cases d with
    | int i =>
      cases d2 with
      | int j =>
        cases hv
        cases hw
        dsimp only at hz
        split at hz
        · rename_i hc
          cases hz
          have hc := of_decide_eq_true hc
          exact ⟨i, j, rfl, hc, q H2 Ext.refl d2' _ wk_range⟩
        · cases hz
      | _ => cases hz
    | _ => cases hz⟩⟩
end

/-! ### for -/
def forGo (t : Tg) (body : MS) : List PyData → Ev → DS → Option (Fl × DS)
  | [], env, ds => some (.nx env, ds)
  | x :: r, env, ds => match t x env with
    | none => none
    | some env1 => match body env1 ds with
      | some (.nx e, ds') => forGo t body r e ds'
      | some (.ct e, ds') => forGo t body r e ds'
      | some (.bk e, ds') => some (.nx e, ds')
      | some (.rt d, ds') => some (.rt d, ds')
      | some (.ex x e, ds') => some (.ex x e, ds')
      | none => none
def mFor (mi : ME (List PyData)) (t : Tg) (body : MS) : MS := exS mi fun items env ds => forGo t body items env ds
section
variable {K : PySem.W.Frag} {C : Exs} {W : WX} {fr : Bool} {Γ : Gm} {σ : St} {H : Hp} {env : Ev} {ds : DS} {J : It} {items : List PyData} {t : Tg} {is : List Nat} {body : MS} {D : Ends}
theorem drR_kept {H' : Hp} (d : DrR K Γ H ds) (k : ∀ a o, H a = some o → H' a = some o) : DrR K Γ H' ds := by
  unfold DrR at d ⊢
  cases e : Γ.dr with
  | none =>
    rw [e] at d
    cases ds with
    | none => trivial
    | some s => exact d
  | some p =>
    rw [e] at d
    cases ds with
    | none => exact d
    | some s => exact ⟨k _ _ d.1, k _ _ d.2.1, d.2.2⟩
theorem for_loop (hw : ∀ σ' H' env' ds', Rel K Γ σ' H' env' ds' → Wlk K J items (gd Γ σ' env') H') (R : Rel K Γ σ H env ds) (h : Aft2 K C W fr Γ D (forGo t body items env ds)) :
    ∃ W' : Nat → Nat → St → Hp → Prop, (∃ m, W' 0 m σ H) ∧ ∀ i m σ H, W' i m σ H → (J.stop i H ∧ D.nx σ H) ∨ (J.go i H ∧ ∃ N : St → Hp → Prop, (∀ σ' H', N σ' H' → ∃ m', m' < m ∧ W' (i + 1) m' σ' H') ∧
      ∀ x H', J.yld i H x H' → rdTgm K is t x σ H' fun σ2 H2 => rdS K C W fr body { D with nx := N, ct := N, bk := D.nx } σ2 H2) := by
  refine ⟨fun i m σ H => m = items.length - i ∧ i ≤ items.length ∧ ∃ env ds, Rel K Γ σ H env ds ∧ Aft2 K C W fr Γ D (forGo t body (items.drop i) env ds), ⟨_, rfl, Nat.zero_le _, env, ds, R, h⟩, ?_⟩
  rintro i m σ H ⟨rfl, hi, env, ds, R, h⟩
  have wl := hw σ H env ds R
  by_cases hlt : i < items.length
  · refine .inr ⟨wl.go i hlt, fun σ' H' => (items.length - (i + 1)) = items.length - (i + 1) ∧ i + 1 ≤ items.length ∧ ∃ env ds, Rel K Γ σ' H' env ds ∧ Aft2 K C W fr Γ D (forGo t body (items.drop (i + 1)) env ds), fun σ' H' n => ⟨items.length - (i + 1), by omega, n⟩, fun x H' y => ?_⟩
    obtain ⟨d, e1, k, hx⟩ := wl.yld i x H' hlt y
    have e2 : items.drop i = d :: items.drop (i + 1) := by
      rw [List.drop_eq_getElem_cons hlt]
      rw [List.getElem?_eq_getElem hlt] at e1
      rw [Option.some.inj e1]
    rw [e2] at h
    have R' : Rel K Γ σ H' env ds := R.go (fun a o _ q => k a o q) (drR_kept R.draw k)
    unfold forGo at h
    cases ht : t d env with
    | none => rw [ht] at h; exact h.elim
    | some env1 =>
      rw [ht] at h
      dsimp only at h
      refine ⟨Γ, env, ds, d, env1, R', hx, ht, fun σ2 R2 _ _ _ => ⟨Γ, env1, ds, R2, ?_⟩⟩
      show Aft2 K C W fr Γ _ (body env1 ds)
      rcases q : body env1 ds with _ | ⟨f, ds1⟩
      · rw [q] at h; exact h
      · rw [q] at h
        cases f with
        | nx e => exact fun σ' H' R' => ⟨rfl, hlt, e, ds1, R', h⟩
        | ct e => exact fun σ' H' R' => ⟨rfl, hlt, e, ds1, R', h⟩
        | bk e => exact h
        | rt d => exact h
        | ex x e => exact h
  · refine .inl ⟨wl.stop i (by omega), ?_⟩
    rw [List.drop_eq_nil_of_le (by omega)] at h
    exact h σ H R
end
section
variable {X : Cx} {C : Exs} {W : WX} {fr : Bool} {tg iter : Expr} {mi : ME (List PyData)} {t : Tg} {is : List Nat} {body : List Stmt} {m : MS} {pos : Pos}
theorem wk_at {K : PySem.W.Frag} {Γ : Gm} {σ : St} {H : Hp} {env : Ev} {ds : DS} {J : It} {items : List PyData} (R : Rel K Γ σ H env ds) (wk : Wk K Γ σ env J items H) : ∀ σ' H' env' ds', Rel K (Γ.at σ env H) σ' H' env' ds' → Wlk K J items (gd (Γ.at σ env H) σ' env') H' := fun σ' H' env' ds' R' => by
  refine (wk H' fun a o n1 n2 _ q => R'.ext a o n2 (Gm.at_some n1 q)).mono fun a ⟨z, hz⟩ => ⟨z.1, fun q => ?_, z.2.2⟩
  obtain ⟨_, _, _, e, _⟩ := R'.own_at q
  rcases Gm.at_none e with w | w
  · exact z.2.1 w
  · exact hz w
theorem ss_for (hp : PassesOwn (model X.prog X.w) X.A X.env X.xe) (hc : X.calm = true) (hi : SI X C W tg iter mi) (hg : SG X tg is t) (hb : SSs X C W fr body m) (hs : ∀ x, foldedSetIterable iter X.env x = pure x := by intro _; rfl) : SS X C W fr (.For tg iter body [] pos) (mFor mi t m) :=
  PS.imp (ps_for hp hc hi hg hb hs) fun D σ H ⟨Γ, env, ds, R, h⟩ => ⟨Γ, env, ds, R, (exS_aft R h).imp fun items ds1 H1 e1 d1 q J wk =>
    have R1 := R.go e1 d1
    for_loop (wk_at R1 wk) R1.rebase (q.rebase R1)⟩

/-! ### for over one's own list: it is locked meanwhile -/
def mForV (i : Nat) (t : Tg) (body : MS) : MS := fun env ds => match env[i]? with
  | some (.l xs) => match forGo t body xs (env.set i (.lk xs)) ds with
    | some (.nx e, ds') => match e[i]? with
      | some (.lk ys) => some (.nx (e.set i (.l ys)), ds')
      | _ => none
    | some (.bk _, _) => none
    | some (.ct _, _) => none
    | r => r
  | _ => none
end

/-! ### while -/
def whileGo (c : ME Bool) (body : MS) : Nat → Ev → DS → Option (Fl × DS)
  | 0, _, _ => none
  | n + 1, env, ds => match c env ds with
    | some (.ok true, ds1) => match body env ds1 with
      | some (.nx e, ds') => whileGo c body n e ds'
      | some (.ct e, ds') => whileGo c body n e ds'
      | some (.bk e, ds') => some (.nx e, ds')
      | some (.rt d, ds') => some (.rt d, ds')
      | some (.ex x e, ds') => some (.ex x e, ds')
      | none => none
    | some (.ok false, ds1) => some (.nx env, ds1)
    | some (.exc x, ds1) => some (.ex x env, ds1)
    | none => none
section
variable {X : Cx} {C : Exs} {W : WX} {fr : Bool} {c : Expr} {mc : ME Bool} {body : List Stmt} {m : MS} {pos : Pos}
theorem ss_while (n : Nat) (hp : PassesOwn (model X.prog X.w) X.A X.env X.xe) (hc : ST X C W c mc) (hb : SSs X C W fr body m) : SS X C W fr (.While c body [] pos) (whileGo mc m n) :=
  PS.imp (ps_while hp hc hb) fun D σ H ⟨Γ, env, ds, R, h⟩ => by
    refine ⟨fun k σ H => ∃ env ds, Rel X.K Γ σ H env ds ∧ Aft2 X.K C W fr Γ D (whileGo mc m k env ds), ⟨n, env, ds, R, h⟩, ?_⟩
    rintro k σ H ⟨env, ds, R, h⟩
    cases k with
    | zero => exact h.elim
    | succ k =>
      refine ⟨Γ, env, ds, R, ?_⟩
      unfold whileGo at h
      unfold Aft
      rcases q : mc env ds with _ | ⟨b | x, ds1⟩
      · rw [q] at h; exact h
      · rw [q] at h
        intro H1 e1 d1
        cases b with
        | true =>
          rw [if_pos rfl]
          refine ⟨fun σ' H' => ∃ env ds, Rel X.K Γ σ' H' env ds ∧ Aft2 X.K C W fr Γ D (whileGo mc m k env ds), fun σ' H' z => ⟨k, Nat.lt_succ_self _, z⟩, Γ, env, ds1, R.go e1 d1, ?_⟩
          show Aft2 X.K C W fr Γ _ (m env ds1)
          dsimp only at h
          rcases q2 : m env ds1 with _ | ⟨f, ds2⟩
          · rw [q2] at h; exact h
          · rw [q2] at h
            cases f with
            | nx e => exact fun σ' H' R' => ⟨e, ds2, R', h⟩
            | ct e => exact fun σ' H' R' => ⟨e, ds2, R', h⟩
            | bk e => exact h
            | rt d => exact h
            | ex x e => exact h
        | false =>
          rw [if_neg Bool.false_ne_true]
          exact h σ H1 (R.go e1 d1)
      · rw [q] at h
        exact fun cls dd H' e1 d1 hx => h cls dd σ H' (R.go e1 d1) hx
end
end DL

/-! DL7: comprehensions. -/
namespace DL
open PySem PySem.Spec L2
open PyProof.Rows hiding St

/-- a slot of the comprehension's own: told nothing; it may not hold a list of one's own -/
def wipeE (env : Ev) : List Nat → Option Ev
  | [] => some env
  | v :: vs => (wipeE env vs).bind fun e => match e[v]? with
    | some (.l _) => none
    | some (.lk _) => none
    | some (.dc _ _) => none
    | _ => some (e.set v .un)
section
variable {K : PySem.W.Frag} {C : Exs} {W : WX} {Γ : Gm} {σ : St} {H H1 : Hp} {env env' : Ev} {ds : DS} {D : Addr}
theorem wipeE_ok : ∀ {vs : List Nat} {env' : Ev}, wipeE env vs = some env' → env'.length = env.length ∧ (∀ (j : Nat) (x : Sl), env'[j]? = some x → x = .un ∨ (j ∉ vs ∧ env[j]? = some x)) ∧ ∀ (j : Nat) (x : Sl), env[j]? = some x → x.own = true → j ∉ vs ∧ env'[j]? = some x
  | [], env', h => by
    cases h
    exact ⟨rfl, fun j x q => .inr ⟨List.not_mem_nil, q⟩, fun j x q _ => ⟨List.not_mem_nil, q⟩⟩
  | v :: vs, env', h => by
    obtain ⟨e1, h1, h2⟩ := Option.bind_eq_some_iff.mp h
    obtain ⟨i1, i2, i3⟩ := wipeE_ok h1
    have nown : (∀ xs, e1[v]? ≠ some (.l xs)) ∧ (∀ xs, e1[v]? ≠ some (.lk xs)) ∧ (∀ t xs, e1[v]? ≠ some (.dc t xs)) ∧ env' = e1.set v .un := by
      revert h2
      split
      · intro h2; cases h2
      · intro h2; cases h2
      · intro h2; cases h2
      · rename_i n1 n2 n3
        intro h2
        cases h2
        exact ⟨fun xs q => n1 xs q, fun xs q => n2 xs q, fun t xs q => n3 t xs q, rfl⟩
    obtain ⟨n1, n2, n3, rfl⟩ := nown
    refine ⟨by rw [List.length_set]; exact i1, fun j x q => ?_, fun j x q ox => ?_⟩
    · by_cases z : v = j
      · subst z
        by_cases hl : v < e1.length
        · rw [List.getElem?_set_self hl] at q
          cases q
          exact .inl rfl
        · rw [List.getElem?_eq_none (by rw [List.length_set]; omega)] at q
          cases q
      · rw [List.getElem?_set_ne z] at q
        rcases i2 j x q with w | ⟨w1, w2⟩
        · exact .inl w
        · exact .inr ⟨fun m => (List.mem_cons.mp m).elim (fun e => z e.symm) w1, w2⟩
    · obtain ⟨w1, w2⟩ := i3 j x q ox
      have z : v ≠ j := fun z => by
        subst z
        cases x with
        | l xs => exact n1 xs w2
        | lk xs => exact n2 xs w2
        | dc t0 xs => exact n3 t0 xs w2
        | _ => cases ox
      exact ⟨fun m => (List.mem_cons.mp m).elim (fun e => z e.symm) w1, by rw [List.getElem?_set_ne z]; exact w2⟩
theorem wipe_get : ∀ {vs : List Nat} {j : Nat}, j ∉ vs → (wipe σ vs)[j]? = σ[j]?
  | [], j, _ => rfl
  | v :: vs, j, h => by
    show ((wipe σ vs).set v none)[j]? = σ[j]?
    rw [List.getElem?_set_ne fun z => h (by rw [z]; exact List.mem_cons_self)]
    exact wipe_get fun z => h (List.mem_cons_of_mem _ z)
theorem wipe_in : ∀ {vs : List Nat} {j : Nat}, j ∈ vs → j < σ.length → (wipe σ vs)[j]? = some none
  | v :: vs, j, h, hl => by
    show ((wipe σ vs).set v none)[j]? = some none
    by_cases z : v = j
    · subst z
      rw [List.getElem?_set_self (by rw [wipe_length]; exact hl)]
    · rw [List.getElem?_set_ne z]
      exact wipe_in ((List.mem_cons.mp h).resolve_left fun e => z e.symm) hl
/-- slots that stand but for those of vs are alike when vs are wiped -/
theorem wipe_same {vs is : List Nat} {σ' : St} (h : SameBut is σ σ') (hs : ∀ i ∈ is, i ∈ vs) : wipe σ' vs = wipe σ vs := by
  refine List.ext_getElem? fun j => ?_
  by_cases hj : j ∈ vs
  · by_cases hl : j < σ.length
    · rw [wipe_in hj hl, wipe_in hj (by rw [h.1]; exact hl)]
    · rw [List.getElem?_eq_none (by rw [wipe_length, h.1]; omega), List.getElem?_eq_none (by rw [wipe_length]; omega)]
  · rw [wipe_get hj, wipe_get hj]
    exact h.2 j fun z => hj (hs j z)
theorem wipe_idem {vs : List Nat} : wipe (wipe σ vs) vs = wipe σ vs := by
  refine List.ext_getElem? fun j => ?_
  by_cases hj : j ∈ vs
  · by_cases hl : j < σ.length
    · rw [wipe_in hj (by rw [wipe_length]; exact hl), wipe_in hj hl]
    · rw [List.getElem?_eq_none (by rw [wipe_length, wipe_length]; omega), List.getElem?_eq_none (by rw [wipe_length]; omega)]
  · rw [wipe_get hj]
theorem owned_wipe {vs : List Nat} (h : wipeE env vs = some env') {a : Addr} : owned (wipe σ vs) env' a ↔ owned σ env a := by
  obtain ⟨h1, h2, h3⟩ := wipeE_ok h
  constructor
  · rintro ⟨j, x, q1, q2, q3⟩
    rcases h2 j x q1 with rfl | ⟨w1, w2⟩
    · cases q2
    · rw [wipe_get w1] at q3
      exact ⟨j, x, w2, q2, q3⟩
  · rintro ⟨j, x, q1, q2, q3⟩
    obtain ⟨w1, w2⟩ := h3 j x q1 q2
    exact ⟨j, x, w2, q2, by rw [wipe_get w1]; exact q3⟩
/-- the ground of a block: D is apart -/
noncomputable def Gm.blk (Γ : Gm) (σ : St) (env : Ev) (H : Hp) (D : Addr) : Gm := { Γ.at σ env H with ok := fun a => Γ.ok a ∧ a ≠ D, lk := [] }
theorem Rel.cell_ne (R : Rel K Γ σ H1 env ds) (hf : H1 D = none) (p : Addr × Addr) (e : Γ.dr = some p) : p.2 ≠ D := fun z => by
  have d := R.draw
  unfold DrR at d
  rw [e] at d
  cases ds with
  | none => exact d
  | some s =>
    have := d.2.1
    rw [z, hf] at this
    cases this
theorem DrR.blkR {Hb : Hp} (d : DrR K Γ H ds) (cn : ∀ p, Γ.dr = some p → p.2 ≠ D) : DrR K (Γ.blk σ env Hb D) H ds := by
  unfold DrR at d ⊢
  rw [show (Γ.blk σ env Hb D).dr = Γ.dr from rfl]
  cases hdr : Γ.dr with
  | none =>
    rw [hdr] at d
    cases ds with
    | none => trivial
    | some s => exact d
  | some p =>
    rw [hdr] at d
    cases ds with
    | none => exact d
    | some s => exact ⟨d.1, d.2.1, d.2.2.1, d.2.2.2.1, d.2.2.2.2, cn p hdr⟩
theorem DrR.unblk {Hb : Hp} (d : DrR K (Γ.blk σ env Hb D) H ds) : DrR K Γ H ds := by
  unfold DrR at d ⊢
  rw [show (Γ.blk σ env Hb D).dr = Γ.dr from rfl] at d
  cases hdr : Γ.dr with
  | none =>
    rw [hdr] at d
    cases ds with
    | none => trivial
    | some s => exact d
  | some p =>
    rw [hdr] at d
    cases ds with
    | none => exact d
    | some s => exact ⟨d.1, d.2.1, d.2.2.1, d.2.2.2.1, d.2.2.2.2.1⟩
theorem Rel.blk {vs : List Nat} {ds1 : DS} (R1 : Rel K Γ σ H1 env ds1) (hf : H1 D = none) (e : Ext Γ H1 H) (d : DrR K Γ H ds) (hD : ∃ o, H D = some o) (h : wipeE env vs = some env') : Rel K (Γ.blk σ env H D) (wipe σ vs) H env' ds := by
  obtain ⟨h1, h2, h3⟩ := wipeE_ok h
  have R := R1.go e d
  have B := R.rebase
  have oD : ¬ owned σ env D := fun q => by
    obtain ⟨_, w, _⟩ := R1.own_at q
    rw [hf] at w
    cases w
  have cD' : ∀ a, owned σ env a → a ≠ D := fun a q z => oD (by rw [← z]; exact q)
  have gq : ∀ {a : Addr}, H a = none → a ≠ D := fun {a} q z => by
    obtain ⟨o, e⟩ := hD
    rw [z, e] at q
    cases q
  have gg : ∀ a, gd Γ σ env a → a ≠ D → gd (Γ.blk σ env H D) (wipe σ vs) env' a := fun a q n => ⟨⟨q.1, n⟩, fun w => q.2.1 ((owned_wipe h).mp w), q.2.2⟩
  have dm : ∀ {v : V} {x : PyData}, Df K H1 (gd Γ σ env) v x → Df K H (gd (Γ.blk σ env H D) (wipe σ vs) env') v x := fun q =>
    (q.avoid hf).mono (fun a u z k => ⟨gg a z.1 z.2, e a _ z.1.2.2 k⟩) fun _ _ z => tup_ext e R1.draw z
  have dms : ∀ {v : List V} {x : List PyData}, DfAll K H1 (gd Γ σ env) v x → DfAll K H (gd (Γ.blk σ env H D) (wipe σ vs) env') v x := fun q =>
    (q.avoid hf).mono (fun a u z k => ⟨gg a z.1 z.2, e a _ z.1.2.2 k⟩) fun _ _ z => tup_ext e R1.draw z
  refine ⟨by rw [wipe_length, h1]; exact R.len, fun j x q => ?_, fun i j x y hij hi hj oi oj => ?_, fun a q => ⟨B.okf a q, ?_⟩, B.ext, ?_, fun p e q => R.drc p e ((owned_wipe h).mp q), fun p hp => by cases hp⟩
  · rcases h2 j x q with rfl | ⟨w1, w2⟩
    · trivial
    · rw [wipe_get w1]
      have q1 := R1.slot j x w2
      have q2 := B.slot j x w2
      cases x with
      | un => trivial
      | d y =>
        obtain ⟨u, e1, e2⟩ := q1
        exact ⟨u, e1, dm e2⟩
      | l xs =>
        obtain ⟨a, us, e1, e2, e3, e4, e5, e6⟩ := q1
        obtain ⟨a', us', f1, f2, f3, f4, f5, f6⟩ := q2
        rw [e1] at f1
        cases f1
        exact ⟨a, us, e1, e a _ e6 e2, dms e3, e4, f5, e6⟩
      | lk xs =>
        obtain ⟨a, us, e1, e2, e3, e4, e5, e6⟩ := q1
        obtain ⟨a', us', f1, f2, f3, f4, f5, f6⟩ := q2
        rw [e1] at f1
        cases f1
        exact ⟨a, us, e1, e a _ e6 e2, dms e3, e4, f5, e6⟩
      | dc t0 xs =>
        obtain ⟨a, us, e1, e2, e3, e4, e5, e6⟩ := q1
        obtain ⟨a', us', f1, f2, f3, f4, f5, f6⟩ := q2
        rw [e1] at f1
        cases f1
        exact ⟨a, us, e1, e a _ e6 e2, dms e3, e4, f5, e6⟩
      | drw => exact q2
      | scr ns => exact q2
  · obtain ⟨w1, w2⟩ := (h2 i x hi).resolve_left (fun e => by rw [e] at oi; cases oi)
    obtain ⟨w3, w4⟩ := (h2 j y hj).resolve_left (fun e => by rw [e] at oj; cases oj)
    rw [wipe_get w1, wipe_get w3]
    exact R.sep i j x y hij w2 w4 oi oj
  · rcases Gm.at_none (Γ := Γ) q with w | w
    · exact cD' a w
    · exact gq w
  · exact d.blkR (R1.cell_ne hf)
/-- what is told in the block holds outside -/
theorem Gm.blk_gd {vs : List Nat} {σ' : St} {env2 : Ev} {is : List Nat} (h : wipeE env vs = some env') (hs : ∀ i ∈ is, i ∈ vs) (s : SameBut is (wipe σ vs) σ') (v : EvBut is env' env2) {a : Addr} (q : gd (Γ.blk σ env H D) σ' env2 a) : gdx Γ σ env D a := by
  refine ⟨⟨q.1.1, fun w => q.2.1 ?_, q.2.2⟩, q.1.2⟩
  obtain ⟨j, x, w1, w2, w3⟩ := w
  obtain ⟨h1, h2, h3⟩ := wipeE_ok h
  obtain ⟨z1, z2⟩ := h3 j x w1 w2
  have nj : j ∉ is := fun z => z1 (hs j z)
  exact ⟨j, x, by rw [v.2 j nj]; exact z2, w2, by rw [s.2 j nj, wipe_get z1]; exact w3⟩
end

/-! ### the meanings -/
def compGo (t : Tg) (c : ME Bool) (elt : ME PyData) (env : Ev) : List PyData → DS → List PyData → Option (List PyData × DS)
  | [], ds, acc => some (acc, ds)
  | x :: r, ds, acc => match t x env with
    | none => none
    | some env1 => match c env1 ds with
      | some (.ok true, ds1) => match elt env1 ds1 with
        | some (.ok y, ds2) => if decide (acc.length < sizeLine) then compGo t c elt env r ds2 (acc ++ [y]) else none
        | _ => none
      | some (.ok false, ds1) => compGo t c elt env r ds1 acc
      | _ => none
def mComp (vs : List Nat) (mi : ME (List PyData)) (t : Tg) (c : ME Bool) (elt : ME PyData) : ME (List PyData) := mi.bind fun items env ds => match wipeE env vs with
  | none => none
  | some env1 => match compGo t c elt env1 items ds [] with
    | some (xs, ds') => some (.ok xs, ds')
    | none => none
def mYes : ME Bool := ME.pure true
abbrev STs (X : Cx) (C : Exs) (W : WX) (ifs : List Expr) (m : ME Bool) : Prop := PTs X ifs (rdT X.K C W m)
theorem PTs.imp {X : Cx} {e : List Expr} {t t' : TT} (h : PTs X e t) (f : ∀ σ H Q, t' σ H Q → t σ H Q) : PTs X e t' := ⟨fun pins s σ H Q I q => h.run pins s σ H Q I (f σ H Q q)⟩
theorem sts_nil {X : Cx} {C : Exs} {W : WX} : STs X C W [] mYes := PTs.imp pts_nil fun σ H Q ⟨Γ, env, ds, R, h⟩ => Aft.here h R.draw
theorem sts_one {X : Cx} {C : Exs} {W : WX} {c : Expr} {m : ME Bool} (h : ST X C W c m) : STs X C W [c] m := pts_one h
/-- within a comprehension nothing is raised -/
def W0 : WX := fun _ _ _ _ => False
section
variable {K : PySem.W.Frag} {C : Exs} {W : WX} {Γ : Gm} {σ : St} {H1 : Hp} {env env1 : Ev} {ds1 : DS} {D : Addr} {J : It} {items : List PyData} {t : Tg} {is vs : List Nat} {c : ME Bool} {elt : ME PyData} {Qd : Hp → Prop}
/-- what stands between two turns -/
structure CIn (K : PySem.W.Frag) (Γ : Gm) (σ : St) (env : Ev) (H1 : Hp) (D : Addr) (H : Hp) (ds : DS) (acc : List PyData) : Prop where
  ext : Ext Γ H1 H
  draw : DrR K Γ H ds
  lst : ∃ us, H D = some (.lst us) ∧ us.length ≤ sizeLine ∧ DfAll K H (gdx Γ σ env D) us acc
theorem CIn.grow {H H' : Hp} {ds ds' : DS} {acc : List PyData} (R1 : Rel K Γ σ H1 env ds1) (hf : H1 D = none) (c : CIn K Γ σ env H1 D H ds acc) (e : Ext Γ H H') (d : DrR K Γ H' ds') (y : PyData) (v : V) (hy : Df K H' (gdx Γ σ env D) v y) (hs : acc.length < sizeLine) :
    ∃ us, H' D = some (.lst us) ∧ us.length < sizeLine ∧ CIn K Γ σ env H1 D (upd H' D (.lst (us ++ [v]))) ds' (acc ++ [y]) := by
  obtain ⟨us, q1, q2, q3⟩ := c.lst
  have nD := (R1.new_gd hf).2.2
  have h' := e D _ nD q1
  have ln := q3.length
  have tq : ∀ a u, H' a = some (.tup u) → upd H' D (.lst (us ++ [v])) a = some (.tup u) := fun a u q => by
    rw [upd_ne (ne_of q h' (by intro z; cases z))]; exact q
  have q4 : DfAll K H' (gdx Γ σ env D) us acc := q3.mono (fun a u z k => ⟨z, e a _ z.1.2.2 k⟩) fun _ _ z => tup_ext e c.draw z
  refine ⟨us, h', by rw [ln]; exact hs, fun a o n q => ?_, ?_, us ++ [v], upd_same, by rw [List.length_append, ln]; exact hs, ?_⟩
  · rw [upd_ne (ne_of_none q hf)]
    exact e a o n (c.ext a o n q)
  · have cn := R1.cell_ne hf
    unfold DrR at d ⊢
    cases hdr : Γ.dr with
    | none =>
      rw [hdr] at d
      cases ds' with
      | none => trivial
      | some s => exact d
    | some p =>
      rw [hdr] at d
      cases ds' with
      | none => exact d
      | some s =>
        refine ⟨by rw [upd_ne fun z => nD p hdr z.symm]; exact d.1, by rw [upd_ne (cn p hdr)]; exact d.2.1, d.2.2⟩
  · exact (q4.append (.cons hy .nil)).mono (fun a u z k => ⟨z, by rw [upd_ne z.2]; exact k⟩) tq
/-- a turn that goes on -/
theorem CIn.on {H H' : Hp} {ds ds' : DS} {acc : List PyData} (R1 : Rel K Γ σ H1 env ds1) (hf : H1 D = none) (c : CIn K Γ σ env H1 D H ds acc) (e : Ext Γ H H') (d : DrR K Γ H' ds') : CIn K Γ σ env H1 D H' ds' acc := by
  obtain ⟨us, q1, q2, q3⟩ := c.lst
  exact ⟨c.ext.trans e, d, us, e D _ (R1.new_gd hf).2.2 q1, q2, q3.mono (fun a u z k => ⟨z, e a _ z.1.2.2 k⟩) fun _ _ z => tup_ext e c.draw z⟩
theorem CIn.start (R1 : Rel K Γ σ H1 env ds1) (hf : H1 D = none) : CIn K Γ σ env H1 D (upd H1 D (.lst [])) ds1 [] := ⟨ext_new hf, R1.draw.new hf, [], upd_same, Nat.zero_le _, .nil⟩
theorem Wlk.blk {H : Hp} (R1 : Rel K Γ σ H1 env ds1) (hf : H1 D = none) (e : Ext Γ H1 H) (wk : Wk K Γ σ env J items H1) (h : wipeE env vs = some env1) : Wlk K J items (gd (Γ.blk σ env H D) (wipe σ vs) env1) H :=
  (wk H fun a o _ n _ q => e a o n q).mono fun a z => ⟨⟨z.1.1, fun w => z.2 (by rw [w]; exact hf)⟩, fun w => z.1.2.1 ((owned_wipe h).mp w), z.1.2.2⟩
theorem aft_blk {α : Type} {H Hb : Hp} {σ' : St} {r : Rz α} {P : α → DS → Hp → Prop} (h : match r with | some (.ok a, ds') => ∀ H', Ext Γ H H' → DrR K Γ H' ds' → P a ds' H' | _ => False) : Aft K C W0 (Γ.blk σ env Hb D) σ' H r P := by
  unfold Aft
  rcases r with _ | ⟨a | x, ds'⟩
  · exact h
  · exact fun H' e d => h H' e d.unblk
  · exact h.elim
theorem comp_loop (hsub : ∀ i ∈ is, i ∈ vs) (R1 : Rel K Γ σ H1 env ds1) (wk : Wk K Γ σ env J items H1) (hD : H1 D = none) (hw : wipeE env vs = some env1)
    (h : match compGo t c elt env1 items ds1 [] with | some (xs, ds') => ∀ H', CIn K Γ σ env H1 D H' ds' xs → Qd H' | none => False) :
    ∃ W' : Nat → Nat → Hp → Prop, (∃ m, W' 0 m (upd H1 D (.lst []))) ∧ ∀ i m H, W' i m H →
      (J.stop i H ∧ Qd H) ∨ (J.go i H ∧ ∃ Nx : Hp → Prop, (∀ H', Nx H' → ∃ m', m' < m ∧ W' (i + 1) m' H') ∧ ∀ x H', J.yld i H x H' → rdTgm K is t x (wipe σ vs) H' fun σ2 H2 => wipe σ2 vs = wipe σ vs ∧ rdT K C W0 c σ2 H2 fun b H3 =>
        if b = true then rdG MD K C W0 elt σ2 H3 fun y H4 => ∃ acc, H4 D = some (.lst acc) ∧ acc.length < sizeLine ∧ Nx (upd H4 D (.lst (acc ++ [y]))) else Nx H3) := by
  refine ⟨fun i m H => m = items.length - i ∧ i ≤ items.length ∧ ∃ ds acc, CIn K Γ σ env H1 D H ds acc ∧ match compGo t c elt env1 (items.drop i) ds acc with | some (xs, ds') => ∀ H', CIn K Γ σ env H1 D H' ds' xs → Qd H' | none => False,
    ⟨_, rfl, Nat.zero_le _, ds1, [], CIn.start R1 hD, h⟩, ?_⟩
  rintro i m H ⟨rfl, hi, ds, acc, ci, h⟩
  have wl := Wlk.blk R1 hD ci.ext wk hw
  by_cases hlt : i < items.length
  · refine .inr ⟨wl.go i hlt, fun H' => (items.length - (i + 1)) = items.length - (i + 1) ∧ i + 1 ≤ items.length ∧ ∃ ds acc, CIn K Γ σ env H1 D H' ds acc ∧ match compGo t c elt env1 (items.drop (i + 1)) ds acc with | some (xs, ds') => ∀ H', CIn K Γ σ env H1 D H' ds' xs → Qd H' | none => False,
      fun H' n => ⟨items.length - (i + 1), by omega, n⟩, fun x H' y => ?_⟩
    obtain ⟨d, e1, k, hx⟩ := wl.yld i x H' hlt y
    have e2 : items.drop i = d :: items.drop (i + 1) := by
      rw [List.drop_eq_getElem_cons hlt]
      rw [List.getElem?_eq_getElem hlt] at e1
      rw [Option.some.inj e1]
    rw [e2] at h
    have ci' : CIn K Γ σ env H1 D H' ds acc := ci.on R1 hD (fun a o _ q => k a o q) (drR_kept ci.draw k)
    obtain ⟨us, l1, l2, l3⟩ := ci.lst
    have hx' : Df K H' (gd (Γ.blk σ env H' D) (wipe σ vs) env1) x d := hx.mono (fun a u z q => ⟨z, q⟩) fun _ _ z => z
    have RB := R1.blk hD ci'.ext ci'.draw ⟨_, k D _ l1⟩ hw
    unfold compGo at h
    cases ht : t d env1 with
    | none => rw [ht] at h; exact h.elim
    | some env2 =>
      rw [ht] at h
      dsimp only at h
      refine ⟨Γ.blk σ env H' D, env1, ds, d, env2, RB, hx', ht, fun σ2 R2 _ s2 v2 => ⟨(wipe_same s2 hsub).trans wipe_idem, Γ.blk σ env H' D, env2, ds, R2, aft_blk ?_⟩⟩
      rcases q : c env2 ds with _ | ⟨b | ex, ds2⟩
      · rw [q] at h; exact h.elim
      · rw [q] at h
        intro H3 e3 d3
        have ci3 := ci'.on R1 hD e3 d3
        cases b with
        | false =>
          rw [if_neg Bool.false_ne_true]
          exact ⟨rfl, hlt, ds2, acc, ci3, h⟩
        | true =>
          rw [if_pos rfl]
          have g3 := R2.go (H1 := H3) e3 (by
            have RB3 := R1.blk (vs := vs) hD ci3.ext ci3.draw (let ⟨us, l1, _⟩ := ci3.lst; ⟨_, l1⟩) hw
            exact RB3.draw)
          refine ⟨Γ.blk σ env H' D, env2, ds2, g3, aft_blk ?_⟩
          dsimp only at h
          rcases q2 : elt env2 ds2 with _ | ⟨y | ex, ds3⟩
          · rw [q2] at h; exact h.elim
          · rw [q2] at h
            intro H4 e4 d4 v hv
            dsimp only at h
            by_cases hs : acc.length < sizeLine
            · rw [if_pos (decide_eq_true hs)] at h
              have hy : Df K H4 (gdx Γ σ env D) v y := hv.mono (fun a u z q => ⟨Gm.blk_gd hw hsub s2 v2 z, q⟩) fun _ _ z => z
              obtain ⟨us, w1, w2, w3⟩ := ci3.grow R1 hD e4 d4 y v hy hs
              exact ⟨us, w1, w2, rfl, hlt, ds3, _, w3, h⟩
            · rw [if_neg (by rw [decide_eq_false hs]; exact Bool.false_ne_true)] at h
              exact h.elim
          · rw [q2] at h; exact h.elim
      · rw [q] at h; exact h.elim
  · refine .inl ⟨wl.stop i (by omega), ?_⟩
    rw [List.drop_eq_nil_of_le (by omega)] at h
    exact h H ci
end
section
variable {X : Cx} {C : Exs} {W : WX} {fr : Bool} {elt tg iter : Expr} {ifs : List Expr} {scope : Scope} {own : List (Str × Nat)} {pos : Pos} {mi : ME (List PyData)} {t : Tg} {is : List Nat} {c : ME Bool} {me : ME PyData}
theorem comp_rd {K : PySem.W.Frag} (hsub : ∀ i ∈ is, i ∈ own.map (·.2)) {σ : St} {H : Hp} {Q : VK} (h : rdF K C W (mComp (own.map (·.2)) mi t c me) σ H Q) : tLc (rdI K C W mi) (rdTgm K is t) (rdT K C W0 c) (rdG MD K C W0 me) (own.map (·.2)) σ H Q := by
  obtain ⟨Γ, env, ds, R, h⟩ := h
  refine ⟨Γ, env, ds, R, h.bind.imp fun items ds1 H1 e1 d1 q J wk D hD => ?_⟩
  have R1 := R.go e1 d1
  have hD0 := R.none_back e1 d1 hD
  dsimp only at q
  cases hw : wipeE env (own.map (·.2)) with
  | none => rw [hw] at q; exact q.elim
  | some env1 =>
    rw [hw] at q
    dsimp only at q
    refine comp_loop hsub R1 wk hD hw ?_
    rcases z : compGo t c me env1 items ds1 [] with _ | ⟨xs, ds'⟩
    · rw [z] at q; exact q
    · rw [z] at q
      intro H' ci
      obtain ⟨us, l1, l2, l3⟩ := ci.lst
      exact q H' ci.ext ci.draw D us hD0 l1 l2 l3
theorem sf_comp (hc : X.calm = true) (hN : X.N.Nodup) (hi : SI X C W tg iter mi) (ok : BlkOk X.N X.env.scope scope own) (hsub : ∀ i ∈ is, i ∈ own.map (·.2))
    (hg : ∀ (s : Shared) (H : Hp) (k : Addr) (cl : List (Str × Addr)) (fp : List Addr), SG (X.blk s H scope (compEnvC scope cl k X.env) fp) tg is t) (ht : ∀ (s : Shared) (H : Hp) (k : Addr) (cl : List (Str × Addr)) (fp : List Addr), STs (X.blk s H scope (compEnvC scope cl k X.env) fp) C W0 ifs c)
    (he : ∀ (s : Shared) (H : Hp) (k : Addr) (cl : List (Str × Addr)) (fp : List Addr), SE (X.blk s H scope (compEnvC scope cl k X.env) fp) C W0 elt me) (hs : ∀ x, foldedSetIterable iter X.env x = pure x := by intro _; rfl) :
    SF X C W (.ListComp elt [⟨tg, iter, ifs, 0⟩] scope pos) (mComp (own.map (·.2)) mi t c me) :=
  PE.imp (pe_lc hc hN hi ok hg ht he hs) fun σ H Q h => comp_rd hsub h
/-- name = [..] -/
theorem ss_setLc (i : Nat) {y : Str} {py spos : Pos} (hc : X.calm = true) (hN : X.N.Nodup) (hsw : swapsWith (.ListComp elt [⟨tg, iter, ifs, 0⟩] scope pos) (some (.Name y py)) spos.line X.env = pure true) (hi : SI X C W tg iter mi) (ok : BlkOk X.N X.env.scope scope own) (hsub : ∀ i ∈ is, i ∈ own.map (·.2))
    (hg : ∀ (s : Shared) (H : Hp) (k : Addr) (cl : List (Str × Addr)) (fp : List Addr), SG (X.blk s H scope (compEnvC scope cl k X.env) fp) tg is t) (ht : ∀ (s : Shared) (H : Hp) (k : Addr) (cl : List (Str × Addr)) (fp : List Addr), STs (X.blk s H scope (compEnvC scope cl k X.env) fp) C W0 ifs c)
    (he : ∀ (s : Shared) (H : Hp) (k : Addr) (cl : List (Str × Addr)) (fp : List Addr), SE (X.blk s H scope (compEnvC scope cl k X.env) fp) C W0 elt me) (hy : X.N[i]? = some y := by rfl) (hyl : X.env.scope.names.lookup y = some .local := by rfl) (hs : ∀ x, foldedSetIterable iter X.env x = pure x := by intro _; rfl) :
    SS X C W fr (.Assign [.Name y py] (.ListComp elt [⟨tg, iter, ifs, 0⟩] scope pos) spos) (mSet i (mF (mComp (own.map (·.2)) mi t c me))) :=
  PS.imp (L2.ps_setLc hc hN hy hyl hsw hi ok hg ht he hs) fun D σ H ⟨Γ, env, ds, R, h⟩ => comp_rd hsub ⟨Γ, env, ds, R, (exS_aft R h).bind.imp fun xs ds1 H1 e1 d1 q a us h1 h2 h3 h4 => by
    have q := Aft.here q d1
    cases hp : put i (.d (.list xs)) env with
    | none => rw [hp] at q; exact q.elim
    | some env' =>
      rw [hp] at q
      have R1 := R.go e1 d1
      exact q _ _ (R1.set_d (.lst (R.new_gd h1) h2 h3 h4.unavoid) hp)⟩
theorem ss_setLcL (i : Nat) {y : Str} {py spos : Pos} (hc : X.calm = true) (hN : X.N.Nodup) (hsw : swapsWith (.ListComp elt [⟨tg, iter, ifs, 0⟩] scope pos) (some (.Name y py)) spos.line X.env = pure true) (hi : SI X C W tg iter mi) (ok : BlkOk X.N X.env.scope scope own) (hsub : ∀ i ∈ is, i ∈ own.map (·.2))
    (hg : ∀ (s : Shared) (H : Hp) (k : Addr) (cl : List (Str × Addr)) (fp : List Addr), SG (X.blk s H scope (compEnvC scope cl k X.env) fp) tg is t) (ht : ∀ (s : Shared) (H : Hp) (k : Addr) (cl : List (Str × Addr)) (fp : List Addr), STs (X.blk s H scope (compEnvC scope cl k X.env) fp) C W0 ifs c)
    (he : ∀ (s : Shared) (H : Hp) (k : Addr) (cl : List (Str × Addr)) (fp : List Addr), SE (X.blk s H scope (compEnvC scope cl k X.env) fp) C W0 elt me) (hy : X.N[i]? = some y := by rfl) (hyl : X.env.scope.names.lookup y = some .local := by rfl) (hs : ∀ x, foldedSetIterable iter X.env x = pure x := by intro _; rfl) :
    SS X C W fr (.Assign [.Name y py] (.ListComp elt [⟨tg, iter, ifs, 0⟩] scope pos) spos) (mSetL i (mComp (own.map (·.2)) mi t c me)) :=
  PS.imp (L2.ps_setLc hc hN hy hyl hsw hi ok hg ht he hs) fun D σ H ⟨Γ, env, ds, R, h⟩ => comp_rd hsub ⟨Γ, env, ds, R, (exS_aft R h).imp fun xs ds1 H1 e1 d1 q a us h1 h2 h3 h4 => by
    cases hp : put i (.l xs) env with
    | none => rw [hp] at q; exact q.elim
    | some env' =>
      rw [hp] at q
      exact q _ _ (R.set_l e1 d1 h1 h2 h3 h4 hp)⟩
end
end DL

/-! DL8: comprehensions of two clauses. -/
namespace DL
open PySem PySem.Spec L2
open PyProof.Rows hiding St

def comp2Go (t : Tg) (c : ME Bool) (mi : ME (List PyData)) (vs1 : List Nat) (t1 : Tg) (c1 : ME Bool) (elt : ME PyData) (env : Ev) : List PyData → DS → List PyData → Option (List PyData × DS)
  | [], ds, acc => some (acc, ds)
  | x :: r, ds, acc => match t x env with
    | none => none
    | some env1 => match c env1 ds with
      | some (.ok true, ds1) => match mi env1 ds1 with
        | some (.ok items, ds2) => match wipeE env1 vs1 with
          | none => none
          | some env2 => match compGo t1 c1 elt env2 items ds2 acc with
            | some (acc', ds3) => comp2Go t c mi vs1 t1 c1 elt env r ds3 acc'
            | none => none
        | _ => none
      | some (.ok false, ds1) => comp2Go t c mi vs1 t1 c1 elt env r ds1 acc
      | _ => none
def mComp2 (vs : List Nat) (mi : ME (List PyData)) (t : Tg) (c : ME Bool) (mi1 : ME (List PyData)) (vs1 : List Nat) (t1 : Tg) (c1 : ME Bool) (elt : ME PyData) : ME (List PyData) := mi.bind fun items env ds => match wipeE env vs with
  | none => none
  | some env1 => match comp2Go t c mi1 vs1 t1 c1 elt env1 items ds [] with
    | some (xs, ds') => some (.ok xs, ds')
    | none => none
section
variable {K : PySem.W.Frag} {C : Exs} {W : WX} {Γ : Gm} {σ σ2 : St} {H H' H1 : Hp} {env env1 env2 env' : Ev} {ds ds1 ds' : DS} {D : Addr} {vs : List Nat}
theorem Rel.wipes (R : Rel K Γ σ H env ds) (hk : Γ.lk = []) (h : wipeE env vs = some env') : Rel K Γ (wipe σ vs) H env' ds := by
  obtain ⟨h1, h2, h3⟩ := wipeE_ok h
  refine ⟨by rw [wipe_length, h1]; exact R.len, fun j x q => ?_, fun i j x y hij hi hj oi oj => ?_, R.okf, R.ext, R.draw, fun p e q => R.drc p e ((owned_wipe h).mp q), fun p hp => by rw [hk] at hp; cases hp⟩
  · rcases h2 j x q with rfl | ⟨w1, w2⟩
    · trivial
    · rw [wipe_get w1]
      exact (R.slot j x w2).mono fun a z => ⟨z.1, fun w => z.2.1 ((owned_wipe h).mp w), z.2.2⟩
  · obtain ⟨w1, w2⟩ := (h2 i x hi).resolve_left (fun e => by rw [e] at oi; cases oi)
    obtain ⟨w3, w4⟩ := (h2 j y hj).resolve_left (fun e => by rw [e] at oj; cases oj)
    rw [wipe_get w1, wipe_get w3]
    exact R.sep i j x y hij w2 w4 oi oj
/-- the frame of a block, when D has changed -/
theorem Rel.move (R2 : Rel K (Γ.blk σ env H D) σ2 H env2 ds) (e : ∀ a o, Γ.nd a → a ≠ D → H a = some o → H' a = some o) (hD : ∃ us, H D = some (.lst us)) (hD' : ∃ o, H' D = some o) (d : DrR K Γ H' ds') (cn : ∀ p, Γ.dr = some p → p.2 ≠ D) (hn : ∀ a, H' a = none → Γ.ok a) :
    Rel K (Γ.blk σ env H' D) σ2 H' env2 ds' := by
  obtain ⟨us, hD⟩ := hD
  have own : ∀ a, owned σ2 env2 a → owned σ env a := fun a q => by
    obtain ⟨us, z1, _, z2, _⟩ := R2.own_at q
    rcases Gm.at_none (Γ := Γ) z2 with w | w
    · exact w
    · rw [z1] at w; cases w
  have nD : ∀ a, owned σ2 env2 a → a ≠ D := fun a q => by
    obtain ⟨us, z1, _, z2, _⟩ := R2.own_at q
    exact (R2.okf a z2).2
  have tq : ∀ a u, H a = some (.tup u) → H' a = some (.tup u) := fun a u q => by
    have nd : ∀ {o}, H a = some o → ¬ MutO o → Γ.nd a ∧ a ≠ D := fun {o} h1 h2 => by
      refine ⟨(kept_nd R2 h1 h2).2, fun z => ?_⟩
      rw [z, hD] at h1
      cases h1
      exact h2 (.inl ⟨_, rfl⟩)
    obtain ⟨n1, n2⟩ := nd q imm_tup
    exact e a _ n1 n2 q
  have dm : ∀ {v : V} {x : PyData}, Df K H (gd (Γ.blk σ env H D) σ2 env2) v x → Df K H' (gd (Γ.blk σ env H' D) σ2 env2) v x := fun q => q.mono (fun a u z k => ⟨z, e a _ z.2.2 z.1.2 k⟩) tq
  have dms : ∀ {v : List V} {x : List PyData}, DfAll K H (gd (Γ.blk σ env H D) σ2 env2) v x → DfAll K H' (gd (Γ.blk σ env H' D) σ2 env2) v x := fun q => q.mono (fun a u z k => ⟨z, e a _ z.2.2 z.1.2 k⟩) tq
  refine ⟨R2.len, fun i x hx => ?_, R2.sep, fun a q => ?_, fun a o _ q => Gm.at_le (Γ := Γ) q, d.blkR cn, R2.drc, fun p hp => by cases hp⟩
  · have q := R2.slot i x hx
    cases x with
    | un => trivial
    | d y =>
      obtain ⟨u, e1, e2⟩ := q
      exact ⟨u, e1, dm e2⟩
    | l xs =>
      obtain ⟨a, us, e1, e2, e3, e4, e5, e6⟩ := q
      have oa : owned σ2 env2 a := ⟨i, _, hx, rfl, e1⟩
      exact ⟨a, us, e1, e a _ e6 (nD a oa) e2, dms e3, e4, Gm.at_owned (Γ := Γ) (own a oa), e6⟩
    | lk xs =>
      obtain ⟨a, us, e1, e2, e3, e4, e5, e6⟩ := q
      have oa : owned σ2 env2 a := ⟨i, _, hx, rfl, e1⟩
      exact ⟨a, us, e1, e a _ e6 (nD a oa) e2, dms e3, e4, Gm.at_owned (Γ := Γ) (own a oa), e6⟩
    | dc t0 xs =>
      obtain ⟨a, us, e1, e2, e3, e4, e5, e6⟩ := q
      have oa : owned σ2 env2 a := ⟨i, _, hx, rfl, e1⟩
      exact ⟨a, us, e1, e a _ e6 (nD a oa) e2, dms e3, e4, Gm.at_owned (Γ := Γ) (own a oa), e6⟩
    | drw => exact q
    | scr ns =>
      obtain ⟨a, e1, e2, e3⟩ := q
      refine ⟨a, e1, ?_, e3⟩
      rcases e2 with ⟨o, e2⟩ | e2
      · refine .inl ⟨o, e a _ (kept_nd R2 e2 imm_frz).2 (fun z => ?_) e2⟩
        rw [z, hD] at e2
        cases e2
      · exact .inr e2
  · rcases Gm.at_none (Γ := Γ) q with w | w
    · exact R2.okf a (Gm.at_owned (Γ := Γ) w)
    · refine ⟨hn a w, fun z => ?_⟩
      obtain ⟨o, hD'⟩ := hD'
      rw [z, hD'] at w
      cases w
theorem CIn.rel (R1 : Rel K Γ σ H1 env ds1) (hf : H1 D = none) {acc : List PyData} (c : CIn K Γ σ env H1 D H ds acc) : Rel K Γ σ H env ds := R1.go c.ext c.draw
variable {J : It} {items : List PyData} {t t1 : Tg} {is is1 vs1 : List Nat} {c c1 : ME Bool} {mi1 : ME (List PyData)} {elt : ME PyData} {Qd : Hp → Prop}
/-- the inner loop: H4 where it begins -/
theorem comp_inner {H4 : Hp} {ds4 : DS} {acc : List PyData} {env3 : Ev} {Nx : Hp → Prop} (R1 : Rel K Γ σ H1 env ds1) (hD : H1 D = none) (hw : wipeE env vs = some env1) (hsub : ∀ i ∈ is, i ∈ vs) (hsub1 : ∀ i ∈ is1, i ∈ vs1) (s2 : SameBut is (wipe σ vs) σ2) (v2 : EvBut is env1 env2)
    (hv1 : ∀ i ∈ vs1, i ∈ vs) (R4 : Rel K (Γ.blk σ env H4 D) σ2 H4 env2 ds4) (ci : CIn K Γ σ env H1 D H4 ds4 acc) (wk : ∀ H5, (∀ a o, Γ.nd a → a ≠ D → H4 a = some o → H5 a = some o) → Wlk K J items (fun b => gd (Γ.blk σ env H4 D) σ2 env2 b ∧ H4 b ≠ none) H5) (hw1 : wipeE env2 vs1 = some env3)
    (h : match compGo t1 c1 elt env3 items ds4 acc with | some (xs, ds') => ∀ H', CIn K Γ σ env H1 D H' ds' xs → Nx H' | none => False) :
    ∃ W1 : Nat → Nat → Hp → Prop, (∃ m, W1 0 m H4) ∧ ∀ j k H, W1 j k H →
      (J.stop j H ∧ Nx H) ∨ (J.go j H ∧ ∃ Nx1 : Hp → Prop, (∀ H', Nx1 H' → ∃ k', k' < k ∧ W1 (j + 1) k' H') ∧ ∀ x H', J.yld j H x H' → rdTgm K is1 t1 x (wipe σ2 vs1) H' fun σ3 H5 => wipe σ3 vs1 = wipe σ2 vs1 ∧ rdT K C W0 c1 σ3 H5 fun b H6 =>
        if b = true then rdG MD K C W0 elt σ3 H6 fun y H7 => ∃ acc, H7 D = some (.lst acc) ∧ acc.length < sizeLine ∧ Nx1 (upd H7 D (.lst (acc ++ [y]))) else Nx1 H6) := by
  have cn := R1.cell_ne hD
  have nD := (R1.new_gd hD).2.2
  refine ⟨fun i m H => m = items.length - i ∧ i ≤ items.length ∧ (∀ a o, Γ.nd a → a ≠ D → H4 a = some o → H a = some o) ∧ ∃ ds acc, CIn K Γ σ env H1 D H ds acc ∧ match compGo t1 c1 elt env3 (items.drop i) ds acc with | some (xs, ds') => ∀ H', CIn K Γ σ env H1 D H' ds' xs → Nx H' | none => False,
    ⟨_, rfl, Nat.zero_le _, fun _ _ _ _ q => q, ds4, acc, ci, h⟩, ?_⟩
  rintro i m H ⟨rfl, hi, kp, ds, acc, ci, h⟩
  have rel : ∀ {H : Hp} {ds : DS} {acc : List PyData}, (∀ a o, Γ.nd a → a ≠ D → H4 a = some o → H a = some o) → CIn K Γ σ env H1 D H ds acc → Rel K (Γ.blk σ env H D) σ2 H env2 ds := fun {H ds acc} kp ci' => by
    obtain ⟨us, l1, _⟩ := ci.lst
    obtain ⟨us', l2, _⟩ := ci'.lst
    refine R4.move kp ?_ ⟨_, l2⟩ ci'.draw cn fun a q => ((CIn.rel R1 hD ci').new_gd q).1
    obtain ⟨us0, l0, _⟩ := (‹CIn K Γ σ env H1 D H4 ds4 _›).lst
    exact ⟨_, l0⟩
  have R := rel kp ci
  have wl0 := wk H kp
  have gm : ∀ {H : Hp} a, gd (Γ.blk σ env H4 D) σ2 env2 a ∧ H4 a ≠ none → gd (Γ.blk σ env H D) (wipe σ2 vs1) env3 a := fun {H} a z => ⟨z.1.1, fun w => z.1.2.1 ((owned_wipe hw1).mp w), z.1.2.2⟩
  by_cases hlt : i < items.length
  · refine .inr ⟨wl0.go i hlt, fun H' => (items.length - (i + 1)) = items.length - (i + 1) ∧ i + 1 ≤ items.length ∧ (∀ a o, Γ.nd a → a ≠ D → H4 a = some o → H' a = some o) ∧ ∃ ds acc, CIn K Γ σ env H1 D H' ds acc ∧ match compGo t1 c1 elt env3 (items.drop (i + 1)) ds acc with | some (xs, ds') => ∀ H', CIn K Γ σ env H1 D H' ds' xs → Nx H' | none => False,
      fun H' n => ⟨items.length - (i + 1), by omega, n⟩, fun x H' y => ?_⟩
    obtain ⟨d, e1, k, hx⟩ := wl0.yld i x H' hlt y
    have e2 : items.drop i = d :: items.drop (i + 1) := by
      rw [List.drop_eq_getElem_cons hlt]
      rw [List.getElem?_eq_getElem hlt] at e1
      rw [Option.some.inj e1]
    rw [e2] at h
    have ci' : CIn K Γ σ env H1 D H' ds acc := ci.on R1 hD (fun a o _ q => k a o q) (drR_kept ci.draw k)
    have kp' : ∀ a o, Γ.nd a → a ≠ D → H4 a = some o → H' a = some o := fun a o n1 n2 q => k a o (kp a o n1 n2 q)
    have hx' : Df K H' (gd (Γ.blk σ env H' D) (wipe σ2 vs1) env3) x d := hx.mono (fun a u z q => ⟨gm a z, q⟩) fun _ _ z => z
    have RB := (rel kp' ci').wipes rfl hw1
    unfold compGo at h
    cases ht : t1 d env3 with
    | none => rw [ht] at h; exact h.elim
    | some env4 =>
      rw [ht] at h
      dsimp only at h
      refine ⟨Γ.blk σ env H' D, env3, ds, d, env4, RB, hx', ht, fun σ3 R3 _ s3 v3 => ⟨(wipe_same s3 hsub1).trans wipe_idem, Γ.blk σ env H' D, env4, ds, R3, aft_blk ?_⟩⟩
      have back : ∀ {a : Addr}, gd (Γ.blk σ env H' D) σ3 env4 a → gdx Γ σ env D a := fun {a} q => by
        refine ⟨⟨q.1.1, fun w => q.2.1 ?_, q.2.2⟩, q.1.2⟩
        obtain ⟨j, x, w1, w2, w3⟩ := w
        obtain ⟨_, _, h3⟩ := wipeE_ok hw
        obtain ⟨z1, z2⟩ := h3 j x w1 w2
        obtain ⟨_, _, h4⟩ := wipeE_ok hw1
        have nj : j ∉ is := fun z => z1 (hsub j z)
        have y1 : env2[j]? = some x := by rw [v2.2 j nj]; exact z2
        obtain ⟨z3, z4⟩ := h4 j x y1 w2
        have nj1 : j ∉ is1 := fun z => z3 (hsub1 j z)
        exact ⟨j, x, by rw [v3.2 j nj1]; exact z4, w2, by rw [s3.2 j nj1, wipe_get z3, s2.2 j nj, wipe_get z1]; exact w3⟩
      rcases q : c1 env4 ds with _ | ⟨b | ex, ds2⟩
      · rw [q] at h; exact h.elim
      · rw [q] at h
        intro H5 e5 d5
        have ci5 := ci'.on R1 hD e5 d5
        have kp5 : ∀ a o, Γ.nd a → a ≠ D → H4 a = some o → H5 a = some o := fun a o n1 n2 q => e5 a o n1 (kp' a o n1 n2 q)
        cases b with
        | false =>
          rw [if_neg Bool.false_ne_true]
          exact ⟨rfl, hlt, kp5, ds2, acc, ci5, h⟩
        | true =>
          rw [if_pos rfl]
          have g5 := R3.go (H1 := H5) e5 (d5.blkR cn)
          refine ⟨Γ.blk σ env H' D, env4, ds2, g5, aft_blk ?_⟩
          dsimp only at h
          rcases q2 : elt env4 ds2 with _ | ⟨y | ex, ds3⟩
          · rw [q2] at h; exact h.elim
          · rw [q2] at h
            intro H6 e6 d6 v hv
            dsimp only at h
            by_cases hs : acc.length < sizeLine
            · rw [if_pos (decide_eq_true hs)] at h
              have hy : Df K H6 (gdx Γ σ env D) v y := hv.mono (fun a u z q => ⟨back z, q⟩) fun _ _ z => z
              obtain ⟨us, w1, w2, w3⟩ := ci5.grow R1 hD e6 d6 y v hy hs
              exact ⟨us, w1, w2, rfl, hlt, fun a o n1 n2 q => by rw [upd_ne n2]; exact e6 a o n1 (kp5 a o n1 n2 q), ds3, _, w3, h⟩
            · rw [if_neg (by rw [decide_eq_false hs]; exact Bool.false_ne_true)] at h
              exact h.elim
          · rw [q2] at h; exact h.elim
      · rw [q] at h; exact h.elim
  · refine .inl ⟨wl0.stop i (by omega), ?_⟩
    rw [List.drop_eq_nil_of_le (by omega)] at h
    exact h H ci
theorem comp2_loop (hsub : ∀ i ∈ is, i ∈ vs) (hsub1 : ∀ i ∈ is1, i ∈ vs1) (hv1 : ∀ i ∈ vs1, i ∈ vs) (R1 : Rel K Γ σ H1 env ds1) (wk : Wk K Γ σ env J items H1) (hD : H1 D = none) (hw : wipeE env vs = some env1)
    (h : match comp2Go t c mi1 vs1 t1 c1 elt env1 items ds1 [] with | some (xs, ds') => ∀ H', CIn K Γ σ env H1 D H' ds' xs → Qd H' | none => False) :
    ∃ W' : Nat → Nat → Hp → Prop, (∃ m, W' 0 m (upd H1 D (.lst []))) ∧ ∀ i m H, W' i m H →
      (J.stop i H ∧ Qd H) ∨ (J.go i H ∧ ∃ Nx : Hp → Prop, (∀ H', Nx H' → ∃ m', m' < m ∧ W' (i + 1) m' H') ∧ ∀ x H', J.yld i H x H' → rdTgm K is t x (wipe σ vs) H' fun σ2 H2 => wipe σ2 vs = wipe σ vs ∧ rdT K C W0 c σ2 H2 fun b H3 =>
        if b = true then rdI K C W0 mi1 σ2 H3 fun J1 H4 => ∃ W1 : Nat → Nat → Hp → Prop, (∃ m, W1 0 m H4) ∧ ∀ j k H, W1 j k H →
          (J1.stop j H ∧ Nx H) ∨ (J1.go j H ∧ ∃ Nx1 : Hp → Prop, (∀ H', Nx1 H' → ∃ k', k' < k ∧ W1 (j + 1) k' H') ∧ ∀ x H', J1.yld j H x H' → rdTgm K is1 t1 x (wipe σ2 vs1) H' fun σ3 H5 => wipe σ3 vs1 = wipe σ2 vs1 ∧ rdT K C W0 c1 σ3 H5 fun b H6 =>
            if b = true then rdG MD K C W0 elt σ3 H6 fun y H7 => ∃ acc, H7 D = some (.lst acc) ∧ acc.length < sizeLine ∧ Nx1 (upd H7 D (.lst (acc ++ [y]))) else Nx1 H6)
        else Nx H3) := by
  have cn := R1.cell_ne hD
  refine ⟨fun i m H => m = items.length - i ∧ i ≤ items.length ∧ ∃ ds acc, CIn K Γ σ env H1 D H ds acc ∧ match comp2Go t c mi1 vs1 t1 c1 elt env1 (items.drop i) ds acc with | some (xs, ds') => ∀ H', CIn K Γ σ env H1 D H' ds' xs → Qd H' | none => False,
    ⟨_, rfl, Nat.zero_le _, ds1, [], CIn.start R1 hD, h⟩, ?_⟩
  rintro i m H ⟨rfl, hi, ds, acc, ci, h⟩
  have wl := Wlk.blk R1 hD ci.ext wk hw
  by_cases hlt : i < items.length
  · refine .inr ⟨wl.go i hlt, fun H' => (items.length - (i + 1)) = items.length - (i + 1) ∧ i + 1 ≤ items.length ∧ ∃ ds acc, CIn K Γ σ env H1 D H' ds acc ∧ match comp2Go t c mi1 vs1 t1 c1 elt env1 (items.drop (i + 1)) ds acc with | some (xs, ds') => ∀ H', CIn K Γ σ env H1 D H' ds' xs → Qd H' | none => False,
      fun H' n => ⟨items.length - (i + 1), by omega, n⟩, fun x H' y => ?_⟩
    obtain ⟨d, e1, k, hx⟩ := wl.yld i x H' hlt y
    have e2 : items.drop i = d :: items.drop (i + 1) := by
      rw [List.drop_eq_getElem_cons hlt]
      rw [List.getElem?_eq_getElem hlt] at e1
      rw [Option.some.inj e1]
    rw [e2] at h
    have ci' : CIn K Γ σ env H1 D H' ds acc := ci.on R1 hD (fun a o _ q => k a o q) (drR_kept ci.draw k)
    obtain ⟨us, l1, l2, l3⟩ := ci'.lst
    have hx' : Df K H' (gd (Γ.blk σ env H' D) (wipe σ vs) env1) x d := hx.mono (fun a u z q => ⟨z, q⟩) fun _ _ z => z
    have RB := R1.blk hD ci'.ext ci'.draw ⟨_, l1⟩ hw
    unfold comp2Go at h
    cases ht : t d env1 with
    | none => rw [ht] at h; exact h.elim
    | some env2 =>
      rw [ht] at h
      dsimp only at h
      refine ⟨Γ.blk σ env H' D, env1, ds, d, env2, RB, hx', ht, fun σ2 R2 _ s2 v2 => ⟨(wipe_same s2 hsub).trans wipe_idem, Γ.blk σ env H' D, env2, ds, R2, aft_blk ?_⟩⟩
      rcases q : c env2 ds with _ | ⟨b | ex, ds2⟩
      · rw [q] at h; exact h.elim
      · rw [q] at h
        intro H3 e3 d3
        have ci3 := ci'.on R1 hD e3 d3
        cases b with
        | false =>
          rw [if_neg Bool.false_ne_true]
          exact ⟨rfl, hlt, ds2, acc, ci3, h⟩
        | true =>
          rw [if_pos rfl]
          have mv : ∀ {H4 : Hp} {ds4 : DS}, Ext Γ H' H4 → DrR K Γ H4 ds4 → Rel K (Γ.blk σ env H4 D) σ2 H4 env2 ds4 := fun {H4 ds4} e4 d4 => by
            have ci4 := ci'.on R1 hD e4 d4
            obtain ⟨us4, w, _⟩ := ci4.lst
            exact R2.move (fun a o n _ q => e4 a o n q) ⟨_, l1⟩ ⟨_, w⟩ d4 cn fun a q => ((CIn.rel R1 hD ci4).new_gd q).1
          have R3 := mv e3 d3
          refine ⟨Γ.blk σ env H3 D, env2, ds2, R3, aft_blk ?_⟩
          dsimp only at h
          rcases q2 : mi1 env2 ds2 with _ | ⟨items1 | ex, ds3⟩
          · rw [q2] at h; exact h.elim
          · rw [q2] at h
            intro H4 e4 d4 J1 wk1
            dsimp only at h
            cases hw1 : wipeE env2 vs1 with
            | none => rw [hw1] at h; exact h.elim
            | some env3 =>
              rw [hw1] at h
              dsimp only at h
              have ci4 := ci3.on R1 hD e4 d4
              have R4 := mv (e3.trans e4) d4
              refine comp_inner (items := items1) (t1 := t1) (c1 := c1) (elt := elt) (C := C) R1 hD hw hsub hsub1 s2 v2 hv1 R4 ci4 (fun H5 kp => ?_) hw1 ?_
              · exact wk1 H5 fun a o n1 n2 n3 q => by
                  refine kp a o n2 (fun z => ?_) q
                  obtain ⟨us4, w, _⟩ := ci4.lst
                  rw [z, w] at q
                  cases q
                  exact (n3 _ rfl).2 z
              · rcases q3 : compGo t1 c1 elt env3 items1 ds3 acc with _ | ⟨acc', ds4⟩
                · rw [q3] at h; exact h
                · rw [q3] at h
                  exact fun H5 ci5 => ⟨rfl, hlt, ds4, acc', ci5, h⟩
          · rw [q2] at h; exact h.elim
      · rw [q] at h; exact h.elim
  · refine .inl ⟨wl.stop i (by omega), ?_⟩
    rw [List.drop_eq_nil_of_le (by omega)] at h
    exact h H ci
end
section
variable {X : Cx} {C : Exs} {W : WX} {fr : Bool} {elt tg iter tg1 iter1 : Expr} {ifs ifs1 : List Expr} {scope : Scope} {own : List (Str × Nat)} {pos : Pos} {mi mi1 : ME (List PyData)} {t t1 : Tg} {is is1 vs1 : List Nat} {c c1 : ME Bool} {me : ME PyData}
theorem comp2_rd {K : PySem.W.Frag} (hv : ∀ i ∈ vs1, i ∈ own.map (·.2)) (hsub : ∀ i ∈ is, i ∈ own.map (·.2)) (hsub1 : ∀ i ∈ is1, i ∈ vs1) {σ : St} {H : Hp} {Q : VK} (h : rdF K C W (mComp2 (own.map (·.2)) mi t c mi1 vs1 t1 c1 me) σ H Q) :
    tLc2 (rdI K C W mi) (rdTgm K is t) (rdT K C W0 c) (rdI K C W0 mi1) (rdTgm K is1 t1) (rdT K C W0 c1) (rdG MD K C W0 me) (own.map (·.2)) vs1 σ H Q := by
  obtain ⟨Γ, env, ds, R, h⟩ := h
  refine ⟨Γ, env, ds, R, h.bind.imp fun items ds1 H1 e1 d1 q J wk D hD => ?_⟩
  have R1 := R.go e1 d1
  have hD0 := R.none_back e1 d1 hD
  dsimp only at q
  cases hw : wipeE env (own.map (·.2)) with
  | none => rw [hw] at q; exact q.elim
  | some env1 =>
    rw [hw] at q
    dsimp only at q
    refine comp2_loop hsub hsub1 hv R1 wk hD hw ?_
    rcases z : comp2Go t c mi1 vs1 t1 c1 me env1 items ds1 [] with _ | ⟨xs, ds'⟩
    · rw [z] at q; exact q
    · rw [z] at q
      intro H' ci
      obtain ⟨us, l1, l2, l3⟩ := ci.lst
      exact q H' ci.ext ci.draw D us hD0 l1 l2 l3
abbrev Blk (X : Cx) (scope : Scope) (P : Cx → Prop) : Prop := ∀ (s : Shared) (H : Hp) (k : Addr) (cl : List (Str × Addr)) (fp : List Addr), P (X.blk s H scope (compEnvC scope cl k X.env) fp)
theorem sf_comp2 (hc : X.calm = true) (hN : X.N.Nodup) (hi : SI X C W tg iter mi) (ok : BlkOk X.N X.env.scope scope own) (hv : ∀ i ∈ vs1, i ∈ own.map (·.2)) (hsub : ∀ i ∈ is, i ∈ own.map (·.2)) (hsub1 : ∀ i ∈ is1, i ∈ vs1)
    (hg : Blk X scope fun Y => SG Y tg is t) (ht : Blk X scope fun Y => STs Y C W0 ifs c) (hi1 : Blk X scope fun Y => SI Y C W0 tg1 iter1 mi1) (hg1 : Blk X scope fun Y => SG Y tg1 is1 t1) (ht1 : Blk X scope fun Y => STs Y C W0 ifs1 c1) (he : Blk X scope fun Y => SE Y C W0 elt me)
    (hs : ∀ x, foldedSetIterable iter X.env x = pure x := by intro _; rfl) (hs1 : ∀ env x, foldedSetIterable iter1 env x = pure x := by intro _ _; rfl) : SF X C W (.ListComp elt [⟨tg, iter, ifs, 0⟩, ⟨tg1, iter1, ifs1, 0⟩] scope pos) (mComp2 (own.map (·.2)) mi t c mi1 vs1 t1 c1 me) :=
  PE.imp (pe_lc2 hc hN hi ok hv hg ht hi1 hg1 ht1 he hs hs1) fun σ H Q h => comp2_rd hv hsub hsub1 h
theorem ss_setLc2 (i : Nat) {y : Str} {py spos : Pos} (hc : X.calm = true) (hN : X.N.Nodup) (hsw : swapsWith (.ListComp elt [⟨tg, iter, ifs, 0⟩, ⟨tg1, iter1, ifs1, 0⟩] scope pos) (some (.Name y py)) spos.line X.env = pure true) (hi : SI X C W tg iter mi) (ok : BlkOk X.N X.env.scope scope own) (hv : ∀ i ∈ vs1, i ∈ own.map (·.2)) (hsub : ∀ i ∈ is, i ∈ own.map (·.2)) (hsub1 : ∀ i ∈ is1, i ∈ vs1)
    (hg : Blk X scope fun Y => SG Y tg is t) (ht : Blk X scope fun Y => STs Y C W0 ifs c) (hi1 : Blk X scope fun Y => SI Y C W0 tg1 iter1 mi1) (hg1 : Blk X scope fun Y => SG Y tg1 is1 t1) (ht1 : Blk X scope fun Y => STs Y C W0 ifs1 c1) (he : Blk X scope fun Y => SE Y C W0 elt me)
    (hy : X.N[i]? = some y := by rfl) (hyl : X.env.scope.names.lookup y = some .local := by rfl) (hs : ∀ x, foldedSetIterable iter X.env x = pure x := by intro _; rfl) (hs1 : ∀ env x, foldedSetIterable iter1 env x = pure x := by intro _ _; rfl) :
    SS X C W fr (.Assign [.Name y py] (.ListComp elt [⟨tg, iter, ifs, 0⟩, ⟨tg1, iter1, ifs1, 0⟩] scope pos) spos) (mSet i (mF (mComp2 (own.map (·.2)) mi t c mi1 vs1 t1 c1 me))) :=
  PS.imp (L2.ps_setLc2 hc hN hy hyl hsw hi ok hv hg ht hi1 hg1 ht1 he hs hs1) fun D σ H ⟨Γ, env, ds, R, h⟩ => comp2_rd hv hsub hsub1 ⟨Γ, env, ds, R, (exS_aft R h).bind.imp fun xs ds1 H1 e1 d1 q a us h1 h2 h3 h4 => by
    have q := Aft.here q d1
    cases hp : put i (.d (.list xs)) env with
    | none => rw [hp] at q; exact q.elim
    | some env' =>
      rw [hp] at q
      exact q _ _ ((R.go e1 d1).set_d (.lst (R.new_gd h1) h2 h3 h4.unavoid) hp)⟩
end
end DL

/-! DL9: one's own lists changed, the draw, calls of defs, the rule for a def, try. -/
namespace DL
open PySem PySem.Spec L2
open PyProof.Rows hiding St

/-! ### one's own lists -/
/-- the list in a slot, ahead of all else -/
def onL (i : Nat) (f : List PyData → MS) : MS := fun env ds => match env[i]? with
  | some (.l xs) => f xs env ds
  | _ => none
def mApp (i : Nat) (a : ME PyData) : MS := onL i fun xs => exS a fun x env ds => if decide (xs.length < sizeLine) then some (.nx (env.set i (.l (xs ++ [x]))), ds) else none
def mExt (i : Nat) (a : ME PyData) : MS := onL i fun xs => exS a fun x env ds => match x with
  | .list ys => if short (xs.length + ys.length) then some (.nx (env.set i (.l (xs ++ ys))), ds) else none
  | _ => none
def mPut (i : Nat) (ix a : ME PyData) : MS := onL i fun xs => exS a fun x => exS ix fun k env ds => match k with
  | .int k => match ixN xs.length k with
    | some j => some (.nx (env.set i (.l (xs.set j x))), ds)
    | none => none
  | _ => none
/-- x.append(y.pop(e)) -/
def mAppPop (i j : Nat) (ix : ME PyData) : MS := onL i fun xs => onL j fun ys => exS ix fun k env ds => match k with
  | .int k => if decide (0 ≤ k ∧ k < 2 ^ 62) && decide (i ≠ j) && decide (xs.length < sizeLine) then match ys[k.toNat]? with
      | some y => some (.nx ((env.set j (.l (ys.eraseIdx k.toNat))).set i (.l (xs ++ [y]))), ds)
      | none => none
    else none
  | _ => none
/-- x = y.pop() -/
def mSetPop (i j : Nat) : MS := onL j fun ys env ds => match ys[ys.length - 1]? with
  | some y => match put i (.d y) (env.set j (.l ys.dropLast)) with
    | some env' => if decide (i ≠ j) then some (.nx env', ds) else none
    | none => none
  | none => none
theorem onL_aft {K : PySem.W.Frag} {C : Exs} {W : WX} {fr : Bool} {Γ : Gm} {D : Ends} {i : Nat} {f : List PyData → MS} {env : Ev} {ds : DS} (h : Aft2 K C W fr Γ D (onL i f env ds)) : ∃ xs, env[i]? = some (.l xs) ∧ Aft2 K C W fr Γ D (f xs env ds) := by
  unfold onL at h
  split at h
  · rename_i xs q
    exact ⟨xs, q, h⟩
  · exact h.elim
section
variable {X : Cx} {C : Exs} {W : WX} {fr : Bool} {e o ix : Expr} {me mi : ME PyData} {K : PySem.W.Frag} {Γ : Gm} {σ : St} {H : Hp} {env : Ev} {ds : DS}
theorem Rel.l_at (R : Rel K Γ σ H env ds) {i : Nat} {xs : List PyData} (h : env[i]? = some (.l xs)) : ∃ a us, σ[i]? = some (some (V.ref a)) ∧ H a = some (.lst us) ∧ DfAll K H (gd Γ σ env) us xs ∧ us.length ≤ sizeLine := by
  obtain ⟨a, us, e1, e2, e3, e4, _⟩ := R.slot i _ h
  exact ⟨a, us, e1, e2, e3, e4⟩
theorem tyV_list {a : Addr} {us : List V} (h : H a = some (.lst us)) : tyV K "list" (.ref a) H := .inl ⟨rfl, us, SqL.of h⟩
theorem Rel.l_same {H1 : Hp} {ds1 : DS} (R : Rel K Γ σ H env ds) (e1 : Ext Γ H H1) (d1 : DrR K Γ H1 ds1) {i : Nat} {xs : List PyData} {a : Addr} (h : env[i]? = some (.l xs)) (hs : σ[i]? = some (some (V.ref a))) : ∃ us, H1 a = some (.lst us) ∧ DfAll K H1 (gd Γ σ env) us xs ∧ us.length ≤ sizeLine := by
  obtain ⟨b, us, q1, q2, q3, q4⟩ := (R.go e1 d1).l_at h
  rw [hs] at q1
  cases q1
  exact ⟨us, q2, q3, q4⟩
theorem ss_app (i : Nat) {x : Str} {p ap cp ep : Pos} (he : SE X C W e me) (hN : X.N[i]? = some x := by rfl) (hv : Vis X.env.scope x := by first | exact Or.inl rfl | exact Or.inr (Or.inl rfl) | exact Or.inr (Or.inr rfl)) (hd : (x == ("__debug__" : Str)) = false := by decide) (hcd : (x == ("__classdict__" : Str)) = false := by decide)
    (hbase : attributeBase (.Name x p) "append" X.env (eval (.Name x p) X.env) = eval (.Name x p) X.env := by rfl)
    (hfew : ((backTo cp (starEach [e] X.env)).all (fun x => !x.1) && (backToKw cp (keywordEach [] X.env)).all (fun x => x.1.isSome) && decide ([e].length + ([] : List Keyword).length + (if ([] : List Keyword).isEmpty then 0 else 1) < 30)) = true := by rfl)
    (hline : (ap.endLine == cp.line) = true := by rfl) (hs : starEach (e :: []) X.env = (false, eval e X.env) :: starEach [] X.env := by rfl) (hplain : (backTo cp (starEach [] X.env)).any (·.1) = false := by rfl)
    (hsw : swapsWith (.Call (.Attribute (.Name x p) "append" ap) [e] [] cp) none ep.line X.env = pure false := by rfl) :
    SS X C W fr (.Expr (.Call (.Attribute (.Name x p) "append" ap) [e] [] cp) ep) (mApp i me) :=
  PS.imp (ps_expr (pe_bm PySem.F.plainAttrs_list PySem.F.slot_list_append PySem.F.type_list_append mt_append (pe_var hN hv hd hcd) (pa_cons he pa_nil hs) hbase hfew hline hs hplain) hsw) fun D σ H ⟨Γ, env, ds, R, h⟩ => by
    obtain ⟨xs, q0, h⟩ := onL_aft h
    obtain ⟨a, us, q1, q2, q3, q4⟩ := R.l_at q0
    refine ⟨_, q1, tyV_list q2, Γ, env, ds, R, (exS_aft R h).imp fun d ds1 H1 e1 d1 q v hv => ?_⟩
    obtain ⟨us1, w1, w2, w3⟩ := R.l_same e1 d1 q0 q1
    by_cases hs : xs.length < sizeLine
    · rw [if_pos (decide_eq_true hs)] at q
      have ln := w2.length
      refine ⟨a, us1, v, rfl, rfl, w1, by rw [ln]; exact hs, q _ _ ((R.go e1 d1).upd_l q0 q1 (by rw [List.length_append, ln]; exact hs) (w2.append (.cons hv .nil)))⟩
    · rw [if_neg (by rw [decide_eq_false hs]; exact Bool.false_ne_true)] at q
      exact q.elim
theorem ss_ext (i : Nat) {x : Str} {p ap cp ep : Pos} (he : SE X C W e me) (hN : X.N[i]? = some x := by rfl) (hv : Vis X.env.scope x := by first | exact Or.inl rfl | exact Or.inr (Or.inl rfl) | exact Or.inr (Or.inr rfl)) (hd : (x == ("__debug__" : Str)) = false := by decide) (hcd : (x == ("__classdict__" : Str)) = false := by decide)
    (hbase : attributeBase (.Name x p) "extend" X.env (eval (.Name x p) X.env) = eval (.Name x p) X.env := by rfl)
    (hfew : ((backTo cp (starEach [e] X.env)).all (fun x => !x.1) && (backToKw cp (keywordEach [] X.env)).all (fun x => x.1.isSome) && decide ([e].length + ([] : List Keyword).length + (if ([] : List Keyword).isEmpty then 0 else 1) < 30)) = true := by rfl)
    (hline : (ap.endLine == cp.line) = true := by rfl) (hs : starEach (e :: []) X.env = (false, eval e X.env) :: starEach [] X.env := by rfl) (hplain : (backTo cp (starEach [] X.env)).any (·.1) = false := by rfl)
    (hsw : swapsWith (.Call (.Attribute (.Name x p) "extend" ap) [e] [] cp) none ep.line X.env = pure false := by rfl) :
    SS X C W fr (.Expr (.Call (.Attribute (.Name x p) "extend" ap) [e] [] cp) ep) (mExt i me) :=
  PS.imp (ps_expr (pe_bm PySem.F.plainAttrs_list PySem.F.slot_list_extend PySem.F.type_list_extend mt_extend (pe_var hN hv hd hcd) (pa_cons he pa_nil hs) hbase hfew hline hs hplain) hsw) fun D σ H ⟨Γ, env, ds, R, h⟩ => by
    obtain ⟨xs, q0, h⟩ := onL_aft h
    obtain ⟨a, us, q1, q2, q3, q4⟩ := R.l_at q0
    refine ⟨_, q1, tyV_list q2, Γ, env, ds, R, (exS_aft R h).imp fun d ds1 H1 e1 d1 q v hv => ?_⟩
    obtain ⟨us1, w1, w2, w3⟩ := R.l_same e1 d1 q0 q1
    cases d with
    | list ys =>
      cases hv with
      | lst a1 a2 a3 a4 =>
        dsimp only at q
        by_cases hs' : short (xs.length + ys.length) = true
        · rw [if_pos hs'] at q
          have hs := short_iff hs'
          have ln := w2.length
          have ln2 := a4.length
          refine ⟨a, _, us1, _, rfl, rfl, w1, a2, by rw [ln, ln2]; exact hs, q _ _ ((R.go e1 d1).upd_l q0 q1 (by rw [List.length_append, ln, ln2]; exact hs) (w2.append a4))⟩
        · rw [if_neg hs'] at q
          exact q.elim
    | _ => exact q.elim
theorem ss_put (i : Nat) {x : Str} {p sp : Pos} {pos : Pos} (he : SE X C W e me) (hi : SE X C W ix mi) (hN : X.N[i]? = some x := by rfl) (hv : Vis X.env.scope x := by first | exact Or.inl rfl | exact Or.inr (Or.inl rfl) | exact Or.inr (Or.inr rfl)) (hd : (x == ("__debug__" : Str)) = false := by decide) (hcd : (x == ("__classdict__" : Str)) = false := by decide)
    (ha : ∀ v, assign (.Subscript (.Name x p) ix sp) X.env v = (do
      let ov ← holding [v] (eval (.Name x p) X.env)
      let iv ← holding [v, ov] (eval ix X.env)
      standAt sp
      holding [v, ov, iv] (setItem ov iv v)
      release [v, ov, iv] []) := by intro _; rfl)
    (hs : swapsWithSole [.Subscript (.Name x p) ix sp] e pos.line X.env = pure false := by rfl) (hw : swappedStores [.Subscript (.Name x p) ix sp] e X.env = pure none := by rfl)
    (h1 : (assignEach [.Subscript (.Name x p) ix sp] X.env).map (·.2) = [assign (.Subscript (.Name x p) ix sp) X.env] := by rfl) :
    SS X C W fr (.Assign [.Subscript (.Name x p) ix sp] e pos) (mPut i mi me) :=
  PS.imp (ps_asg he (pg_sub (pe_var hN hv hd hcd) hi set_list ha) hs hw h1) fun D σ H ⟨Γ, env, ds, R, h⟩ => by
    obtain ⟨xs, q0, h⟩ := onL_aft h
    obtain ⟨a, us, q1, q2, q3, q4⟩ := R.l_at q0
    refine ⟨Γ, env, ds, R, (exS_aft R h).imp fun d ds1 H1 e1 d1 q v hv => ⟨_, q1, ?_⟩⟩
    have R1 := R.go e1 d1
    refine ⟨Γ, env, ds1, R1, (exS_aft R1 q).imp fun k ds2 H2 e2 d2 q w hw => ?_⟩
    obtain ⟨us1, w1, w2, w3⟩ := R1.l_same e2 d2 q0 q1
    cases k with
    | int k =>
      cases hw
      dsimp only at q
      cases hj : ixN xs.length k with
      | none => rw [hj] at q; exact q.elim
      | some j =>
        rw [hj] at q
        refine ⟨a, us1, k, j, rfl, rfl, w1, by rw [w2.length]; exact hj, q _ _ ((R1.go e2 d2).upd_l q0 q1 (by rw [List.length_set]; exact w3) (w2.set j (hv.ext e2 d1)))⟩
    | _ => exact q.elim
theorem seqIndex_nat {k : Int} {n j : Nat} (h0 : 0 ≤ k) (h1 : k.toNat < n) (hj : k.toNat = j) : seqIndex? k n = some j := by
  have := ixN_seq (n := n) (i := k) (j := j) (by
    unfold ixN
    rw [if_pos h0, if_pos (by omega), hj])
  exact this.1
theorem DfAll.erase {g : Addr → Prop} : ∀ {us : List V} {xs : List PyData} (n : Nat), DfAll K H g us xs → DfAll K H g (us.eraseIdx n) (xs.eraseIdx n)
  | _, _, _, .nil => .nil
  | _, _, 0, .cons _ t => t
  | _, _, n + 1, .cons h t => .cons h (DfAll.erase n t)
theorem DfAll.dropLast {g : Addr → Prop} {us : List V} {xs : List PyData} (h : DfAll K H g us xs) : DfAll K H g us.dropLast xs.dropLast := by
  rw [List.dropLast_eq_take, List.dropLast_eq_take, h.length]
  exact h.take _
theorem ss_appPop (i j : Nat) {x y : Str} {p ap cp p2 ap2 cp2 ep : Pos} (he : SE X C W e me) (hN : X.N[i]? = some x := by rfl) (hv : Vis X.env.scope x := by first | exact Or.inl rfl | exact Or.inr (Or.inl rfl) | exact Or.inr (Or.inr rfl)) (hd : (x == ("__debug__" : Str)) = false := by decide) (hcd : (x == ("__classdict__" : Str)) = false := by decide)
    (hN2 : X.N[j]? = some y := by rfl) (hv2 : Vis X.env.scope y := by first | exact Or.inl rfl | exact Or.inr (Or.inl rfl) | exact Or.inr (Or.inr rfl)) (hd2 : (y == ("__debug__" : Str)) = false := by decide) (hcd2 : (y == ("__classdict__" : Str)) = false := by decide)
    (hbase : attributeBase (.Name x p) "append" X.env (eval (.Name x p) X.env) = eval (.Name x p) X.env := by rfl) (hbase2 : attributeBase (.Name y p2) "pop" X.env (eval (.Name y p2) X.env) = eval (.Name y p2) X.env := by rfl)
    (hfew : ((backTo cp (starEach [.Call (.Attribute (.Name y p2) "pop" ap2) [e] [] cp2] X.env)).all (fun x => !x.1) && (backToKw cp (keywordEach [] X.env)).all (fun x => x.1.isSome) && decide ([Expr.Call (.Attribute (.Name y p2) "pop" ap2) [e] [] cp2].length + ([] : List Keyword).length + (if ([] : List Keyword).isEmpty then 0 else 1) < 30)) = true := by rfl)
    (hfew2 : ((backTo cp2 (starEach [e] X.env)).all (fun x => !x.1) && (backToKw cp2 (keywordEach [] X.env)).all (fun x => x.1.isSome) && decide ([e].length + ([] : List Keyword).length + (if ([] : List Keyword).isEmpty then 0 else 1) < 30)) = true := by rfl)
    (hline : (ap.endLine == cp.line) = true := by rfl) (hline2 : (ap2.endLine == cp2.line) = true := by rfl) (hs2 : starEach (e :: []) X.env = (false, eval e X.env) :: starEach [] X.env := by rfl) (hplain2 : (backTo cp2 (starEach [] X.env)).any (·.1) = false := by rfl)
    (hs : starEach (Expr.Call (.Attribute (.Name y p2) "pop" ap2) [e] [] cp2 :: []) X.env = (false, eval (Expr.Call (.Attribute (.Name y p2) "pop" ap2) [e] [] cp2) X.env) :: starEach [] X.env := by rfl) (hplain : (backTo cp (starEach [] X.env)).any (·.1) = false := by rfl)
    (hsw : swapsWith (.Call (.Attribute (.Name x p) "append" ap) [.Call (.Attribute (.Name y p2) "pop" ap2) [e] [] cp2] [] cp) none ep.line X.env = pure false := by rfl) :
    SS X C W fr (.Expr (.Call (.Attribute (.Name x p) "append" ap) [.Call (.Attribute (.Name y p2) "pop" ap2) [e] [] cp2] [] cp) ep) (mAppPop i j me) :=
  PS.imp (ps_expr (pe_bm PySem.F.plainAttrs_list PySem.F.slot_list_append PySem.F.type_list_append mt_append (pe_var hN hv hd hcd) (pa_cons (pe_bm PySem.F.plainAttrs_list PySem.F.slot_list_pop PySem.F.type_list_pop mt_popAt (pe_var hN2 hv2 hd2 hcd2) (pa_cons he pa_nil hs2) hbase2 hfew2 hline2 hs2 hplain2) pa_nil hs) hbase hfew hline hs hplain) hsw) fun D σ H ⟨Γ, env, ds, R, h⟩ => by
    obtain ⟨xs, q0, h⟩ := onL_aft h
    obtain ⟨ys, r0, h⟩ := onL_aft h
    obtain ⟨a, us, q1, q2, q3, q4⟩ := R.l_at q0
    obtain ⟨b, ws, r1, r2, r3, r4⟩ := R.l_at r0
    refine ⟨_, q1, tyV_list q2, ?_⟩
    refine ⟨_, r1, tyV_list r2, Γ, env, ds, R, (exS_aft R h).imp fun d ds1 H1 e1 d1 q v hv => ?_⟩
    have R1 := R.go e1 d1
    cases d with
    | int k =>
      cases hv
      dsimp only at q
      by_cases hc : (decide (0 ≤ k ∧ k < 2 ^ 62) && decide (i ≠ j) && decide (xs.length < sizeLine)) = true
      · rw [if_pos hc] at q
        rw [Bool.and_eq_true, Bool.and_eq_true] at hc
        have hk := of_decide_eq_true hc.1.1
        have hij : i ≠ j := of_decide_eq_true hc.1.2
        have hl := of_decide_eq_true hc.2
        cases hy : ys[k.toNat]? with
        | none => rw [hy] at q; exact q.elim
        | some y =>
          rw [hy] at q
          dsimp only at q
          obtain ⟨us1, w1, w2, w3⟩ := R.l_same e1 d1 q0 q1
          obtain ⟨ws1, z1, z2, z3⟩ := R.l_same e1 d1 r0 r1
          obtain ⟨vy, y1, y2⟩ := z2.get hy
          have hn : k.toNat < ys.length := (List.getElem?_eq_some_iff.mp hy).1
          refine ⟨b, ws1, k, k.toNat, vy, rfl, rfl, z1, by omega, by omega, seqIndex_nat hk.1 (by rw [z2.length]; exact hn) rfl, y1, ?_⟩
          have hle : (ws1.eraseIdx k.toNat).length ≤ sizeLine := Nat.le_trans (List.length_eraseIdx_le ..) z3
          have R2 := R1.upd_l r0 r1 hle (z2.erase k.toNat)
          have q0' : (env.set j (.l (ys.eraseIdx k.toNat)))[i]? = some (.l xs) := by rw [List.getElem?_set_ne hij.symm]; exact q0
          obtain ⟨a', us2, f1, f2, f3, f4⟩ := R2.l_at q0'
          rw [q1] at f1
          cases f1
          have ln := f3.length
          have ob : owned σ env b := ⟨j, _, r0, rfl, r1⟩
          have nb : ∀ c, gd Γ σ env c → c ≠ b := fun c g z => g.2.1 (by rw [z]; exact ob)
          have ow : ∀ c, owned σ (env.set j (.l (ys.eraseIdx k.toNat))) c → owned σ env c := by
            rintro c ⟨l, s, w1, w2, w3⟩
            by_cases z : j = l
            · subst z; exact ⟨j, _, r0, rfl, w3⟩
            · rw [List.getElem?_set_ne z] at w1; exact ⟨l, s, w1, w2, w3⟩
          have tq : ∀ c u, H1 c = some (.tup u) → upd H1 b (.lst (ws1.eraseIdx k.toNat)) c = some (.tup u) := by
            intro c u t
            rw [upd_ne (ne_of t z1 (by intro z; cases z))]; exact t
          have vy' : Df X.K (upd H1 b (.lst (ws1.eraseIdx k.toNat))) (gd Γ σ (env.set j (.l (ys.eraseIdx k.toNat)))) vy y :=
            y2.mono (fun c u g k => ⟨⟨g.1, fun w => g.2.1 (ow c w), g.2.2⟩, by rw [upd_ne (nb c g)]; exact k⟩) tq
          refine ⟨a, us2, vy, rfl, rfl, f2, by rw [ln]; exact hl, q _ _ (R2.upd_l q0' q1 (by rw [List.length_append, ln]; exact hl) (f3.append (.cons vy' .nil)))⟩
      · rw [if_neg hc] at q
        exact q.elim
    | _ => exact q.elim
end
end DL

/-! DL10: the script, the draw, calls of defs, the rule for a def, try. -/
namespace DL
open PySem PySem.Spec L2
open PyProof.Rows hiding St

section
variable {X : Cx} {C : Exs} {W : WX} {fr : Bool} {tg e : Expr} {me : ME PyData} {K : PySem.W.Frag} {Γ : Gm} {σ : St} {H : Hp} {env : Ev} {ds : DS}
/-! ### the script -/
def mScr (i : Nat) : ME (List PyData) := fun env ds => match env[i]? with
  | some (.scr ns) => some (.ok (ns.map .int), ds)
  | _ => none
theorem kept_scr {H2 : Hp} (R : Rel K Γ σ H env ds) (k : Kept Γ σ env H H2) {a : Addr} {xs : List V} (h : ScrAt K H a xs) : ScrAt K H2 a xs := by
  rcases h with ⟨o, h⟩ | h
  · obtain ⟨n1, n2⟩ := kept_nd R h imm_frz
    exact .inl ⟨o, k a _ n1 n2 (fun _ z => by cases z) h⟩
  · exact .inr h
theorem si_scr (i : Nat) {x : Str} {p : Pos} (hN : X.N[i]? = some x := by rfl) (hv : Vis X.env.scope x := by first | exact Or.inl rfl | exact Or.inr (Or.inl rfl) | exact Or.inr (Or.inr rfl)) (hd : (x == ("__debug__" : Str)) = false := by decide) (hcd : (x == ("__classdict__" : Str)) = false := by decide) : SI X C W tg (.Name x p) (mScr i) :=
  PI.imp (pi_list (pe_var hN hv hd hcd)) fun σ H Q ⟨Γ, env, ds, R, h⟩ => by
    unfold mScr at h
    rcases q : env[i]? with _ | y
    · rw [q] at h; exact h.elim
    · rw [q] at h
      have s := R.slot i _ q
      cases y with
      | scr ns =>
        obtain ⟨a, e1, e2, e3⟩ := s
        refine ⟨_, e1, a, rfl, ⟨_, e2.sq⟩, Aft.here h R.draw _ fun H2 k => ?_⟩
        have s2 := kept_scr R k e2
        refine ⟨fun j hj => ?_, fun j x H' hj q => ?_, fun j hj => ⟨_, s2.sq, by rw [List.length_map] at hj ⊢; exact hj⟩⟩
        · rw [List.length_map] at hj
          exact ⟨_, .int ns[j], s2.sq, by rw [List.getElem?_map, List.getElem?_eq_getElem hj]; rfl⟩
        · obtain ⟨rfl, q⟩ := q
          rw [List.length_map] at hj
          have q := q _ s2.sq
          rw [List.getElem?_map, List.getElem?_eq_getElem hj] at q
          cases q
          exact ⟨.int ns[j], by rw [List.getElem?_map, List.getElem?_eq_getElem hj]; rfl, fun _ _ z => z, .int _⟩
      | _ => exact h.elim

/-! ### the draw -/
def drGet (s : DSt) : Nat → Option PyData
  | 0 => some (.list (s.cells.map .int))
  | 1 => some (.int s.place)
  | 2 => some (.int s.cur)
  | 3 => some (.int s.seed)
  | _ => none
def drSet (s : DSt) : Nat → Int → Option DSt
  | 1, i => some { s with place := i }
  | 2, i => some { s with cur := i }
  | 3, i => some { s with seed := i }
  | _, _ => none
def mDrw (i k : Nat) : ME PyData := fun env ds => match env[i]?, ds with
  | some .drw, some s => match drGet s k with
    | some x => some (.ok x, ds)
    | none => none
  | _, _ => none
def mDrwSet (i k : Nat) (a : ME PyData) : MS := exS a fun x env ds => match env[i]?, ds, x with
  | some .drw, some s, .int j => match drSet s k j with
    | some s' => some (.nx env, some s')
    | none => none
  | _, _, _ => none
theorem Rel.drw (R : Rel K Γ σ H env ds) {i : Nat} (h : env[i]? = some .drw) : ∃ p s, Γ.dr = some p ∧ ds = some s ∧ σ[i]? = some (some (V.ref p.1)) ∧ H p.1 = some (.lst [.ref p.2, .int s.place, .int s.cur, .int s.seed]) ∧ H p.2 = some (.lst (s.cells.map V.int)) ∧ s.cells.length ≤ sizeLine ∧ p.2 ≠ p.1 ∧ gd Γ σ env p.2 := by
  obtain ⟨p, e1, e2⟩ := R.slot i _ h
  have d := R.draw
  have dc := R.drc p e1
  unfold DrR at d
  rw [e1] at d
  cases ds with
  | none => exact d.elim
  | some s =>
    refine ⟨p, s, e1, rfl, e2, d.1, d.2.1, d.2.2.1, d.2.2.2.1, d.2.2.2.2, dc, fun q e z => ?_⟩
    rw [e1] at e
    cases e
    exact d.2.2.2.1 z
theorem se_drw (i k : Nat) {x : Str} {p p2 pos : Pos} {j : Nat} (hN : X.N[i]? = some x := by rfl) (hv : Vis X.env.scope x := by first | exact Or.inl rfl | exact Or.inr (Or.inl rfl) | exact Or.inr (Or.inr rfl)) (hd : (x == ("__debug__" : Str)) = false := by decide) (hcd : (x == ("__classdict__" : Str)) = false := by decide)
    (hs : PlainIx (.Constant (.int k) j p2) := by exact fun _ _ => rfl) : SE X C W (.Subscript (.Name x p) (.Constant (.int k) j p2) pos) (mDrw i k) :=
  PE.imp (pe_ix ix_list (pe_var hN hv hd hcd) pe_int hs) fun σ H Q ⟨Γ, env, ds, R, h⟩ => by
    unfold mDrw at h
    rcases q : env[i]? with _ | y
    · rw [q] at h; exact h.elim
    · rw [q] at h
      cases y with
      | drw =>
        obtain ⟨p, s, e1, rfl, e2, e3, e4, e5, e6, e7⟩ := R.drw q
        dsimp only at h
        cases g : drGet s k with
        | none => rw [g] at h; exact h.elim
        | some x =>
          rw [g] at h
          have fin := Aft.here h R.draw
          have go : ∀ v, atI [V.ref p.2, .int s.place, .int s.cur, .int s.seed] ((k : Nat) : Int) = some v → Df X.K H (gd Γ σ env) v x → _ := fun v e h => (⟨_, e2, p.1, _, _, v, rfl, rfl, SqL.of e3, e, fin v h⟩ : tOp (rIxL X.K) (tVar i) (tC (V.int k)) σ H Q)
          match k, g with
          | 0, g => cases g; exact go _ rfl (.lst e7 e4 (by rw [List.length_map]; exact e5) (DfAll.of_ints _))
          | 1, g => cases g; exact go _ rfl (.int _)
          | 2, g => cases g; exact go _ rfl (.int _)
          | 3, g => cases g; exact go _ rfl (.int _)
          | _ + 4, g => cases g
      | _ => exact h.elim
theorem ss_drwSet (i k : Nat) {x : Str} {p p2 sp pos : Pos} {j : Nat} (he : SE X C W e me) (hN : X.N[i]? = some x := by rfl) (hv : Vis X.env.scope x := by first | exact Or.inl rfl | exact Or.inr (Or.inl rfl) | exact Or.inr (Or.inr rfl)) (hd : (x == ("__debug__" : Str)) = false := by decide) (hcd : (x == ("__classdict__" : Str)) = false := by decide)
    (ha : ∀ v, assign (.Subscript (.Name x p) (.Constant (.int k) j p2) sp) X.env v = (do
      let ov ← holding [v] (eval (.Name x p) X.env)
      let iv ← holding [v, ov] (eval (.Constant (.int k) j p2) X.env)
      standAt sp
      holding [v, ov, iv] (setItem ov iv v)
      release [v, ov, iv] []) := by intro _; rfl)
    (hs : swapsWithSole [.Subscript (.Name x p) (.Constant (.int k) j p2) sp] e pos.line X.env = pure false := by rfl) (hw : swappedStores [.Subscript (.Name x p) (.Constant (.int k) j p2) sp] e X.env = pure none := by rfl)
    (h1 : (assignEach [.Subscript (.Name x p) (.Constant (.int k) j p2) sp] X.env).map (·.2) = [assign (.Subscript (.Name x p) (.Constant (.int k) j p2) sp) X.env] := by rfl) :
    SS X C W fr (.Assign [.Subscript (.Name x p) (.Constant (.int k) j p2) sp] e pos) (mDrwSet i k me) :=
  PS.imp (ps_asg he (pg_sub (pe_var hN hv hd hcd) pe_int set_list ha) hs hw h1) fun D σ H ⟨Γ, env, ds, R, h⟩ => ⟨Γ, env, ds, R, (exS_aft R h).imp fun d ds1 H1 x1 d1 h v hv => by
    have R1 := R.go x1 d1
    rcases q : env[i]? with _ | y
    · rw [q] at h; exact h.elim
    · rw [q] at h
      cases y with
      | drw =>
        obtain ⟨p, s, e1, rfl, e2, e3, e4, e5, e6, e7⟩ := R1.drw q
        cases d with
        | int n =>
          cases hv
          dsimp only at h
          cases g : drSet s k n with
          | none => rw [g] at h; exact h.elim
          | some s' =>
            rw [g] at h
            have go : ∀ l, l < 4 → k = l → ([V.ref p.2, .int s.place, .int s.cur, .int s.seed].set l (.int n) = [V.ref p.2, .int s'.place, .int s'.cur, .int s'.seed]) → s'.cells = s.cells → (gSub (tVar i) (tC (V.int k)) rSetL (V.int n) σ H1 D.nx) := fun l hl hk hs hc => by
              refine ⟨_, e2, p.1, _, _, l, rfl, rfl, e3, ?_, ?_⟩
              · unfold ixN
                subst hk
                show (if (0 : Int) ≤ ((k : Nat) : Int) then (if ((k : Nat) : Int) < ((4 : Nat) : Int) then some ((k : Nat) : Int).toNat else none) else _) = some k
                rw [if_pos (by omega), if_pos (by omega)]
                rfl
              · rw [hs]
                refine h σ _ (R1.go (fun a o n q => ?_) ?_)
                · rw [upd_ne (n p e1)]; exact q
                · unfold DrR
                  rw [e1]
                  exact ⟨upd_same, by rw [upd_ne e6, hc]; exact e4, by rw [hc]; exact e5, e6, e7.1⟩
            match k, g with
            | 0, g => cases g
            | 1, g => cases g; exact go 1 (by decide) rfl rfl rfl
            | 2, g => cases g; exact go 2 (by decide) rfl rfl rfl
            | 3, g => cases g; exact go 3 (by decide) rfl rfl rfl
            | _ + 4, g => cases g
        | _ => exact h.elim
      | _ => exact h.elim⟩
end

/-! ### calls -/
def ArgR (K : PySem.W.Frag) (Γ : Gm) (g : Addr → Prop) (H : Hp) (v : V) : Sl → Prop
  | .d x => Df K H g v x
  | .drw => ∃ p, Γ.dr = some p ∧ v = .ref p.1
  | .scr ns => ∃ a, v = .ref a ∧ ScrAt K H a (ns.map V.int) ∧ ns.length ≤ 63
  | _ => False
inductive ArgsR (K : PySem.W.Frag) (Γ : Gm) (g : Addr → Prop) (H : Hp) : List V → List Sl → Prop
  | nil : ArgsR K Γ g H [] []
  | cons {v : V} {x : Sl} {vs : List V} {xs : List Sl} : ArgR K Γ g H v x → ArgsR K Γ g H vs xs → ArgsR K Γ g H (v :: vs) (x :: xs)
abbrev FS := List Sl → DS → Rz PyData
/-- what a def promises -/
def spD (K : PySem.W.Frag) (C : Exs) (fr : Bool) (np : Nat) (f : FS) : Sp := fun vs H Q E => ∃ Γ args ds, Γ.H0 = H ∧ Γ.lk = [] ∧ (∀ a, H a = none → Γ.ok a) ∧ DrR K Γ H ds ∧ ArgsR K Γ (fun a => Γ.ok a ∧ Γ.nd a) H vs args ∧ args.length = np ∧
  match f args ds with
  | some (.ok d, ds') => ∀ v H', RetR fr K Γ H' ds' v d → Q v H'
  | some (.exc x, ds') => ∀ cls dd H', Ext Γ H H' → DrR K Γ H' ds' → ExR C x cls dd H' → E cls dd H'
  | none => False
def runB (nN np : Nat) (fr : Bool) (m : MS) : FS := fun args ds => match m (args ++ List.replicate (nN - np) .un) ds with
  | some (.rt d, ds') => some (.ok d, ds')
  | some (.nx _, ds') => if fr then none else some (.ok .none, ds')
  | some (.ex x _, ds') => some (.exc x, ds')
  | _ => none
theorem ArgsR.length {K : PySem.W.Frag} {Γ : Gm} {g : Addr → Prop} {H : Hp} {vs : List V} {xs : List Sl} (h : ArgsR K Γ g H vs xs) : vs.length = xs.length := by
  induction h with
  | nil => rfl
  | cons _ _ ih => rw [List.length_cons, List.length_cons, ih]
theorem ArgsR.get {K : PySem.W.Frag} {Γ : Gm} {g : Addr → Prop} {H : Hp} {vs : List V} {xs : List Sl} (h : ArgsR K Γ g H vs xs) : ∀ (i : Nat) (x : Sl), xs[i]? = some x → ∃ v, vs[i]? = some v ∧ ArgR K Γ g H v x := by
  induction h with
  | nil => intro i x q; simp at q
  | cons a _ ih =>
    intro i x q
    cases i with
    | zero =>
      simp at q
      subst q
      exact ⟨_, rfl, a⟩
    | succ i =>
      obtain ⟨v, q1, q2⟩ := ih i x (by simpa using q)
      exact ⟨v, by simpa using q1, q2⟩
theorem ArgsR.own {K : PySem.W.Frag} {Γ : Gm} {g : Addr → Prop} {H : Hp} {vs : List V} {xs : List Sl} (h : ArgsR K Γ g H vs xs) {n : Nat} {i : Nat} {x : Sl} (q : (xs ++ List.replicate n .un)[i]? = some x) : x.own = false := by
  by_cases hi : i < xs.length
  · rw [List.getElem?_append_left hi] at q
    obtain ⟨v, _, a⟩ := h.get i x q
    cases x with
    | l _ => exact a.elim
    | lk _ => exact a.elim
    | dc t0 _ => exact a.elim
    | _ => rfl
  · rw [List.getElem?_append_right (by omega)] at q
    rw [List.getElem?_replicate] at q
    split at q
    · cases q; rfl
    · cases q
section
variable {K : PySem.W.Frag} {Γ : Gm} {H : Hp} {ds : DS}
theorem rel_start {vs : List V} {args : List Sl} {N : List Str} (h0 : Γ.H0 = H) (hk : Γ.lk = []) (ho : ∀ a, H a = none → Γ.ok a) (hd : DrR K Γ H ds) (ha : ArgsR K Γ (fun a => Γ.ok a ∧ Γ.nd a) H vs args) : Rel K Γ (L2.start N vs) H (args ++ List.replicate (N.length - args.length) .un) ds := by
  have ln := ha.length
  have no : ∀ a, ¬ owned (L2.start N vs) (args ++ List.replicate (N.length - args.length) Sl.un) a := fun a ⟨i, x, q1, q2, _⟩ => by
    rw [ha.own q1] at q2
    cases q2
  have gg : ∀ a, Γ.ok a ∧ Γ.nd a → gd Γ (L2.start N vs) (args ++ List.replicate (N.length - args.length) Sl.un) a := fun a q => ⟨q.1, no a, q.2⟩
  refine ⟨?_, fun i x q => ?_, fun i j x y _ hi _ oi _ => ?_, fun a q => ho a (by rw [← h0]; exact q), by rw [h0]; exact Ext.refl, hd, fun p _ => no _, fun p hp => by rw [hk] at hp; cases hp⟩
  · unfold L2.start
    rw [List.length_append, List.length_append, List.length_map, List.length_replicate, List.length_replicate, ln]
  · by_cases hi : i < args.length
    · rw [List.getElem?_append_left hi] at q
      obtain ⟨v, e, a⟩ := ha.get i x q
      have es : (L2.start N vs)[i]? = some (some v) := by
        unfold L2.start
        rw [List.getElem?_append_left (by rw [List.length_map, ln]; exact hi), List.getElem?_map, e]
        rfl
      rw [es]
      cases x with
      | d y => exact ⟨v, rfl, (show Df K H _ v y from a).mono (fun a u z k => ⟨gg a z, k⟩) fun _ _ z => z⟩
      | drw =>
        obtain ⟨p, e1, e2⟩ := a
        exact ⟨p, e1, by rw [e2]⟩
      | scr ns =>
        obtain ⟨b, e1, e2, e3⟩ := a
        exact ⟨b, by rw [e1], e2, e3⟩
      | un => trivial
      | l _ => exact a.elim
      | lk _ => exact a.elim
      | dc t0 _ => exact a.elim
    · rw [List.getElem?_append_right (by omega), List.getElem?_replicate] at q
      split at q
      · cases q; trivial
      · cases q
  · rw [ha.own hi] at oi
    cases oi
end
/-- THE RULE FOR A DEF: its body by its meaning -/
theorem Fun.okD {P : Program} {w : World} {K : PySem.W.Frag} {mg : Str → Option Value} {base : Heap} {x qual : Str} {st : Stmt} {f : Addr} {fd : FuncData} {N ps : List Str} {k : Nat} {C : Exs} {fr : Bool} {m : MS} (F : Fun K x qual st f fd) (S : FnScope N ps (defScope st))
    (hbody : ∀ (cdv : Value) (A : Around) (outer : List Env) (s : Shared) (H : Hp) (E : XK), Room k (A.deeper (envOfC qual (defScope st) s.heap.objs.size f cdv)) →
      SSs (cxOf (L2.CX P w) P w K mg base N qual (defScope st) f cdv A outer s H E) C (fun cls d _ H' => E cls d H') fr (defBody st) m) :
    FnOk P w K mg base (L2.CX P w) (k + 1) f fd ps (spD K C fr ps.length (runB N.length ps.length fr m)) := by
  refine F.okX S (fun vs H Q E h => ?_) (fun cdv A outer s H vs Q E hr h => ?_)
  · obtain ⟨Γ, args, ds, _, _, _, _, ha, hl, _⟩ := h
    exact ha.length.trans hl
  · obtain ⟨Γ, args, ds, h0, hk, ho, hd, ha, hl, h⟩ := h
    refine ⟨_, hbody cdv A outer s H E hr, Γ, _, ds, rel_start h0 hk ho hd ha, ?_⟩
    unfold runB at h
    rw [← hl] at h
    rcases q : m (args ++ List.replicate (N.length - args.length) Sl.un) ds with _ | ⟨fl, ds'⟩
    · rw [q] at h; exact h
    · rw [q] at h
      cases fl with
      | nx e =>
        dsimp only at h
        cases fr with
        | true => exact h.elim
        | false =>
          rw [if_neg Bool.false_ne_true] at h
          exact fun σ' H' R' => h .non H' ⟨R'.ext, R'.draw, .non⟩
      | bk e => exact h.elim
      | ct e => exact h.elim
      | rt d => exact h
      | ex x e => exact fun cls dd σ' H' R' hx => h cls dd H' (by have := R'.ext; rw [h0] at this; exact this) R'.draw hx
/-- good as an argument; b: one's own lists are too -/
def gb (Γ : Gm) (σ : St) (env : Ev) (b : Bool) (a : Addr) : Prop := (b = true ∧ Γ.nd a) ∨ gd Γ σ env a
theorem gb.nd {Γ : Gm} {σ : St} {env : Ev} {b : Bool} {a : Addr} (h : gb Γ σ env b a) : Γ.nd a := h.elim (fun z => z.2) fun z => z.2.2
def rdAx (K : PySem.W.Frag) (C : Exs) (W : WX) (b : Bool) (m : ME (List Sl)) : TA := fun σ H Q => ∃ Γ env ds, Rel K Γ σ H env ds ∧
  Aft K C W Γ σ H (m env ds) fun xs _ H' => ∀ vs, ArgsR K Γ (gb Γ σ env b) H' vs xs → Q vs H'
/-- arguments; b: one's own lists may be among them -/
abbrev SAx (X : Cx) (C : Exs) (W : WX) (b : Bool) (es : List Expr) (m : ME (List Sl)) : Prop := PA X es (rdAx X.K C W b m)
def axNil : ME (List Sl) := ME.pure []
def axD (a : ME PyData) (r : ME (List Sl)) : ME (List Sl) := a.bind fun x => r.bind fun xs => ME.pure (.d x :: xs)
def axV (i : Nat) (r : ME (List Sl)) : ME (List Sl) := fun env ds => match env[i]? with
  | some .drw => (r env ds).bind fun xs ds' => some (.ok (.drw :: xs), ds')
  | some (.scr ns) => (r env ds).bind fun xs ds' => some (.ok (.scr ns :: xs), ds')
  | _ => none
/-! no list within -/
mutual
def noL : PyData → Bool
  | .list _ => false
  | .dict _ => false
  | .tuple xs => noLs xs
  | _ => true
def noLs : List PyData → Bool
  | [] => true
  | x :: r => noL x && noLs r
end
mutual
theorem Df.noL {K : PySem.W.Frag} {H : Hp} {g g' : Addr → Prop} : ∀ {d : PyData} {v : V}, Df K H g v d → DL.noL d = true → Df K H g' v d
  | _, _, .non, _ => .non
  | _, _, .bl b, _ => .bl b
  | _, _, .int i, _ => .int i
  | _, _, .str x, _ => .str x
  | _, _, .lst _ _ _ _, h => by cases h
  | _, _, .tup h1 h2 h3, h => .tup h1 h2 (DfAll.noL h3 h)
theorem DfAll.noL {K : PySem.W.Frag} {H : Hp} {g g' : Addr → Prop} : ∀ {ds : List PyData} {vs : List V}, DfAll K H g vs ds → noLs ds = true → DfAll K H g' vs ds
  | _, _, .nil, _ => .nil
  | _, _, .cons h1 h2, h => by
    unfold noLs at h
    rw [Bool.and_eq_true] at h
    exact .cons (Df.noL h1 h.1) (DfAll.noL h2 h.2)
end
def mCall (f : FS) (a : ME (List Sl)) : ME PyData := a.bind fun args _ ds => f args ds
def mCallP (f : FS) (a : ME (List Sl)) : ME PyData := a.bind fun args _ ds => (f args ds).bind fun d ds' => if noL d then some (.ok d, ds') else none
def mCallF (f : FS) (a : ME (List Sl)) : ME (List PyData) := a.bind fun args _ ds => (f args ds).bind fun d ds' => match d with
  | .list xs => some (.ok xs, ds')
  | _ => none
section
variable {X : Cx} {C : Exs} {W : WX} {e : Expr} {es : List Expr} {me : ME PyData} {ma : ME (List Sl)} {M : Md} {b : Bool}
theorem sax_nil : SAx X C W b [] axNil := PA.imp pa_nil fun σ H Q ⟨Γ, env, ds, R, h⟩ => Aft.here h R.draw _ .nil
theorem sax_d (he : SE X C W e me) (hr : SAx X C W b es ma) (hs : starEach (e :: es) X.env = (false, eval e X.env) :: starEach es X.env := by rfl) : SAx X C W b (e :: es) (axD me ma) :=
  PA.imp (pa_cons he hr hs) fun σ H Q ⟨Γ, env, ds, R, h⟩ => ⟨Γ, env, ds, R, h.bind.imp fun d ds1 H1 e1 d1 q x hx => ⟨Γ, env, ds1, R.go e1 d1, q.bind.imp fun xs ds2 H2 e2 d2 q vs hv =>
    Aft.here q d2 _ (.cons ((Df.ext e2 d1 hx).mono (fun a u z k => ⟨.inr z, k⟩) fun _ _ z => z) hv)⟩⟩
/-- one's own list in passing, as an argument -/
theorem sax_p (he : SP X C W e me) (hr : SAx X C W true es ma) (hs : starEach (e :: es) X.env = (false, eval e X.env) :: starEach es X.env := by rfl) : SAx X C W true (e :: es) (axD me ma) :=
  PA.imp (pa_cons he hr hs) fun σ H Q ⟨Γ, env, ds, R, h⟩ => ⟨Γ, env, ds, R, h.bind.imp fun d ds1 H1 e1 d1 q x hx => ⟨Γ, env, ds1, R.go e1 d1, q.bind.imp fun xs ds2 H2 e2 d2 q vs hv => by
    refine Aft.here q d2 _ (.cons ?_ hv)
    rcases persP.ext e2 d1 hx with w | ⟨a, us, ds', w1, w2, w3, w4, w5, w6⟩
    · exact (show Df X.K H2 _ x d from w).mono (fun a u z k => ⟨.inr z, k⟩) fun _ _ z => z
    · subst w1 w2
      exact .lst (.inl ⟨rfl, w4⟩) w3 w5 (w6.mono (fun a u z k => ⟨.inr z, k⟩) fun _ _ z => z)⟩⟩
theorem sax_v (i : Nat) {x : Str} {p : Pos} (hr : SAx X C W b es ma) (hN : X.N[i]? = some x := by rfl) (hv : Vis X.env.scope x := by first | exact Or.inl rfl | exact Or.inr (Or.inl rfl) | exact Or.inr (Or.inr rfl)) (hd : (x == ("__debug__" : Str)) = false := by decide) (hcd : (x == ("__classdict__" : Str)) = false := by decide)
    (hs : starEach (.Name x p :: es) X.env = (false, eval (.Name x p) X.env) :: starEach es X.env := by rfl) : SAx X C W b (.Name x p :: es) (axV i ma) :=
  PA.imp (pa_cons (pe_var hN hv hd hcd) hr hs) fun σ H Q ⟨Γ, env, ds, R, h⟩ => by
    unfold axV at h
    rcases q : env[i]? with _ | y
    · rw [q] at h; exact h.elim
    · rw [q] at h
      have s := R.slot i _ q
      cases y with
      | drw =>
        obtain ⟨p, e1, e2⟩ := s
        exact ⟨_, e2, Γ, env, ds, R, (Aft.bind h).imp fun xs ds2 H2 x2 d2 q vs hv => Aft.here q d2 _ (.cons ⟨p, e1, rfl⟩ hv)⟩
      | scr ns =>
        obtain ⟨a, e1, e2, e3⟩ := s
        exact ⟨_, e1, Γ, env, ds, R, (Aft.bind h).imp fun xs ds2 H2 x2 d2 q vs hv => Aft.here q d2 _ (.cons ⟨a, rfl, scr_ext x2 R.draw e2, e3⟩ hv)⟩
      | _ => exact h.elim
theorem ArgsR.to {K : PySem.W.Frag} {Γ Γ' : Gm} {g g' : Addr → Prop} {H : Hp} {vs : List V} {xs : List Sl} (h : ArgsR K Γ g H vs xs) (hd : Γ'.dr = Γ.dr) (hg : ∀ a u, H a = some (.lst u) → g a → g' a) : ArgsR K Γ' g' H vs xs := by
  induction h with
  | nil => exact .nil
  | @cons v x vs xs a _ ih =>
    refine .cons ?_ ih
    cases x with
    | d y => exact (show Df K H g v y from a).mono (fun b u z k => ⟨hg b u k z, k⟩) fun _ _ z => z
    | drw =>
      obtain ⟨p, e1, e2⟩ := a
      exact ⟨p, by rw [hd]; exact e1, e2⟩
    | scr ns => exact a
    | un => exact a
    | l _ => exact a
    | lk _ => exact a
    | dc t0 _ => exact a
theorem DrR.to {K : PySem.W.Frag} {Γ Γ' : Gm} {H : Hp} {ds : DS} (h : DrR K Γ H ds) (hd : Γ'.dr = Γ.dr) (ho : ∀ p, Γ.dr = some p → Γ'.ok p.2) : DrR K Γ' H ds := by
  unfold DrR at h ⊢
  rw [hd]
  cases q : Γ.dr with
  | none =>
    rw [q] at h
    cases ds with
    | none => trivial
    | some s => exact h
  | some p =>
    rw [q] at h
    cases ds with
    | none => exact h
    | some s => exact ⟨h.1, h.2.1, h.2.2.1, h.2.2.2.1, ho p q⟩
theorem DrR.okp {K : PySem.W.Frag} {Γ : Gm} {H : Hp} {ds : DS} (h : DrR K Γ H ds) (p : Addr × Addr) (e : Γ.dr = some p) : Γ.ok p.2 ∧ p.2 ≠ p.1 := by
  unfold DrR at h
  rw [e] at h
  cases ds with
  | none => exact h.elim
  | some s => exact ⟨h.2.2.2.2, h.2.2.2.1⟩
/-- the callee's ground -/
def Gm.call (Γ : Gm) (H : Hp) (ok : Addr → Prop) : Gm := { Γ with H0 := H, ok := ok, lk := [] }
theorem gd_cell {K : PySem.W.Frag} {Γ : Gm} {σ : St} {H : Hp} {env : Ev} {ds : DS} (R : Rel K Γ σ H env ds) (p : Addr × Addr) (e : Γ.dr = some p) : gd Γ σ env p.2 :=
  ⟨(R.draw.okp p e).1, R.drc p e, fun q e2 z => by rw [e] at e2; cases e2; exact (R.draw.okp p e).2 z⟩
theorem call_rd {K : PySem.W.Frag} {fr b : Bool} {np : Nat} {f : FS} {Γ : Gm} {σ : St} {H1 : Hp} {env : Ev} {ds1 : DS} {vs : List V} {args : List Sl} {Q : VK} {E : XK} (R1 : Rel K Γ σ H1 env ds1) (ha : ArgsR K Γ (gb Γ σ env b) H1 vs args) (hn : args.length = np)
    (h : match f args ds1 with
      | some (.ok d, ds') => ∀ v H', Ext Γ H1 H' → DrR K Γ H' ds' → RetR fr K (Γ.call H1 (gb Γ σ env b)) H' ds' v d → Q v H'
      | some (.exc x, ds') => ∀ cls dd H', Ext Γ H1 H' → DrR K Γ H' ds' → ExR C x cls dd H' → E cls dd H'
      | none => False) : spD K C fr np f vs H1 Q E := by
  refine ⟨Γ.call H1 (gb Γ σ env b), args, ds1, rfl, rfl, fun a q => .inr (R1.new_gd q), R1.draw.to rfl fun p e => .inr (gd_cell R1 p e), ha.to rfl fun a u k z => ⟨z, z.nd⟩, hn, ?_⟩
  rcases q : f args ds1 with _ | ⟨d | x, ds'⟩
  · rw [q] at h; exact h
  · rw [q] at h
    exact fun v H' r => h v H' r.1 (r.2.1.to rfl fun p e => (R1.draw.okp p e).1) r
  · rw [q] at h
    exact fun cls dd H' e d hx => h cls dd H' e (d.to rfl fun p e => (R1.draw.okp p e).1) hx
/-- so many arguments -/
def chk (np : Nat) (f : FS) : FS := fun args ds => if args.length = np then f args ds else none
theorem chk_rd {K : PySem.W.Frag} {fr : Bool} {np : Nat} {f : FS} {vs : List V} {H : Hp} {Q : VK} {E : XK} {Γ : Gm} {σ : St} {env : Ev} {ds : DS} {args : List Sl} {b : Bool} {α : Type} {g : PyData → DS → Rz α} {P : α → DS → Hp → Prop} (h : Aft K C W Γ σ H ((chk np f args ds).bind g) P) : args.length = np ∧ Aft K C W Γ σ H ((f args ds).bind g) P := by
  unfold chk at h
  by_cases q : args.length = np
  · rw [if_pos q] at h; exact ⟨q, h⟩
  · rw [if_neg q] at h; exact h.elim
variable {k np : Nat} {fa : Addr} {fd : FuncData} {ps : List Str} {x : Str} {p pos : Pos} {f : FS}
theorem se_call (F : FnOk X.prog X.w X.K X.mg X.base (L2.CX X.prog X.w) k fa fd ps (spD X.K C false np f)) (hr : Room k X.A) (hm : X.mg x = some (.ref fa)) (hk : PySem.W.keepIn X.K (.ref fa) = true) (hb : Binds X.K fd ps []) (tk : Takes X W) (ha : SAx X C W false (e :: es) ma) (hg : Gl X x := by rfl)
    (hdb : (x == ("__debug__" : Str)) = false := by decide) (he : starEach (e :: es) X.env = (false, eval e X.env) :: starEach es X.env := by rfl) (hpl : (backTo pos (starEach es X.env)).any (·.1) = false := by rfl) : SE X C W (.Call (.Name x p) (e :: es) [] pos) (mCall (chk np f) ma) :=
  PE.imp (pe_callS F hr hg hm hk hb (fun σ => passAt tk σ) ha hdb he hpl) fun σ H Q ⟨Γ, env, ds, R, h⟩ => ⟨Γ, env, ds, R, h.bind.imp fun args ds1 H1 e1 d1 q vs hv => by
    have R1 := R.go e1 d1
    have q : Aft X.K C W Γ σ H1 (chk np f args ds1) _ := q
    unfold chk at q
    by_cases hn : args.length = np
    · rw [if_pos hn] at q
      refine call_rd R1 hv hn ?_
      revert q
      unfold Aft
      rcases f args ds1 with _ | ⟨d | x, ds'⟩
      · exact id
      · intro q v H' e2 d2 r
        refine q H' e2 d2 v ((show Df X.K H' _ v d from r.2.2).mono (fun a u z k => ⟨z.1.elim (fun w => by cases w.1) id, k⟩) fun _ _ z => z)
      · exact fun q cls dd H' e2 d2 hx => q cls dd H' e2 d2 hx
    · rw [if_neg hn] at q
      exact q.elim⟩
theorem se_callP (F : FnOk X.prog X.w X.K X.mg X.base (L2.CX X.prog X.w) k fa fd ps (spD X.K C false np f)) (hr : Room k X.A) (hm : X.mg x = some (.ref fa)) (hk : PySem.W.keepIn X.K (.ref fa) = true) (hb : Binds X.K fd ps []) (tk : Takes X W) (ha : SAx X C W true (e :: es) ma) (hg : Gl X x := by rfl)
    (hdb : (x == ("__debug__" : Str)) = false := by decide) (he : starEach (e :: es) X.env = (false, eval e X.env) :: starEach es X.env := by rfl) (hpl : (backTo pos (starEach es X.env)).any (·.1) = false := by rfl) : SE X C W (.Call (.Name x p) (e :: es) [] pos) (mCallP (chk np f) ma) :=
  PE.imp (pe_callS F hr hg hm hk hb (fun σ => passAt tk σ) ha hdb he hpl) fun σ H Q ⟨Γ, env, ds, R, h⟩ => ⟨Γ, env, ds, R, h.bind.imp fun args ds1 H1 e1 d1 q vs hv => by
    have R1 := R.go e1 d1
    have q : Aft X.K C W Γ σ H1 ((chk np f args ds1).bind _) _ := q
    unfold chk at q
    by_cases hn : args.length = np
    · rw [if_pos hn] at q
      refine call_rd R1 hv hn ?_
      revert q
      unfold Aft Rz.bind
      rcases f args ds1 with _ | ⟨d | x, ds'⟩
      · exact id
      · dsimp only
        by_cases hl : noL d = true
        · rw [if_pos hl]
          intro q v H' e2 d2 r
          exact q H' e2 d2 v (Df.noL (show Df X.K H' _ v d from r.2.2) hl)
        · rw [if_neg hl]
          exact fun q => q.elim
      · exact fun q cls dd H' e2 d2 hx => q cls dd H' e2 d2 hx
    · rw [if_neg hn] at q
      exact q.elim⟩
theorem sf_call (F : FnOk X.prog X.w X.K X.mg X.base (L2.CX X.prog X.w) k fa fd ps (spD X.K C true np f)) (hr : Room k X.A) (hm : X.mg x = some (.ref fa)) (hk : PySem.W.keepIn X.K (.ref fa) = true) (hb : Binds X.K fd ps []) (tk : Takes X W) (ha : SAx X C W false (e :: es) ma) (hg : Gl X x := by rfl)
    (hdb : (x == ("__debug__" : Str)) = false := by decide) (he : starEach (e :: es) X.env = (false, eval e X.env) :: starEach es X.env := by rfl) (hpl : (backTo pos (starEach es X.env)).any (·.1) = false := by rfl) : SF X C W (.Call (.Name x p) (e :: es) [] pos) (mCallF (chk np f) ma) :=
  PE.imp (pe_callS F hr hg hm hk hb (fun σ => passAt tk σ) ha hdb he hpl) fun σ H Q ⟨Γ, env, ds, R, h⟩ => ⟨Γ, env, ds, R, h.bind.imp fun args ds1 H1 e1 d1 q vs hv => by
    have R1 := R.go e1 d1
    have q : Aft X.K C W Γ σ H1 ((chk np f args ds1).bind _) _ := q
    unfold chk at q
    by_cases hn : args.length = np
    · rw [if_pos hn] at q
      refine call_rd R1 hv hn ?_
      revert q
      unfold Aft Rz.bind
      rcases f args ds1 with _ | ⟨d | x, ds'⟩
      · exact id
      · dsimp only
        intro q v H' e2 d2 r
        obtain ⟨p, us, xs, rfl, rfl, r1, r2, r3, r4, r5⟩ := r.2.2
        exact q H' e2 d2 p us (R.none_back e1 d1 r1) r3 r4 (r5.mono (fun a u z k => ⟨⟨z.1.1.elim (fun w => by cases w.1) id, z.2⟩, k⟩) fun _ _ z => z)
      · exact fun q cls dd H' e2 d2 hx => q cls dd H' e2 d2 hx
    · rw [if_neg hn] at q
      exact q.elim⟩

/-! ### the draw is made -/
def mkDraw (xs : List PyData) : Option DSt := match xs with
  | [.list cs, .int i, .int j, .int k] => (intsOf cs).map fun ns => ⟨ns, i, j, k⟩
  | _ => none
def mDraw (i : Nat) (a : ME (List PyData)) (rest : MS) : MS := fun env ds => match a env ds with
  | some (.ok xs, none) => match mkDraw xs with
    | some s => match put i .drw env with
      | some env' => match rest env' (some s) with
        | some (.rt d, _) => some (.rt d, none)
        | _ => none
      | none => none
    | none => none
  | _ => none
variable {rest : List Stmt} {mr : MS} {mf : ME (List PyData)}
theorem Rel.set_dr {K : PySem.W.Frag} {Γ : Gm} {σ : St} {H H1 : Hp} {env env' : Ev} (R : Rel K Γ σ H env none) (e : Ext Γ H H1) {i : Nat} {a c : Addr} {s : DSt} (hf : H a = none) (h1 : H1 a = some (.lst [.ref c, .int s.place, .int s.cur, .int s.seed])) (h2 : H1 c = some (.lst (s.cells.map V.int))) (h3 : s.cells.length ≤ sizeLine) (hc : gdx Γ σ env a c)
    (hp : put i .drw env = some env') : Rel K { Γ with dr := some (a, c) } (σ.set i (some (.ref a))) H1 env' (some s) := by
  have hdr : Γ.dr = none := by
    have := R.draw
    unfold DrR at this
    cases q : Γ.dr with
    | none => rfl
    | some p => rw [q] at this; exact this.elim
  have d1 : DrR K Γ H1 none := by unfold DrR; rw [hdr]; trivial
  have R1 := R.go e d1
  obtain ⟨k1, k2, rfl⟩ := put_some hp
  have k3 : i < σ.length := by rw [R.len]; exact k2
  have nd : ∀ b, b ≠ a → ({ Γ with dr := some (a, c) } : Gm).nd b := fun b n p q => by cases q; exact n
  have gx : ∀ b, gd Γ σ env b → b ≠ a → gd { Γ with dr := some (a, c) } (σ.set i (some (.ref a))) (env.set i .drw) b := fun b q n => ⟨q.1, fun w => q.2.1 (owned_set_d rfl w).1, nd b n⟩
  have m : ∀ {u : V} {x : PyData}, Df K H (gd Γ σ env) u x → Df K H1 (gd { Γ with dr := some (a, c) } (σ.set i (some (.ref a))) (env.set i .drw)) u x := fun q =>
    (q.avoid hf).mono (fun b u z k => ⟨gx b z.1 z.2, e b _ z.1.2.2 k⟩) fun _ _ z => tup_ext e R.draw z
  have ms : ∀ {u : List V} {x : List PyData}, DfAll K H (gd Γ σ env) u x → DfAll K H1 (gd { Γ with dr := some (a, c) } (σ.set i (some (.ref a))) (env.set i .drw)) u x := fun q =>
    (q.avoid hf).mono (fun b u z k => ⟨gx b z.1 z.2, e b _ z.1.2.2 k⟩) fun _ _ z => tup_ext e R.draw z
  refine ⟨by rw [List.length_set, List.length_set]; exact R.len, fun j y hy => ?_, fun j k y z hjk hj hk oj ok => ?_, R.okf, fun b o _ q => R1.ext b o (fun p z => by rw [hdr] at z; cases z) q, ?_, fun p q w => ?_, fun p hp => ?_⟩
  · by_cases z : i = j
    · subst z
      rw [List.getElem?_set_self k2] at hy
      cases hy
      rw [List.getElem?_set_self k3]
      exact ⟨(a, c), rfl, rfl⟩
    · rw [List.getElem?_set_ne z] at hy ⊢
      have q := R.slot j y hy
      cases y with
      | un => trivial
      | d x =>
        obtain ⟨u, q1, q2⟩ := q
        exact ⟨u, q1, m q2⟩
      | l x =>
        obtain ⟨b, u, q1, q2, q3, q4, q5, q6⟩ := q
        exact ⟨b, u, q1, e b _ q6 q2, ms q3, q4, q5, nd b (ne_of_none q2 hf)⟩
      | lk x =>
        obtain ⟨b, u, q1, q2, q3, q4, q5, q6⟩ := q
        exact ⟨b, u, q1, e b _ q6 q2, ms q3, q4, q5, nd b (ne_of_none q2 hf)⟩
      | dc t0 x =>
        obtain ⟨b, u, q1, q2, q3, q4, q5, q6⟩ := q
        exact ⟨b, u, q1, e b _ q6 q2, ms q3, q4, q5, nd b (ne_of_none q2 hf)⟩
      | drw =>
        obtain ⟨p, q1, _⟩ := q
        rw [hdr] at q1
        cases q1
      | scr ns =>
        obtain ⟨b, q1, q2, q3⟩ := q
        exact ⟨b, q1, scr_ext e R.draw q2, q3⟩
  · have n1 : i ≠ j := fun z => by
      subst z
      rw [List.getElem?_set_self k2] at hj
      cases hj
      cases oj
    have n2 : i ≠ k := fun z => by
      subst z
      rw [List.getElem?_set_self k2] at hk
      cases hk
      cases ok
    rw [List.getElem?_set_ne n1] at hj ⊢
    rw [List.getElem?_set_ne n2] at hk ⊢
    exact R.sep j k y z hjk hj hk oj ok
  · exact ⟨h1, h2, h3, hc.2, hc.1.1⟩
  · cases q
    exact hc.1.2.1 (owned_set_d rfl w).1
  · obtain ⟨xs, q1, q2⟩ := R.lkd p hp
    have n1 : i ≠ p.1 := fun z => by
      subst z
      exact k1 xs q1
    exact ⟨xs, by rw [List.getElem?_set_ne n1]; exact q1, by rw [List.getElem?_set_ne n1]; exact q2⟩
theorem sss_draw (i : Nat) {y : Str} {pos' : Pos} (hN : X.N.Nodup) (he : SF X C W e mf) (hrest : SSs X C W false rest mr) (hi : X.N[i]? = some y := by rfl) (hx : Loc X.env.scope y := by exact .inl rfl) (hs : swapsWith e (some (.Name y pos')) pos.line X.env = pure false := by rfl)
    (hf : X.fn y = true ∨ X.env.scope.names.lookup y = some .local := by first | exact .inl rfl | exact .inr rfl) : SSs X C W false (.Assign [.Name y pos'] e pos :: rest) (mDraw i mf mr) :=
  PSs.imp (pss_cons (ps_set hN hi hx he hs hf) hrest) fun D σ H ⟨Γ, env, ds, R, h⟩ => by
    refine ⟨Γ, env, ds, R, ?_⟩
    revert h
    unfold mDraw Aft
    rcases mf env ds with _ | ⟨xs | x, ds1⟩
    · exact id
    · cases ds1 with
      | some s => exact fun h => h.elim
      | none =>
        dsimp only
        intro h H1 e1 d1 a us h1 h2 h3 h4
        cases hs : mkDraw xs with
        | none => rw [hs] at h; exact h.elim
        | some s =>
          rw [hs] at h
          dsimp only at h
          cases hp : put i .drw env with
          | none => rw [hp] at h; exact h.elim
          | some env' =>
            rw [hp] at h
            dsimp only at h
            have hdr : Γ.dr = none := by
              unfold DrR at d1
              cases q : Γ.dr with
              | none => rfl
              | some p => rw [q] at d1; exact d1.elim
            have ds0 : ds = none := by
              have := R.draw
              unfold DrR at this
              rw [hdr] at this
              cases ds with
              | none => rfl
              | some s => exact this.elim
            subst ds0
            unfold mkDraw at hs
            split at hs
            · rename_i cs i1 i2 i3
              obtain ⟨ns, q1, q2⟩ := Option.map_eq_some_iff.mp hs
              subst q2
              obtain rfl := intsOf_eq q1
              cases h4 with
              | cons a1 h4 =>
                cases h4 with
                | cons a2 h4 =>
                  cases h4 with
                  | cons a3 h4 =>
                    cases h4 with
                    | cons a4 h4 =>
                      cases h4
                      cases a2
                      cases a3
                      cases a4
                      cases a1 with
                      | @lst c cv _ b1 b2 b3 b4 =>
                        rw [b4.ints_inv] at b2 b3
                        rw [List.length_map] at b3
                        have RD := R.set_dr (s := ⟨ns, i1, i2, i3⟩) e1 h1 h2 b2 b3 b1 hp
                        refine ⟨_, env', _, RD, ?_⟩
                        show Aft2 X.K C W false _ D (mr env' (some ⟨ns, i1, i2, i3⟩))
                        rcases z : mr env' (some ⟨ns, i1, i2, i3⟩) with _ | ⟨fl, ds2⟩
                        · rw [z] at h; exact h
                        · rw [z] at h
                          cases fl with
                          | rt d =>
                            intro v H' r
                            obtain ⟨r1, r2, r3⟩ := r
                            refine h v H' ⟨fun b o n q => ?_, by unfold DrR; rw [hdr]; trivial, (show Df X.K H' _ v d from r3).mono (fun b u z k => ⟨⟨z.1, fun p q => by rw [hdr] at q; cases q⟩, k⟩) fun _ _ z => z⟩
                            refine r1 b o (fun p q z => ?_) q
                            cases q
                            have := R.ext b o n q
                            rw [z, h1] at this
                            cases this
                          | _ => exact h.elim
            · cases hs
    · exact fun h => h.elim
end

/-! ### try: .. except X: .. -/
/-- a suite that raises nothing -/
def noEx (r : Option (Fl × DS)) : Option (Fl × DS) := match r with
  | some (.ex _ _, _) => none
  | r => r
def mTry (k : Exn → Bool) (mb ms : MS) : MS := fun env ds => match mb env ds with
  | some (.ex x env', ds') => if k x then noEx (ms env' ds') else some (.ex x env', ds')
  | r => r
section
variable {X : Cx} {C : Exs} {W : WX} {fr : Bool} {x : Str} {Cc : Addr} {body suite : List Stmt} {b₀ : Stmt} {np pos pos' : Pos} {mb ms : MS} {k : Exn → Bool}
theorem ss_try (hs : X.stack = X.env :: X.outer) (hf : X.env.frame = some X.env.locals) (hm : X.mg x = some (.ref Cc)) (tk : Takes X W) (hk : ∀ y cls d H, ExR C y cls d H → PySem.W.exmOne X.K cls (.ref Cc) = some (k y))
    (hb : ∀ (W' : WX) (pn : List (Addr × Obj)) (xe : Value → Shared → Prop), Takes (X.tr pn xe) W' → PassesOwn (model X.prog X.w) X.A X.env xe → SSs (X.tr pn xe) C W' fr body mb)
    (hsu : ∀ (a : Addr) (pn : List (Addr × Obj)), SSs (X.suite a pn) C W0 fr (b₀ :: suite) ms) (hg : Gl X x := by rfl) (hdb : (x == ("__debug__" : Str)) = false := by decide) :
    SS X C W fr (.Try body [.ExceptHandler (some (.Name x np)) none (b₀ :: suite) pos'] [] [] pos) (mTry k mb ms) :=
  PS.imp (ps_try_only (tb := fun W' => rdS X.K C W' fr mb) (ts := fun _ _ _ => rdS X.K C W0 fr ms) hs hf ⟨hg, hdb, .inl hm⟩ tk hb (fun a oe cls d pn _ _ => hsu a _)) fun D σ H ⟨Γ, env, ds, R, h⟩ => by
    refine ⟨Γ, env, ds, R, ?_⟩
    unfold mTry at h
    rcases q : mb env ds with _ | ⟨fl, ds'⟩
    · rw [q] at h; exact h
    · rw [q] at h
      cases fl with
      | nx e => exact h
      | bk e => exact h
      | ct e => exact h
      | rt d => exact h
      | ex y e =>
        intro cls dd σ' H' R' hx
        refine ⟨k y, hk y cls dd H' hx, fun hy a ha => ?_, fun hy => ?_⟩
        · dsimp only at h
          rw [if_pos hy] at h
          refine ⟨Γ, e, ds', R', ?_⟩
          revert h
          rcases ms e ds' with _ | ⟨fl, ds2⟩
          · exact id
          · cases fl with
            | ex z e2 => exact fun h => h.elim
            | _ => exact id
        · dsimp only at h
          rw [if_neg (by rw [hy]; exact Bool.false_ne_true)] at h
          exact h cls dd σ' H' R' hx
end
end DL

/-! DL11: sorted, sorted(set(..)), repr. -/
namespace DL
open PySem PySem.Spec L2
open PyProof.Rows hiding St

/-! ### an order of data that runs -/
mutual
def ltD : PyData → PyData → Bool
  | .bool a, .bool b => !a && b
  | .int a, .int b => decide (a < b)
  | .str a, .str b => decide (a.cps.toList < b.cps.toList)
  | .tuple a, .tuple b => ltDs a b
  | .list a, .list b => ltDs a b
  | _, _ => false
def ltDs : List PyData → List PyData → Bool
  | [], b => !b.isEmpty
  | _ :: _, [] => false
  | x :: xs, y :: ys => if PyData.eqv x y then ltDs xs ys else ltD x y
end
def insB {α : Type} (lt : α → α → Bool) (x : α) : List α → List α
  | [] => [x]
  | y :: r => if lt y x then y :: insB lt x r else x :: y :: r
def sortB {α : Type} (lt : α → α → Bool) : List α → List α
  | [] => []
  | x :: r => insB lt x (sortB lt r)
def sortD (xs : List PyData) : List PyData := sortB ltD xs

mutual
theorem ltD_eq : ∀ x y : PyData, PySem.W.alike x y = true → ltD x y = PySem.W.dataLt x y
  | .none, y, h => by
    cases y with
    | none => unfold PySem.W.dataLt; exact (lex_irrefl (O := itemOrd) _).symm
    | _ => simp [PySem.W.alike] at h
  | .bool a, y, h => by
    cases y with
    | bool b => rw [PySem.W.dataLt_bool]; cases a <;> cases b <;> rfl
    | _ => simp [PySem.W.alike] at h
  | .int a, y, h => by
    cases y with
    | int b => rw [PySem.W.dataLt_int]; rfl
    | _ => simp [PySem.W.alike] at h
  | .str a, y, h => by
    cases y with
    | str b => rw [PySem.W.dataLt_str]; rfl
    | _ => simp [PySem.W.alike] at h
  | .list a, y, h => by
    cases y with
    | list b => rw [PySem.W.dataLt_list]; exact ltDs_eq a b (by simpa [PySem.W.alike] using h)
    | _ => simp [PySem.W.alike] at h
  | .tuple a, y, h => by
    cases y with
    | tuple b => rw [PySem.W.dataLt_tuple]; exact ltDs_eq a b (by simpa [PySem.W.alike] using h)
    | _ => simp [PySem.W.alike] at h
  | .dict a, y, h => by simp [PySem.W.alike] at h
theorem ltDs_eq : ∀ xs ys : List PyData, PySem.W.alikeAll xs ys = true → ltDs xs ys = PyProof.Rows.lexLt itemOrd (PySem.W.keyToksAll xs) (PySem.W.keyToksAll ys)
  | [], [], _ => (lex_irrefl (O := itemOrd) _).symm
  | [], y :: ys, _ => by
    rw [PySem.W.toks_all_cons, PySem.W.keyToksAll, lex_diff (O := itemOrd) (by intro z; cases z)]
    rfl
  | x :: xs, [], _ => by
    rw [PySem.W.toks_all_cons, PySem.W.keyToksAll, lex_diff (O := itemOrd) (by intro z; cases z)]
    rfl
  | x :: xs, y :: ys, h => by
    obtain ⟨h1, h2⟩ := PySem.W.alike_all_cons h
    rw [PySem.W.dataLt_cons h1, ← ltDs_eq xs ys h2, ← ltD_eq x y h1]
    rfl
end
section
variable {α : Type} {lt lt' : α → α → Bool} {le : α → α → Bool}
theorem insB_perm (x : α) : ∀ l : List α, (insB lt x l).Perm (x :: l)
  | [] => .refl _
  | y :: r => by
    unfold insB
    split
    · exact ((insB_perm x r).cons y).trans (.swap x y r)
    · exact .refl _
theorem sortB_perm : ∀ l : List α, (sortB lt l).Perm l
  | [] => .refl _
  | x :: r => (insB_perm x _).trans ((sortB_perm r).cons x)
theorem insB_congr (x : α) : ∀ l : List α, (∀ y ∈ l, lt y x = lt' y x) → insB lt x l = insB lt' x l
  | [], _ => rfl
  | y :: r, h => by
    unfold insB
    rw [h y List.mem_cons_self, insB_congr x r fun z hz => h z (List.mem_cons_of_mem _ hz)]
theorem sortB_congr : ∀ l : List α, (∀ x ∈ l, ∀ y ∈ l, lt x y = lt' x y) → sortB lt l = sortB lt' l
  | [], _ => rfl
  | x :: r, h => by
    have e : sortB lt r = sortB lt' r := sortB_congr r fun a ha b hb => h a (List.mem_cons_of_mem _ ha) b (List.mem_cons_of_mem _ hb)
    show insB lt x (sortB lt r) = insB lt' x (sortB lt' r)
    rw [e]
    exact insB_congr x _ fun y hy => h y (List.mem_cons_of_mem _ ((sortB_perm r).mem_iff.mp hy)) x List.mem_cons_self
theorem insB_pair (T : PySem.W.TotalLe le) (x : α) : ∀ l : List α, l.Pairwise (fun a b => le a b = true) → (insB (fun a b => !le b a) x l).Pairwise fun a b => le a b = true
  | [], _ => List.pairwise_singleton _ _
  | y :: r, h => by
    rw [List.pairwise_cons] at h
    unfold insB
    split
    · rename_i c
      have c : (!le x y) = true := c
      refine List.pairwise_cons.mpr ⟨fun z hz => ?_, insB_pair T x r h.2⟩
      rcases List.mem_cons.mp ((insB_perm x r).mem_iff.mp hz) with e | e
      · subst e
        rcases T.total y z with q | q
        · exact q
        · rw [q] at c; cases c
      · exact h.1 z e
    · rename_i c
      have c : le x y = true := by cases q : le x y with | true => rfl | false => exact absurd (by show (!le x y) = true; rw [q]; rfl) c
      refine List.pairwise_cons.mpr ⟨fun z hz => ?_, List.pairwise_cons.mpr h⟩
      rcases List.mem_cons.mp hz with e | e
      · subst e; exact c
      · exact T.trans _ _ _ c (h.1 z e)
theorem sortB_pair (T : PySem.W.TotalLe le) : ∀ l : List α, (sortB (fun a b => !le b a) l).Pairwise fun a b => le a b = true
  | [] => List.Pairwise.nil
  | x :: r => insB_pair T x _ (sortB_pair T r)
theorem insB_filter (T : PySem.W.TotalLe le) (c x : α) : ∀ l : List α, (insB (fun a b => !le b a) x l).filter (PySem.W.sameRank le c) = (x :: l).filter (PySem.W.sameRank le c)
  | [] => rfl
  | y :: r => by
    unfold insB
    split
    · rename_i k
      have k : (!le x y) = true := k
      rw [List.filter_cons, insB_filter T c x r, List.filter_cons, List.filter_cons, List.filter_cons]
      by_cases hx : PySem.W.sameRank le c x = true
      · by_cases hy : PySem.W.sameRank le c y = true
        · exfalso
          unfold PySem.W.sameRank at hx hy
          rw [Bool.and_eq_true] at hx hy
          have q : le x y = true := by first | exact T.trans _ _ _ hx.2 hy.1 | exact T.trans _ _ _ hx.1 hy.2
          rw [q] at k
          cases k
        · rw [if_neg hy, if_neg hy]
      · rw [if_neg hx, if_neg hx]
    · rfl
theorem sortB_filter (T : PySem.W.TotalLe le) (c : α) : ∀ l : List α, (sortB (fun a b => !le b a) l).filter (PySem.W.sameRank le c) = l.filter (PySem.W.sameRank le c)
  | [] => rfl
  | x :: r => by
    show (insB _ x _).filter _ = _
    rw [insB_filter T c x, List.filter_cons, List.filter_cons, sortB_filter T c r]
theorem sortB_merge (T : PySem.W.TotalLe le) (l : List α) : sortB (fun a b => !le b a) l = l.mergeSort le := PySem.W.sort_unique T (sortB_pair T l) fun c => sortB_filter T c l
end
theorem dataLe_total {β : Type} (k : β → PyData) : PySem.W.TotalLe (PySem.W.dataLe false k) := PySem.W.sortLe_total _ _ _
theorem sortD_merge {ds : List PyData} (h : PySem.W.AllAlike ds) : sortD ds = ds.mergeSort (PySem.W.dataLe false id) := by
  rw [← sortB_merge (dataLe_total id)]
  unfold sortD
  refine sortB_congr ds fun x hx y hy => ?_
  rw [ltD_eq x y (h x hx y hy), PySem.W.dataLe_eq]
  show _ = !!PySem.W.dataLt x y
  rw [Bool.not_not]
/-- what may be sorted -/
def isTup1 : PyData → Bool
  | .tuple (_ :: _) => true
  | _ => false
def notTup : PyData → Bool
  | .none => false
  | .tuple _ => false
  | _ => true
def sorts (ds : List PyData) : Bool := ds.all (fun d => ds.all fun e => PySem.W.alike d e) && (ds.all isTup1 || ds.all notTup || (decide (ds.length ≤ 1) && ds.all fun d => !isNone d)) && decide (PyData.depthAll ds ≤ 60)
theorem sorts_alike {ds : List PyData} (h : sorts ds = true) : PySem.W.AllAlike ds := by
  unfold sorts at h
  rw [Bool.and_eq_true, Bool.and_eq_true] at h
  intro d hd e he
  exact List.all_eq_true.mp (List.all_eq_true.mp h.1.1 d hd) e he
theorem sorts_depth {ds : List PyData} (h : sorts ds = true) : PyData.depthAll ds ≤ 60 := by
  unfold sorts at h
  rw [Bool.and_eq_true] at h
  exact of_decide_eq_true h.2
theorem depth_mem : ∀ {ds : List PyData} {d : PyData}, d ∈ ds → d.depth ≤ PyData.depthAll ds
  | x :: r, d, h => by
    have e : PyData.depthAll (x :: r) = max x.depth (PyData.depthAll r) := by first | rfl | rw [PyData.depthAll]
    rw [e]
    rcases List.mem_cons.mp h with q | q
    · subst q; exact Nat.le_max_left _ _
    · exact Nat.le_trans (depth_mem q) (Nat.le_max_right _ _)
theorem sortsAt {prog : Program} {w : World} {A : Around} {s : Shared} {vs : List Value} {ds : List PyData} (e : PySem.W.EachIs (fun v d => ∃ as, Reads s.heap v d as) vs ds) (h : sorts ds = true) (hu : A.units + 60 < cLine) : PySem.W.SortsAt prog w A s (PySem.W.dataKind s.heap ds) vs := by
  have hal := sorts_alike h
  have hd := sorts_depth h
  have room : ∀ d, d ∈ ds → A.units + d.depth < cLine := fun d q => by have := depth_mem q; omega
  have h2 := h
  unfold sorts at h2
  rw [Bool.and_eq_true, Bool.and_eq_true, Bool.or_eq_true, Bool.or_eq_true] at h2
  rcases h2.1.2 with (k | k) | k
  · exact PySem.W.SortsAt.data e hal (.inl fun d q => by
      have := List.all_eq_true.mp k d q
      unfold isTup1 at this
      split at this
      · exact ⟨_, _, rfl⟩
      · cases this) room
  · exact PySem.W.SortsAt.data e hal (.inr fun d q => by
      have := List.all_eq_true.mp k d q
      exact ⟨(fun z => by subst z; cases this), (fun xs z => by subst z; cases this)⟩) room
  · rw [Bool.and_eq_true] at k
    have k1 := of_decide_eq_true k.1
    refine ⟨fun v hv => ?_, general', fun E x y a b Q ha hb hq => ?_, fun q => absurd q (by rw [e.length]; omega)⟩
    · obtain ⟨d, q, as, r⟩ := e.left v hv
      exact ⟨_, PySem.W.dataKind_some hal q r⟩
    · obtain ⟨d, as, q1, ra, rfl⟩ := PySem.W.dataKind_inv ha
      obtain ⟨d', as', q2, rb, rfl⟩ := PySem.W.dataKind_inv hb
      show wpAny (model prog w) A (oneLt' false x y) Q E s
      refine PySem.W.oneLt_alike (fun z => by cases z) ra rb (hal d q1 d' q2) (fun z => ?_) (Nat.lt_of_le_of_lt (Nat.add_le_add_left (Nat.min_le_left _ _) _) (room d q1)) hq
      subst z
      have := List.all_eq_true.mp k.2 _ q1
      cases this

section
variable {X : Cx} {K : PySem.W.Frag}
/-- values beside what they read as -/
theorem each_zip {P : Value → V × PyData → Prop} : ∀ {xs : List V} {its : List Value} {ds : List PyData}, Vals xs its → xs.length = ds.length → (∀ (v : V) (u : Value) (d : PyData), (v, d) ∈ xs.zip ds → RelV v u → P u (v, d)) → PySem.W.EachIs P its (xs.zip ds)
  | _, _, [], .nil, _, _ => .nil
  | _, _, [], .cons _ _, h, _ => by cases h
  | _, _, d :: ds, .nil, h, _ => by cases h
  | _, _, d :: ds, .cons (a := v) (b := u) r t, h, f => .cons (f v u d List.mem_cons_self r) (each_zip t (by simpa using h) fun v u d q => f v u d (List.mem_cons_of_mem _ q))
theorem vals_each : ∀ {out : List Value} {ps : List (V × PyData)}, PySem.W.EachIs (fun u p => RelV p.1 u) out ps → Vals (ps.map (·.1)) out
  | _, _, .nil => .nil
  | _, _, .cons h t => .cons h (vals_each t)
theorem dfAll_zip {H : Hp} {g : Addr → Prop} : ∀ {us : List V} {ds : List PyData}, DfAll K H g us ds → ∀ p ∈ us.zip ds, Df K H g p.1 p.2
  | _, _, .nil, p, h => by cases h
  | _, _, .cons a t, p, h => by
    rcases List.mem_cons.mp h with q | q
    · subst q; exact a
    · exact dfAll_zip t p q
theorem zip_dfAll {H : Hp} {g : Addr → Prop} : ∀ {ps : List (V × PyData)}, (∀ p ∈ ps, Df K H g p.1 p.2) → DfAll K H g (ps.map (·.1)) (ps.map (·.2))
  | [], _ => .nil
  | p :: r, h => .cons (h p List.mem_cons_self) (zip_dfAll fun q hq => h q (List.mem_cons_of_mem _ hq))
theorem dp_zip {H : Hp} : ∀ {us : List V} {ds : List PyData}, DpAll K H us ds → ∀ p ∈ us.zip ds, Dp K H p.1 p.2
  | _, _, .nil, p, h => by cases h
  | _, _, .cons a t, p, h => by
    rcases List.mem_cons.mp h with q | q
    · subst q; exact a
    · exact dp_zip t p q
theorem dp_len {H : Hp} : ∀ {us : List V} {ds : List PyData}, DpAll K H us ds → us.length = ds.length
  | _, _, .nil => rfl
  | _, _, .cons a t => by rw [List.length_cons, List.length_cons, dp_len t]
/-- sorted(xs) -/
def rSortD (K : PySem.W.Frag) : List V → Hp → VK → Prop := fun vs H Q => ∃ (a : Addr) (xs : List V) (ds : List PyData), vs = [V.ref a] ∧ SqL K H a xs ∧ DpAll K H xs ds ∧ sorts ds = true ∧
  ∀ (ps : List (V × PyData)) (p : Addr), ps.Perm (xs.zip ds) → ps.map (·.2) = sortD ds → H p = none → ps.length ≤ sizeLine → Q (.ref p) (upd H p (.lst (ps.map (·.1))))
theorem cr_sortD (hu : X.A.units + 65 < cLine) : CallR X (.builtin "sorted") (rSortD X.K) := by
  intro pins s σ H vs us Q I r h
  obtain ⟨a, xs, ds, rfl, hs, hd, hk, q⟩ := h
  obtain ⟨its, rv, hl, hz⟩ := I.list hs
  rw [Vals.ref1 r]
  have hlen := dp_len hd
  have e : PySem.W.EachIs (fun u (p : V × PyData) => RelV p.1 u) its (xs.zip ds) := each_zip rv hlen fun v u d _ w => w
  have er : PySem.W.EachIs (fun u (p : V × PyData) => ∃ as, Reads s.heap u p.2 as) its (xs.zip ds) := each_zip rv hlen fun v u d m w => Dp.reads I d v u (dp_zip hd _ m) w
  have hm : (xs.zip ds).map (·.2) = ds := List.map_snd_zip (Nat.le_of_eq hlen.symm)
  have er2 : PySem.W.EachIs (fun u (p : V × PyData) => ∃ as, Reads (PySem.W.sortingHeap (PySem.W.copyHeap s.heap its) (s.heap.objs.size + 1) its) u p.2 as) its (xs.zip ds) := er.mono fun _ _ ⟨as, z⟩ => ⟨as, PyProof.Rows.Reads.keeps (fun _ _ => PySem.W.sorting_copy_old) z⟩
  have er3 : PySem.W.EachIs (fun u d => ∃ as, Reads (PySem.W.sortingHeap (PySem.W.copyHeap s.heap its) (s.heap.objs.size + 1) its) u d as) its ds := by
    have z := PySem.W.each_map (R := fun u d => ∃ as, Reads (PySem.W.sortingHeap (PySem.W.copyHeap s.heap its) (s.heap.objs.size + 1) its) u d as) Prod.snd er2
    rw [show (xs.zip ds).map Prod.snd = ds from hm] at z
    exact z
  have hal := sorts_alike hk
  have hal2 : PySem.W.AllAlike ((xs.zip ds).map Prod.snd) := by rw [show (xs.zip ds).map Prod.snd = ds from hm]; exact hal
  have S : PySem.W.SortsAt X.prog X.w X.A.in1.in1 { s with heap := PySem.W.sortingHeap (PySem.W.copyHeap s.heap its) (s.heap.objs.size + 1) its } (PySem.W.dataKind (PySem.W.sortingHeap (PySem.W.copyHeap s.heap its) (s.heap.objs.size + 1) its) ds) its :=
    sortsAt (s := { s with heap := PySem.W.sortingHeap (PySem.W.copyHeap s.heap its) (s.heap.objs.size + 1) its }) er3 hk (by show X.A.units + 1 + 1 + 60 < cLine; omega)
  have out := PySem.W.sortVals_data (h' := PySem.W.sortingHeap (PySem.W.copyHeap s.heap its) (s.heap.objs.size + 1) its) (R := fun u (p : V × PyData) => RelV p.1 u) (enc := Prod.snd) false e er2 hal2
  rw [show (xs.zip ds).map Prod.snd = ds from hm] at out
  refine PySem.W.sorted_vals hl.isList S (by rw [← rv.length]; exact hz) ?_
  generalize PySem.W.sortVals (PySem.W.dataKind (PySem.W.sortingHeap (PySem.W.copyHeap s.heap its) (s.heap.objs.size + 1) its) ds) false its its = zs at out ⊢
  have rz := vals_each out
  have perm : ((xs.zip ds).mergeSort (PySem.W.dataLe false Prod.snd)).Perm (xs.zip ds) := List.mergeSort_perm _ _
  have ms : ((xs.zip ds).mergeSort (PySem.W.dataLe false Prod.snd)).map (·.2) = sortD ds := by
    rw [sortD_merge hal]
    refine (PySem.W.sort_maps (s := PySem.W.dataLe false id) (fun p : V × PyData => p.2) fun a _ b _ => rfl).trans ?_
    rw [hm]
  generalize (xs.zip ds).mergeSort (PySem.W.dataLe false Prod.snd) = ps at rz perm ms
  have hps : ps.length ≤ sizeLine := by
    rw [perm.length_eq, List.length_zip, ← hlen, Nat.min_self]
    exact hz
  obtain ⟨ep, he'⟩ := PyProof.Rows.sortedAll_at s.heap its zs.toArray
  exact ⟨.ref _, upd H (s.heap.objs.size + 1) (.lst (ps.map (·.1))), I.laid (t' := s.toks) (fun _ _ => PyProof.Rows.sortedAll_old) (Nat.le_succ _) ⟨by rw [List.length_map]; exact hps, zs, ep, rz, he'⟩, rfl, q _ _ perm ms (I.hok.fresh (Nat.le_succ _)) hps⟩
def fSort : PyData → Option (List PyData)
  | .list ds => if sorts ds then some (sortD ds) else none
  | _ => none
theorem un_sort : Un1F K (rSortD K) fSort := fun Γ σ H env ds R x d z hx hf Q q => by
  unfold fSort at hf
  split at hf
  · split at hf
    · rename_i es hs
      cases hf
      obtain ⟨a, us, rfl, hS, hl, hA⟩ := hx.list
      refine ⟨a, us, es, rfl, SqL.of hS, hA.dp, hs, fun ps p h1 h2 h3 h4 => q p _ h3 (by rw [List.length_map]; exact h4) ?_⟩
      rw [← h2]
      exact zip_dfAll fun w hw => dfAll_zip hA w (h1.mem_iff.mp hw)
    · cases hf
  · cases hf
end
end DL

/-! DL12: sorted(set(..)) of ints, repr. -/
namespace DL
open PySem PySem.Spec L2
open PyProof.Rows hiding St

/-! ### ints in order, each once -/
def insU (x : Int) : List Int → List Int
  | [] => [x]
  | y :: r => if y < x then y :: insU x r else if x = y then y :: r else x :: y :: r
def sortU : List Int → List Int
  | [] => []
  | x :: r => insU x (sortU r)
theorem insU_mem (x k : Int) : ∀ l : List Int, k ∈ insU x l ↔ k = x ∨ k ∈ l
  | [] => by simp [insU]
  | y :: r => by
    unfold insU
    split
    · rw [List.mem_cons, insU_mem x k r, List.mem_cons]
      exact ⟨fun h => h.elim (fun q => .inr (.inl q)) fun q => q.elim .inl fun z => .inr (.inr z), fun h => h.elim (fun q => .inr (.inl q)) fun q => q.elim .inl fun z => .inr (.inr z)⟩
    · split
      · rename_i e
        subst e
        rw [List.mem_cons]
        exact ⟨fun h => h.elim .inl fun q => .inr (.inr q), fun h => h.elim .inl id⟩
      · exact List.mem_cons
theorem sortU_mem (k : Int) : ∀ l : List Int, k ∈ sortU l ↔ k ∈ l
  | [] => Iff.rfl
  | x :: r => by rw [sortU, insU_mem, sortU_mem k r, List.mem_cons]
theorem insU_pair (x : Int) : ∀ l : List Int, l.Pairwise (· < ·) → (insU x l).Pairwise (· < ·)
  | [], _ => List.pairwise_singleton _ _
  | y :: r, h => by
    rw [List.pairwise_cons] at h
    unfold insU
    split
    · rename_i c
      refine List.pairwise_cons.mpr ⟨fun z hz => ?_, insU_pair x r h.2⟩
      rcases (insU_mem x z r).mp hz with e | e
      · subst e; exact c
      · exact h.1 z e
    · split
      · exact List.pairwise_cons.mpr h
      · refine List.pairwise_cons.mpr ⟨fun z hz => ?_, List.pairwise_cons.mpr h⟩
        rcases List.mem_cons.mp hz with e | e
        · subst e; omega
        · have := h.1 z e; omega
theorem sortU_pair : ∀ l : List Int, (sortU l).Pairwise (· < ·)
  | [] => List.Pairwise.nil
  | x :: r => insU_pair x _ (sortU_pair r)
theorem pair_one : ∀ {l m : List Int}, l.Pairwise (· < ·) → m.Pairwise (· < ·) → (∀ k, k ∈ l ↔ k ∈ m) → l = m
  | [], [], _, _, _ => rfl
  | [], y :: m, _, _, h => by cases (h y).mpr List.mem_cons_self
  | x :: l, [], _, _, h => by cases (h x).mp List.mem_cons_self
  | x :: l, y :: m, hl, hm, h => by
    rw [List.pairwise_cons] at hl hm
    have e : x = y := by
      rcases List.mem_cons.mp ((h x).mp List.mem_cons_self) with q | q
      · exact q
      · rcases List.mem_cons.mp ((h y).mpr List.mem_cons_self) with z | z
        · exact z.symm
        · have := hm.1 x q; have := hl.1 y z; omega
    subst e
    rw [pair_one hl.2 hm.2 fun k => ?_]
    constructor
    · intro q
      rcases List.mem_cons.mp ((h k).mp (List.mem_cons_of_mem _ q)) with z | z
      · subst z; have := hl.1 k q; omega
      · exact z
    · intro q
      rcases List.mem_cons.mp ((h k).mpr (List.mem_cons_of_mem _ q)) with z | z
      · subst z; have := hm.1 k q; omega
      · exact z

/-! ### set(xs) of a list of ints -/
abbrev setE (w : World) : Obj := { cls := .type "set", dict := none, data := .set #[] 0 (.fresh 0 0 (!w.params.followText "set-order")) }
section
variable {P : Program} {w : World} {A : Around} {E : Value → Shared → Prop} {s : Shared}
set_option maxHeartbeats 3200000 in
theorem set_of_ints {l : Addr} {xs : Array Value} (ns : List Int) {Q : Value → Shared → Prop} (hh : A.handled = none) (hl : s.heap.IsList l xs) (hx : IntsAre xs.toList ns) (hb : ns.length + 1 < scanBound)
    (h : ∀ (h' : Heap) (tk c : Nat), SetR w h' s.heap.objs.size (fun j => decide (j ∈ ns)) c → c ≤ ns.length → (∀ b o, s.heap.get? b = some o → h'.get? b = some o) → Q (.ref s.heap.objs.size) { s with heap := h', toks := tk }) : wpAny (model P w) A (call (.type "set") [.ref l]) Q E s := by
  have hn : xs.size = ns.length := by have z := IntsAre.length hx; rwa [Array.length_toList] at z
  obtain ⟨c0, t0, m1⟩ := F.called_set.mro
  have m2 := F.called_set.made; have m3 := F.called_set.sub
  refine wpAny_call (codeAny_of_tree ?_); show wpAny _ _ (callAny (.type "set") _) _ _ _
  refine wpAny_pure ⟨Code.quiet_builtin _ (by decide +kernel), codeAny_builtin F.entry_type_call ?_⟩; rw [Around.under_plain (weight_type_call_type "set" [.ref l] []) rfl]
  have m4 := F.called_set.notType; have m5 := F.called_set.canCreate; have m6 := F.typeCall_set_1 (.ref l)
  repeat (any_goals (first | assumption | wp_step))
  refine codeAny_mono (code_set_led1 (.ref l) (E := E) (Q₁ := fun ob z => ob = .ref s.heap.objs.size ∧ z = { s with heap := s.heap.push (setE w) }) ⟨rfl, rfl⟩) fun r z hr => ?_
  rcases r with e | fl
  · exact hr
  · cases fl with
    | ret ob =>
      obtain ⟨rfl, rfl⟩ := hr
      have g1 : (s.heap.push (setE w)).get? s.heap.objs.size = some (setE w) := Heap.get?_push_size _ rfl
      have g2 : Shared.TypeIs { s with heap := s.heap.push (setE w) } (.ref s.heap.objs.size) "set" := ⟨_, g1, rfl⟩
      have m7 := F.called_set.init.lookup; have m8 := F.called_set.init.bind (.ref s.heap.objs.size)
      repeat (any_goals (first | assumption | wp_step))
      refine codeAny_mono (codeAny_call_builtin (R := wants (fun r z => r = .none ∧ ∃ h' tk c, z = { s with heap := h', toks := tk } ∧ SetR w h' s.heap.objs.size (fun j => decide (j ∈ ns)) c ∧ c ≤ ns.length ∧ (∀ b o, s.heap.get? b = some o → h'.get? b = some o)) E) F.called_set.init.plain F.entry_set_init (check_set_init_1 g2 ?_)) fun r z hr => ?_
      · obtain ⟨⟨oc, od, oa, os⟩, l1, l2, n, l3⟩ := hl
        dsimp only at l2 l3
        subst l2 l3
        have l4 : (s.heap.push (setE w)).get? l = some { cls := .type "list", dict := od, data := .seq xs n, slots := os } := Heap.get?_push_of_some _ l1
        have n1 := F.sub_list_set; have n2 := F.sub_list_frozenset
        have n3 : (Value.type "list" == Value.type "dict") = false := by decide
        have l5 : (s.heap.push (setE w)).IsList l xs := ⟨_, l4, rfl, n, rfl⟩
        unfold Builtin.«set.__init__» noKeywords Builtin.Frozenset.updateFrom
        generalize hp : pyIter = PP
        wp_walk
        subst hp
        refine wpAny_pyIter_list l5 ?_; refine wpAny_bind (wpAny_runValue ?_)
        have k1 : l < s.heap.objs.size := Heap.lt_size l1
        have k2 : A.in1.in1.in1.handled = none := by simp [hh]
        have k3 : l ≠ (s.heap.push (setE w)).objs.size := by rw [Heap.size_push]; exact Nat.ne_of_lt (Nat.lt_succ_of_lt k1)
        have k4 : s.heap.objs.size ∉ [(s.heap.push (setE w)).objs.size, l] := by
          intro q
          rw [Heap.size_push] at q
          rcases List.mem_cons.mp q with e | q
          · omega
          · rcases List.mem_cons.mp q with e | q
            · rw [← e] at k1; exact Nat.lt_irrefl _ k1
            · cases q
        have k5 : ∀ (i : Nat) (v : Value), xs[i]? = some v → ∃ k t, ns[i]? = some k ∧ v = .int k t := fun i v hv => by
          have q : i < ns.length := by rw [← hn]; exact (Array.getElem?_eq_some_iff.mp hv).1
          obtain ⟨t, e⟩ := IntsAre.int_at hx i v (by rw [Array.getElem?_toList]; exact hv)
          exact ⟨ns[i], t, List.getElem?_eq_getElem q, by rw [e, List.getD_eq_getElem?_getD, List.getElem?_eq_getElem q]; rfl⟩
        refine set_update_ints ((Walks.list k2 _ l k3 xs).toS) s.heap.objs.size k4 ns hn hb k5 (xs.size - 0) 0 _ (by omega) (Nat.zero_le _) ⟨⟨_, Heap.get?_push_size _ rfl, rfl, rfl⟩, (l5.push _)⟩ ⟨0, Nat.le_refl 0, setR_new_at (Heap.get?_push_of_some _ g1)⟩ fun z c hm hc hS => ?_
        obtain ⟨zh, zg, zd, zt, zo⟩ := z
        obtain rfl : zg = s.gens := hm.gens
        obtain rfl : zd = s.drawn := hm.drawn
        obtain rfl : zo = s.os := hm.os
        show wpAny _ _ _ _ _ _
        refine wpAny_pure ?_; show wpAny _ _ (ret Value.none) _ _ _
        rw [hn] at hc
        refine wpAny_pure ⟨rfl, zh, zt, c, rfl, hS, hc, fun b o e => ?_⟩
        have q := Heap.lt_size e
        refine hm.heap b o (fun w => ?_) (Heap.get?_push_of_some _ (Heap.get?_push_of_some _ e))
        rcases List.mem_cons.mp w with w | w
        · exact absurd w (Nat.ne_of_lt q)
        · rcases List.mem_cons.mp w with w | w
          · rw [Heap.size_push] at w; exact absurd w (Nat.ne_of_lt (Nat.lt_succ_of_lt q))
          · cases w
      · rcases r with e | fl
        · exact hr
        · cases fl with
          | ret r =>
            obtain ⟨rfl, h', tk, c, rfl, q1, q2, q3⟩ := hr
            repeat (any_goals (first | assumption | wp_step))
            exact h _ _ _ q1 q2 q3
          | _ => exact hr.elim
    | _ => exact hr.elim
end

section
variable {X : Cx} {C : Exs} {W : WX} {K : PySem.W.Frag} {a : Expr} {ma : ME PyData} {M : Md} {pos pos2 p p2 : Pos}
def rSetLI (K : PySem.W.Frag) (w : World) : List V → Hp → VK → Prop := fun vs H Q => ∃ (l : Addr) (ns : List Int), vs = [V.ref l] ∧ SqL K H l (ns.map V.int) ∧ ns.length ≤ 1000 ∧
  ∀ (p : Addr) (c : Nat), H p = none → c ≤ ns.length → Q (.ref p) (upd H p (SetO w p (fun j => decide (j ∈ ns)) c))
theorem cr_setLI (hc : X.calm = true) : CallR X (.type "set") (rSetLI X.K X.w) := by
  intro pins s σ H vs us Q I r h
  obtain ⟨l, ns, rfl, hs, hn, q⟩ := h
  obtain ⟨its, rv, hl, hz⟩ := I.list hs
  rw [Vals.ref1 r]
  refine set_of_ints ns (I.ok.hd hc) hl.isList (ints_of_vals rv) (by unfold scanBound; omega) fun h' tk c R hcn k => ?_
  have hf : H s.heap.objs.size = none := I.hok.fresh (Nat.le_refl _)
  exact ⟨.ref _, upd H s.heap.objs.size (SetO X.w s.heap.objs.size (fun j => decide (j ∈ ns)) c), I.laid (t' := tk) k (Nat.le_refl _) (setO_new R), rfl, q _ c hf hcn⟩
/-- sorted(set(e)), e a list of ints -/
def fSortSet : PyData → Option (List PyData)
  | .list ds => (intsOf ds).bind fun ns => if decide (ns.length < 64) then some ((sortU ns).map .int) else none
  | _ => none
theorem sortU_len (l : List Int) : (sortU l).length ≤ l.length := by
  have h : ∀ (x : Int) (l : List Int), (insU x l).length ≤ l.length + 1 := fun x l => by
    induction l with
    | nil => exact Nat.le_refl _
    | cons y r ih =>
      unfold insU
      split
      · rw [List.length_cons, List.length_cons]; omega
      · split <;> simp
  induction l with
  | nil => exact Nat.le_refl _
  | cons x r ih =>
    have := h x (sortU r)
    show (insU x (sortU r)).length ≤ r.length + 1
    omega
theorem sf_sortSet (hc : X.calm = true) (p1 : Pers M) (hms : X.mg "sorted" = none) (hmt : X.mg "set" = none) (ha : PE X a (rdG M X.K C W ma)) (hgs : Gl X "sorted" := by rfl) (hgt : Gl X "set" := by rfl)
    (he : starEach (a :: []) X.env = (false, eval a X.env) :: starEach [] X.env := by rfl) (hpl : (backTo pos2 (starEach [] X.env)).any (·.1) = false := by rfl)
    (he2 : starEach (.Call (.Name "set" p2) [a] [] pos2 :: []) X.env = (false, eval (.Call (.Name "set" p2) [a] [] pos2) X.env) :: starEach [] X.env := by rfl) (hpl2 : (backTo pos (starEach [] X.env)).any (·.1) = false := by rfl) :
    SF X C W (.Call (.Name "sorted" p) [.Call (.Name "set" p2) [a] [] pos2] [] pos) (mUnF fSortSet ma) :=
  PE.imp (pe_callB (cr_sortedSet hc) hgs hms PyProof.Rows.boot_sorted (pa_cons (pe_callTy (cr_setLI hc) hgt hmt PyProof.Rows.boot_set (pa_cons ha pa_nil he) (by decide) (by decide) he hpl) pa_nil he2) (by decide) (by decide) he2 hpl2) fun σ H Q ⟨Γ, env, ds, R, h⟩ => by
    refine ⟨Γ, env, ds, R, h.bind.imp fun d ds1 H1 e1 d1 q x hx => ?_⟩
    obtain ⟨z, hz, q⟩ := lift_some q
    have R1 := R.go e1 d1
    unfold fSortSet at hz
    split at hz
    · rename_i es
      obtain ⟨ns, k1, k2⟩ := Option.bind_eq_some_iff.mp hz
      obtain rfl := intsOf_eq k1
      split at k2
      · rename_i k3
        cases k2
        have k3 := of_decide_eq_true k3
        obtain ⟨l, us, rfl, hS, hl, hA⟩ := (p1.pk hx).list
        have eu := hA.ints_inv
        subst eu
        refine ⟨l, ns, rfl, SqL.of hS, by omega, fun p c hp hcn => ?_⟩
        have x1 : Ext Γ H1 (upd H1 p (SetO X.w p (fun j => decide (j ∈ ns)) c)) := ext_new hp
        have y1 := d1.new (o := SetO X.w p (fun j => decide (j ∈ ns)) c) hp
        refine ⟨p, _, c, rfl, upd_same, by omega, fun ns' p' h1 h2 h3 h4 => ?_⟩
        have en : ns' = sortU ns := pair_one h1 (sortU_pair ns) fun k => (h2 k).trans (by rw [sortU_mem]; exact decide_eq_true_iff)
        subst en
        have h5 : ((sortU ns).map V.int).length ≤ sizeLine := by have := sortU_len ns; rw [List.length_map, sizeLine_eq]; omega
        have R2 := R1.go x1 y1
        exact q _ (x1.trans (ext_new h4)) (y1.new h4) p' _ (R.none_back (e1.trans x1) y1 h4) upd_same h5 (DfAll.newx (DfAll.of_ints _) h4 y1)
      · cases k2
    · cases hz
/-! ### repr -/
/-- repr(x), x a list or a tuple; where no repr is under way -/
def isSeq : PyData → Bool
  | .list _ => true
  | .tuple _ => true
  | _ => false
def fRepr (d : PyData) : Option PyData := if isSeq d && d.showable && !d.hasDict && decide (d.depth ≤ 60) && short d.shown.length then some (.str d.shown) else none
def rReprD (K : PySem.W.Frag) : List V → Hp → VK → Prop := fun vs H Q => ∃ (a : Addr) (d : PyData), vs = [V.ref a] ∧ Dp K H (.ref a) d ∧ d.showable = true ∧ d.hasDict = false ∧ d.depth ≤ 60 ∧ d.shown.length ≤ sizeLine ∧ Q (.str d.shown) H
theorem cr_repr (hu : X.A.units + 65 < cLine) (hg : X.A.guards = some []) : CallR X (.builtin "repr") (rReprD X.K) := by
  intro pins s σ H vs us Q I r h
  obtain ⟨a, d, rfl, hd, h1, h2, h3, h4, q⟩ := h
  rw [Vals.ref1 r]
  obtain ⟨as, hr⟩ := Dp.reads I d _ _ hd (rfl : RelV (.ref a) (.ref a))
  exact repr_of_reads' hr h1 (fun z => by rw [h2] at z; cases z) hg (by omega) (fun _ _ e => e) (fun h' u tk hk => ⟨.str d.shown, H, I.kept (t' := tk) hk, ⟨u, rfl⟩, q⟩) h4
theorem un_repr : Un1 K (rReprD K) fRepr := Un1.same fun Γ σ H env x d z hx hf Q q => by
  unfold fRepr at hf
  split at hf
  · rename_i hc
    cases hf
    rw [Bool.and_eq_true, Bool.and_eq_true, Bool.and_eq_true, Bool.and_eq_true] at hc
    obtain ⟨⟨⟨⟨c1, c2⟩, c3⟩, c4⟩, c5⟩ := hc
    have c3 : d.hasDict = false := by cases w : d.hasDict with | false => rfl | true => rw [w] at c3; cases c3
    have fin : ∀ a, x = .ref a → rReprD K [x] H Q := fun a e => by
      subst e
      exact ⟨a, d, rfl, persP.dp hx, c2, c3, of_decide_eq_true c4, short_iff c5, q _ (.str _)⟩
    cases d with
    | list ds =>
      obtain ⟨a, us, e, _⟩ := hx.list
      exact fin a e
    | tuple ds =>
      obtain ⟨a, us, e, _⟩ := hx.tuple
      exact fin a e
    | _ => cases c1
  · cases hf
end
end DL

/-! DL13: list(range(..)), tuple(range(..)); the law's own def. -/
namespace DL
open PySem PySem.Spec L2
open PyProof.Rows hiding St

section
variable {X : Cx} {C : Exs} {W : WX} {K : PySem.W.Frag} {a b : Expr} {ma mb : ME PyData} {pos pos2 p p2 : Pos}
def smallI (j : Int) : Bool := decide (-1048576 ≤ j ∧ j < 1048576)
def mRgL1 (a : ME PyData) : ME (List PyData) := a.bind fun x => ME.lift (match x with | .int j => if smallI j then some (rangeD 0 j.toNat) else none | _ => none)
def mRgL2 (a b : ME PyData) : ME (List PyData) := a.bind fun x => b.bind fun y => ME.lift (match x, y with | .int i, .int j => if smallI i && smallI j then some (rangeD i (j - i).toNat) else none | _, _ => none)
theorem rgV_df {H : Hp} {g : Addr → Prop} (i j : Int) : DfAll K H g (rgV i j) (rangeD i (j - i).toNat) := by
  have h : ∀ l : List Nat, DfAll K H g (l.map fun k => V.int (i + (k : Nat))) (l.map fun (k : Nat) => PyData.int (i + (k : Int))) := fun l => by
    induction l with
    | nil => exact .nil
    | cons x r ih => exact .cons (.int _) ih
  exact h _
theorem rgV_short {i j : Int} (hi : smallI i = true) (hj : smallI j = true) : RgOk i j ∧ (rgV i j).length ≤ sizeLine := by
  have hi := of_decide_eq_true hi
  have hj := of_decide_eq_true hj
  refine ⟨⟨by omega, by omega, by omega, by omega, by omega⟩, ?_⟩
  rw [rgV_length, sizeLine_eq]
  omega
theorem sf_listRg1 (hc : X.calm = true) (hml : X.mg "list" = none) (hmr : X.mg "range" = none) (ha : SE X C W a ma) (hgl : Gl X "list" := by rfl) (hgr : Gl X "range" := by rfl) (na : starEach [a] X.env = (false, eval a X.env) :: starEach [] X.env := by rfl)
    (na2 : starEach [.Call (.Name "range" p2) [a] [] pos2] X.env = (false, eval (.Call (.Name "range" p2) [a] [] pos2) X.env) :: starEach [] X.env := by rfl) : SF X C W (.Call (.Name "list" p) [.Call (.Name "range" p2) [a] [] pos2] [] pos) (mRgL1 ma) :=
  PE.imp (pe_listRg hc hgl hml (prg_1 hgr hmr ha na) na2) fun σ H Q ⟨Γ, env, ds, R, h⟩ => by
    refine ⟨Γ, env, ds, R, h.bind.imp fun d ds1 H1 e1 d1 q x hx => ?_⟩
    obtain ⟨z, hz, q⟩ := lift_some q
    cases d with
    | int j =>
      cases hx
      dsimp only at hz
      split at hz
      · rename_i hj
        cases hz
        obtain ⟨k1, k2⟩ := rgV_short (i := 0) (by decide) hj
        refine ⟨j, rfl, k1, fun r hr => q _ (ext_new hr) (d1.new hr) r _ (R.none_back e1 d1 hr) upd_same k2 (DfAll.newx ?_ hr d1)⟩
        have z := rgV_df (K := X.K) (H := H1) (g := gd Γ σ env) 0 j
        rw [Int.sub_zero] at z
        exact z
      · cases hz
    | _ => cases hz
theorem se_tupRg1 (hc : X.calm = true) (hml : X.mg "tuple" = none) (hmr : X.mg "range" = none) (ha : SE X C W a ma) (hgl : Gl X "tuple" := by rfl) (hgr : Gl X "range" := by rfl) (na : starEach [a] X.env = (false, eval a X.env) :: starEach [] X.env := by rfl)
    (na2 : starEach [.Call (.Name "range" p2) [a] [] pos2] X.env = (false, eval (.Call (.Name "range" p2) [a] [] pos2) X.env) :: starEach [] X.env := by rfl) : SE X C W (.Call (.Name "tuple" p) [.Call (.Name "range" p2) [a] [] pos2] [] pos) (mTup (mRgL1 ma)) :=
  PE.imp (pe_tupRg hc hgl hml (prg_1 hgr hmr ha na) na2) fun σ H Q ⟨Γ, env, ds, R, h⟩ => by
    refine ⟨Γ, env, ds, R, h.bind.bind.imp fun d ds1 H1 e1 d1 q x hx => ?_⟩
    obtain ⟨z, hz, q⟩ := lift_some q
    cases d with
    | int j =>
      cases hx
      dsimp only at hz
      split at hz
      · rename_i hj
        cases hz
        obtain ⟨k1, k2⟩ := rgV_short (i := 0) (by decide) hj
        refine ⟨j, rfl, k1, fun r hr => ?_⟩
        obtain ⟨z, hz, q⟩ := lift_some (q H1 Ext.refl d1)
        split at hz
        · cases hz
          have w := rgV_df (K := X.K) (H := H1) (g := gd Γ σ env) 0 j
          rw [Int.sub_zero] at w
          obtain ⟨x1, x2, x3⟩ := new_tup (R.go e1 d1) w k2 hr
          exact q _ x1 x2 _ x3
        · cases hz
      · cases hz
    | _ => cases hz
theorem sf_listRg2 (hc : X.calm = true) (hml : X.mg "list" = none) (hmr : X.mg "range" = none) (ha : SE X C W a ma) (hb : SE X C W b mb) (hgl : Gl X "list" := by rfl) (hgr : Gl X "range" := by rfl) (na : starEach [a, b] X.env = (false, eval a X.env) :: starEach [b] X.env := by rfl)
    (nb : starEach [b] X.env = (false, eval b X.env) :: starEach [] X.env := by rfl) (hpl : (backTo pos2 (starEach [b] X.env)).any (·.1) = false := by rfl)
    (na2 : starEach [.Call (.Name "range" p2) [a, b] [] pos2] X.env = (false, eval (.Call (.Name "range" p2) [a, b] [] pos2) X.env) :: starEach [] X.env := by rfl) : SF X C W (.Call (.Name "list" p) [.Call (.Name "range" p2) [a, b] [] pos2] [] pos) (mRgL2 ma mb) :=
  PE.imp (pe_listRg hc hgl hml (prg_2 hgr hmr ha hb na nb hpl) na2) fun σ H Q ⟨Γ, env, ds, R, h⟩ => by
    refine ⟨Γ, env, ds, R, h.bind.imp fun d ds1 H1 e1 d1 q x hx => ⟨Γ, env, ds1, R.go e1 d1, q.bind.imp fun e ds2 H2 e2 d2 q y hy => ?_⟩⟩
    obtain ⟨z, hz, q⟩ := lift_some q
    cases d with
    | int i =>
      cases e with
      | int j =>
        cases hx
        cases hy
        dsimp only at hz
        split at hz
        · rename_i hj
          cases hz
          rw [Bool.and_eq_true] at hj
          obtain ⟨k1, k2⟩ := rgV_short hj.1 hj.2
          exact ⟨i, j, rfl, rfl, k1, fun r hr => q _ (ext_new hr) (d2.new hr) r _ (R.none_back e1 d1 ((R.go e1 d1).none_back e2 d2 hr)) upd_same k2 (DfAll.newx (rgV_df i j) hr d2)⟩
        · cases hz
      | _ => cases hz
    | _ => cases hz
end

/-! ### the law's own def, called from the claim's caller: there no repr is under way -/
section
variable {P : Program} {w : World} {K : PySem.W.Frag} {mg mb : Str → Option Value}
def noX : XK := fun _ _ _ => False
/-- what is wanted of the law's body -/
def LawBody (P : Program) (w : World) (K : PySem.W.Frag) (mg : Str → Option Value) (k : Nat) (st : Stmt) (N : List Str) (fa : Addr) (C : Exs) (m : MS) : Prop :=
  ∀ (base : Heap) (cdv : Value) (s : Shared) (H : Hp), K.In base → base.Ns mainGlobals mg → Room k (callerA.deeper (envOfC "law" (defScope st) s.heap.objs.size fa cdv)) → SSs (cxOf (L2.CX P w) P w K mg base N "law" (defScope st) fa cdv callerA [] s H noX) C W0 false (defBody st) m
theorem law_run {st : Stmt} {N : List Str} {k : Nat} {fa a : Addr} {fd : FuncData} {C : Exs} {m : MS} {base : Heap} {s : Shared} {H : Hp} {ns : List Int} (F : Fun K "law" "law" st fa fd) (S : FnScope N ["script"] (defScope st)) (hbind : ∀ (s : Shared) (u : Value), BindsTo s fd ⟨[u], []⟩ [("script", u)]) (hr : Room (k + 1) callerA)
    (hB : LawBody P w K mg k st N fa C m) (e0 : Env0 P w K mg base callerA [] s H) (hbs : base.Ns mainGlobals mg) (hS : ScrAt K H a (ns.map V.int)) (hn : ns.length ≤ 63) (hm : runB N.length 1 false m [.scr ns] none = some (.ok (.bool true), none)) :
    codeAny (model P w) callerA (.call (.ref fa) ⟨[.ref a], []⟩) (CR (L2.CX P w) [] P w H s (fun v _ => v = .bl true) noX) s := by
  obtain ⟨oc, od, kV, doc, pm, an, cdv, ct, osl, efd, lk, hcd⟩ := F.ex
  subst efd
  have inK : K.In s.heap := e0.mod.kin.keeps fun b o e => (e0.bs b o e).1
  have noL : s.heap.NoLimit := e0.mod.nolimit.keeps fun b o e => (e0.bs b o e).1
  have par : ∀ y ∈ [(("script" : Str), Value.ref a)], (defScope st).names.lookup y.1 = some .local ∨ ((defScope st).names.lookup y.1 = some .cell ∧ ((cellsFrom (s.heap.objs.size + 1) (defScope st).names []).lookup y.1).isSome = true) := fun y hy => by
    obtain rfl := List.mem_singleton.mp hy
    exact (S.par "script" List.mem_cons_self).imp id fun q => ⟨q, PySem.W.cellsFrom_some _ _ _ (.inl q)⟩
  refine codeAny_call_function hr.depth (inK _ _ lk) rfl S.co S.gen rfl (PySem.W.codeRec_of inK hcd) (hbind s (.ref a) _ _ _ _ ?_); refine wpAny_newFunctionEnv_cells S.kind par fun env he s1 x => ?_
  subst he
  refine ⟨noL.keeps x.toInCall.keep, codeAny_func ?_⟩
  have I := inv_start (CX := L2.CX P w) (E := noX) (ps := ["script"]) (us := [Value.ref a]) (vs := [V.ref a]) S hr.hd e0 rfl (.cons rfl .nil) x
  have rel := rel_start (K := K) (Γ := ⟨fun _ => True, H, none, []⟩) (H := H) (ds := none) (vs := [V.ref a]) (args := [.scr ns]) (N := N) rfl rfl (fun _ _ => trivial) trivial (.cons ⟨a, rfl, hS, hn⟩ .nil)
  have body := hB base cdv s H e0.mod.kin hbs (hr.deeper _)
  refine wpAny_mono (body.run [] s1 (start N [V.ref a]) H { nx := fun _ H' => (fun v _ => v = V.bl true : VK) .non H', rt := fun v _ => v = V.bl true } I ⟨_, _, _, rel, ?_⟩) (fun fl s' hs => ?_) fun e s' hs => hs
  · show Aft2 K C W0 false _ _ (m ([.scr ns] ++ List.replicate (N.length - 1) .un) none)
    unfold runB at hm
    rcases q : m ([.scr ns] ++ List.replicate (N.length - 1) .un) none with _ | ⟨fl, ds'⟩
    · rw [q] at hm; cases hm
    · rw [q] at hm
      cases fl with
      | rt d =>
        cases hm
        try rw [q]
        refine (fun v H' (r : RetR false K _ H' none v (.bool true)) => ?_ : ∀ (v : V) (H' : Hp), RetR false K _ H' none v (.bool true) → v = V.bl true)
        obtain ⟨_, _, r⟩ := r
        cases r
        rfl
      | nx e => dsimp only at hm; rw [if_neg Bool.false_ne_true] at hm; cases hm
      | bk e => cases hm
      | ct e => cases hm
      | ex x e => cases hm
  · cases fl with
    | ret u =>
      obtain ⟨v, σ', H', J, rv, q⟩ := hs
      exact ⟨v, H', J.os, J.bare, J.base, J.hok, rv, q⟩
    | next =>
      obtain ⟨σ', H', J, q⟩ := hs
      cases q
    | brk => obtain ⟨_, _, _, q⟩ := hs; exact q.elim
    | cont => obtain ⟨_, _, _, q⟩ := hs; exact q.elim
theorem hid_ns {h : Heap} {H : Hp} {b : Addr} {m : Str → Option Value} (x : h.Ns b m) (hn : ∀ (c : Addr) (o : Obj) (es : Array DictEntry) (ep : Nat), h.get? c = some o → o.data = .dict es ep → H c = none) : (hidT h H).Ns b m := by
  obtain ⟨o, es, ep, e, d, r⟩ := x
  exact ⟨o, es, ep, hidT_get e (hn b o es ep e d), d, r⟩
/-- THE END: the law's def, from the caller; nothing is tracked but the script -/
theorem law_go {st : Stmt} {N : List Str} {k : Nat} {fa a : Addr} {fd : FuncData} {C : Exs} {m : MS} {s : Shared} {vs : List Value} {ns : List Int} (KX : K.In s.heap) (hns : s.heap.Ns mainGlobals mg) (hb : s.heap.Ns builtinsNs mb) (hbb : ∀ x : Str, x ≠ "__name__" → mb x = bootBuiltins x) (hlim : s.heap.NoLimit) (hg : s.gens = #[])
    (ha : s.heap.get? a = some { cls := .type "list", data := .seq vs.toArray }) (hi : IntsAre vs ns) (hn : ns.length ≤ 63) (F : Fun K "law" "law" st fa fd) (S : FnScope N ["script"] (defScope st)) (hbind : ∀ (s : Shared) (u : Value), BindsTo s fd ⟨[u], []⟩ [("script", u)]) (hr : Room (k + 1) callerA)
    (hB : LawBody P w K mg k st N fa C m) (hm : runB N.length 1 false m [.scr ns] none = some (.ok (.bool true), none)) :
    codeAny (model P w) callerA (.call (.ref fa) ⟨[.ref a], []⟩) (fun r s' => r = .ok (.ret (.bool true)) ∧ OldK s.heap s'.heap ∧ s'.os = s.os ∧ AllBare s'.gens) s := by
  have rv := vals_ints hi
  have lv := hi.length
  have z63 : (63 : Nat) ≤ sizeLine := by rw [sizeLine_eq]; decide
  have go : ∀ H : Hp, (∀ b, H b = none ∨ (b = a ∧ K.lookup a = none ∧ ∃ o, H b = some (.frz o (.lst (ns.map V.int))))) → ScrAt K H a (ns.map V.int) → HOk P w H s.heap → codeAny (model P w) callerA (.call (.ref fa) ⟨[.ref a], []⟩) (fun r s' => r = .ok (.ret (.bool true)) ∧ OldK s.heap s'.heap ∧ s'.os = s.os ∧ AllBare s'.gens) s := by
    intro H hH hS hok
    have dn : ∀ (c : Addr) (o : Obj) (es : Array DictEntry) (ep : Nat), s.heap.get? c = some o → o.data = .dict es ep → H c = none := fun c o es ep e d => by
      rcases hH c with q | ⟨rfl, _, _⟩
      · exact q
      · rw [ha] at e
        cases e
        cases d
    have inB : K.In (hidT s.heap H) := fun b o e => by
      refine hidT_get (KX b o e) ?_
      rcases hH b with q | ⟨rfl, q, _⟩
      · exact q
      · rw [q] at e; cases e
    have lim : (hidT s.heap H).NoLimit := by
      obtain ⟨mc, h1, h2⟩ := hlim
      exact ⟨mc, hid_ns h1 dn, h2⟩
    have e0 : Env0 P w K mg (hidT s.heap H) callerA [] s H := ⟨rfl, ⟨inB, hid_ns hns dn, ⟨mb, hid_ns hb dn, hbb⟩, lim⟩, fun b o e => of_hidT e, Nat.le_of_eq (hidT_size _ _), trivial, (fun b z => nomatch z), hok, AllBare.of_eq hg⟩
    refine codeAny_mono (law_run F S hbind hr hB e0 (hid_ns hns dn) hS hn hm) fun r s' h => ?_
    rcases r with e | fl
    · obtain ⟨_, _, _, _, _, _, _, _, _, _, _, _, q⟩ := h
      exact q.elim
    · cases fl with
      | ret u =>
        obtain ⟨v, H', os, bare, un, hok', r, q⟩ := h
        have q : v = .bl true := q
        subst q
        obtain rfl : u = Value.bool true := r
        refine ⟨rfl, OldK.of_keep fun b o e => ?_, os, bare⟩
        rcases hH b with q | ⟨rfl, _, ob, q⟩
        · exact un.keep b o e q (fun z => nomatch z) (by simp)
        · obtain ⟨e1, _⟩ := hok b _ q
          obtain ⟨e2, _⟩ := hok' b _ (un.frzs b ob _ q)
          rw [e] at e1
          cases e1
          exact e2
      | next => exact h.elim
      | brk => exact h.elim
      | cont => exact h.elim
  cases hk : K.lookup a with
  | some o =>
    have e := KX a o hk
    rw [ha] at e
    cases e
    exact go (fun _ => none) (fun _ => .inl rfl) (.inr ⟨_, vs.toArray, _, hk, rfl, rfl, rfl, by rw [List.size_toArray, lv]; omega, by simpa using rv⟩) fun b u z => nomatch z
  | none =>
    refine go (fun b => if b = a then some (.frz { cls := .type "list", data := .seq vs.toArray } (.lst (ns.map V.int))) else none) (fun b => ?_) (.inl ⟨_, if_pos rfl⟩) fun b u z => ?_
    · by_cases q : b = a
      · exact .inr ⟨q, hk, _, if_pos q⟩
      · exact .inl (if_neg q)
    · by_cases q : b = a
      · have z2 := (if_pos q).symm.trans z
        cases z2
        subst q
        exact ⟨ha, by rw [List.length_map]; omega, vs, _, rv, ha⟩
      · have z2 := (if_neg q).symm.trans z
        cases z2
end
/-- what the text gives: the law's def, its body's meaning, and that it answers True -/
structure LawTxt (P : Program) (w : World) (K : PySem.W.Frag) (mg : Str → Option Value) (fa : Addr) (k : Nat) (C : Exs) (st : Stmt) (N : List Str) (fd : FuncData) (m : MS) : Prop where
  fn : Fun K "law" "law" st fa fd
  sc : FnScope N ["script"] (defScope st)
  bind : ∀ (s : Shared) (u : Value), BindsTo s fd ⟨[u], []⟩ [("script", u)]
  body : LawBody P w K mg k st N fa C m
  ans : ∀ ns : List Int, ns.length ≤ 63 → runB N.length 1 false m [.scr ns] none = some (.ok (.bool true), none)
theorem walk_law {l : PySem.W.OpenLaw} {k : Nat} {q : Program} {loose : List Str} {XP : (Str → Option Value) → Heap → Prop} {YP : World → Heap → Prop} {d : DefRec} {K : Params → PySem.W.Frag} (hn : l.most = some 63) (hdf : d.params.defaults = []) (hr : Room (k + 1) callerA) (hY : ∀ (w : World) (h : Heap), YP w h → (K w.params).In h)
    (F : ∀ (w : World) (mg : Str → Option Value) (fa : Addr) (h : Heap), (K w.params).In h → h.Ns mainGlobals mg → mg d.name = some (.ref fa) → ∃ C st N fd m, LawTxt l.prog w (K w.params) mg fa k C st N fd m) : PySem.W.WalkO q loose XP YP l.row.toRowW d [] (fun f vs => PySem.call f vs) := by
  refine Att.attach_call hn hdf fun w s₀ s₁ mg mb fa o pm cd doc a vs ns G Y ho hd hcd hmg hobj hints hlen hg => ?_
  obtain ⟨C, st, N, fd, m, T⟩ := F w mg fa _ (hY w _ Y) G.T.g hmg
  exact law_go (hY w _ Y) G.T.g G.T.b G.T.builtins G.T.nolimit hg hobj hints hlen T.fn T.sc T.bind hr T.body (T.ans ns hlen)
end DL

/-! DL14: a, b = e1, e2. -/
namespace DL
open PySem PySem.Spec L2
open PyProof.Rows hiding St

def putS (i j : Nat) (x y : Sl) : MS := fun env ds => match (put i x env).bind (put j y) with
  | some env' => some (.nx env', ds)
  | none => none
def mParDD (i j : Nat) (a b : ME PyData) : MS := exS a fun x => exS b fun y => putS i j (.d x) (.d y)
def mParLD (i j : Nat) (a : ME (List PyData)) (b : ME PyData) : MS := exS a fun x => exS b fun y => putS i j (.l x) (.d y)
def mParDL (i j : Nat) (a : ME PyData) (b : ME (List PyData)) : MS := exS a fun x => exS b fun y => putS i j (.d x) (.l y)
def mParLL (i j : Nat) (a b : ME (List PyData)) : MS := exS a fun x => exS b fun y => putS i j (.l x) (.l y)
section
variable {X : Cx} {C : Exs} {W : WX} {fr : Bool} {K : PySem.W.Frag} {Γ : Gm} {σ : St} {H H1 : Hp} {env : Ev} {ds ds1 : DS}
theorem putS_aft {D : Ends} {i j : Nat} {x y : Sl} (h : Aft2 K C W fr Γ D (putS i j x y env ds)) : ∃ env1 env2, put i x env = some env1 ∧ put j y env1 = some env2 ∧ ∀ σ' H', Rel K Γ σ' H' env2 ds → D.nx σ' H' := by
  unfold putS at h
  cases h1 : put i x env with
  | none => rw [h1] at h; exact h.elim
  | some env1 =>
    rw [h1] at h
    dsimp only [Option.bind] at h
    cases h2 : put j y env1 with
    | none => rw [h2] at h; exact h.elim
    | some env2 => rw [h2] at h; exact ⟨env1, env2, rfl, h2, h⟩
theorem Aft.blk {α : Type} {Hb : Hp} {E : Addr} {r : Rz α} {P : α → DS → Hp → Prop} (h : Aft K C W Γ σ H r P) : Aft K C W (Γ.blk σ env Hb E) σ H r P := by
  unfold Aft at h ⊢
  rcases r with _ | ⟨a | x, ds⟩
  · exact h
  · exact fun H' e d => h H' e d.unblk
  · exact fun cls dd H' e d => h cls dd H' e d.unblk
/-- what is good in the ground apart from p is good behind the storing of p -/
theorem blk_good {Hb : Hp} {p a : Addr} {i : Nat} {xs : List PyData} {env1 : Ev} (hp : put i (.l xs) env = some env1) (hi : i < σ.length) (h : gd (Γ.blk σ env Hb p) σ env a) : gd Γ (σ.set i (some (.ref p))) env1 a := by
  obtain ⟨h1, h2, rfl⟩ := put_some hp
  refine ⟨h.1.1, fun ⟨j, x, q1, q2, q3⟩ => ?_, h.2.2⟩
  by_cases e : i = j
  · subst e
    rw [List.getElem?_set_self hi] at q3
    cases q3
    exact h.1.2 rfl
  · rw [List.getElem?_set_ne e] at q1 q3
    exact h.2.1 ⟨j, x, q1, q2, q3⟩
variable {i j : Nat} {x y : Str} {a b : Expr} {px py pt pos : Pos} {kt k2 : Nat} {pt2 : Pos} {ma mb : ME PyData} {fa fb : ME (List PyData)}
theorem ss_parDD (i j : Nat) (hN : X.N.Nodup) (ha : SE X C W a ma) (hb : SE X C W b mb) (hc : X.calm = true := by rfl) (hi : X.N[i]? = some x := by rfl) (hj : X.N[j]? = some y := by rfl) (hij : i ≠ j := by decide) (hx : X.env.scope.names.lookup x = some .local := by rfl) (hy : X.env.scope.names.lookup y = some .local := by rfl)
    (he : starEach (a :: [b]) X.env = (false, eval a X.env) :: starEach [b] X.env := by rfl) (he2 : starEach (b :: []) X.env = (false, eval b X.env) :: starEach [] X.env := by rfl)
    (hw : swappedStores [.Tuple [.Name x px, .Name y py] kt pt] (.Tuple [a, b] k2 pt2) X.env = pure (some [x, y]) := by rfl) (hs : swapsWithSole [.Tuple [.Name x px, .Name y py] kt pt] (.Tuple [a, b] k2 pt2) pos.line X.env = pure false := by rfl) :
    SS X C W fr (.Assign [.Tuple [.Name x px, .Name y py] kt pt] (.Tuple [a, b] k2 pt2) pos) (mParDD i j ma mb) :=
  PS.imp (ps_par hc hN hi hj hij hx hy (pa_cons ha (pa_cons hb pa_nil he2) he) hw hs) fun D σ H ⟨Γ, env, ds, R, h⟩ => by
    refine ⟨Γ, env, ds, R, (exS_aft R h).imp fun d ds1 H1 e1 d1 q v hv => ?_⟩
    have R1 := R.go e1 d1
    refine ⟨Γ, env, ds1, R1, (exS_aft R1 q).imp fun e ds2 H2 e2 d2 q w hw => ?_⟩
    have R2 := R1.go e2 d2
    obtain ⟨env1, env2, p1, p2, q⟩ := putS_aft q
    refine ⟨v, w, rfl, q _ _ ?_⟩
    have S1 := R2.set_d (Df.ext e2 d1 hv) p1
    refine S1.set_d ((show Df X.K H2 (gd Γ σ env) w e from hw).mono (fun a u z k => ⟨?_, k⟩) fun _ _ z => z) p2
    obtain ⟨_, _, rfl⟩ := put_some p1
    exact gd_set_d rfl z
theorem ss_parDL (i j : Nat) (hN : X.N.Nodup) (ha : SE X C W a ma) (hb : SF X C W b fb) (hc : X.calm = true := by rfl) (hi : X.N[i]? = some x := by rfl) (hj : X.N[j]? = some y := by rfl) (hij : i ≠ j := by decide) (hx : X.env.scope.names.lookup x = some .local := by rfl) (hy : X.env.scope.names.lookup y = some .local := by rfl)
    (he : starEach (a :: [b]) X.env = (false, eval a X.env) :: starEach [b] X.env := by rfl) (he2 : starEach (b :: []) X.env = (false, eval b X.env) :: starEach [] X.env := by rfl)
    (hw : swappedStores [.Tuple [.Name x px, .Name y py] kt pt] (.Tuple [a, b] k2 pt2) X.env = pure (some [x, y]) := by rfl) (hs : swapsWithSole [.Tuple [.Name x px, .Name y py] kt pt] (.Tuple [a, b] k2 pt2) pos.line X.env = pure false := by rfl) :
    SS X C W fr (.Assign [.Tuple [.Name x px, .Name y py] kt pt] (.Tuple [a, b] k2 pt2) pos) (mParDL i j ma fb) :=
  PS.imp (ps_par hc hN hi hj hij hx hy (pa_cons ha (pa_cons hb pa_nil he2) he) hw hs) fun D σ H ⟨Γ, env, ds, R, h⟩ => by
    refine ⟨Γ, env, ds, R, (exS_aft R h).imp fun d ds1 H1 e1 d1 q v hv => ?_⟩
    have R1 := R.go e1 d1
    refine ⟨Γ, env, ds1, R1, (exS_aft R1 q).imp fun e ds2 H2 e2 d2 q p us g1 g2 g3 g4 => ?_⟩
    obtain ⟨env1, env2, p1, p2, q⟩ := putS_aft q
    refine ⟨v, _, rfl, q _ _ ?_⟩
    have S1 := R1.set_d hv p1
    refine S1.set_l e2 d2 g1 g2 g3 (g4.mono (fun a u z k => ⟨⟨?_, z.2⟩, k⟩) fun _ _ z => z) p2
    obtain ⟨_, _, rfl⟩ := put_some p1
    exact gd_set_d rfl z.1
theorem ss_parLD (i j : Nat) (hN : X.N.Nodup) (ha : SF X C W a fa) (hb : SE X C W b mb) (hc : X.calm = true := by rfl) (hi : X.N[i]? = some x := by rfl) (hj : X.N[j]? = some y := by rfl) (hij : i ≠ j := by decide) (hx : X.env.scope.names.lookup x = some .local := by rfl) (hy : X.env.scope.names.lookup y = some .local := by rfl)
    (he : starEach (a :: [b]) X.env = (false, eval a X.env) :: starEach [b] X.env := by rfl) (he2 : starEach (b :: []) X.env = (false, eval b X.env) :: starEach [] X.env := by rfl)
    (hw : swappedStores [.Tuple [.Name x px, .Name y py] kt pt] (.Tuple [a, b] k2 pt2) X.env = pure (some [x, y]) := by rfl) (hs : swapsWithSole [.Tuple [.Name x px, .Name y py] kt pt] (.Tuple [a, b] k2 pt2) pos.line X.env = pure false := by rfl) :
    SS X C W fr (.Assign [.Tuple [.Name x px, .Name y py] kt pt] (.Tuple [a, b] k2 pt2) pos) (mParLD i j fa mb) :=
  PS.imp (ps_par hc hN hi hj hij hx hy (pa_cons ha (pa_cons hb pa_nil he2) he) hw hs) fun D σ H ⟨Γ, env, ds, R, h⟩ => by
    refine ⟨Γ, env, ds, R, (exS_aft R h).imp fun d ds1 H1 e1 d1 q p us g1 g2 g3 g4 => ?_⟩
    have R1 := R.go e1 d1
    have RB : Rel X.K (Γ.blk σ env H1 p) σ H1 env ds1 := R.blk (vs := []) g1 e1 d1 ⟨_, g2⟩ rfl
    refine ⟨_, env, ds1, RB, (exS_aft R1 q).blk.imp fun e ds2 H2 e2 d2 q w hw => ?_⟩
    obtain ⟨env1, env2, p1, p2, q⟩ := putS_aft q
    refine ⟨_, w, rfl, q _ _ ?_⟩
    have S1 := (R.set_l e1 d1 g1 g2 g3 g4 p1).go e2 d2.unblk
    exact S1.set_d ((show Df X.K H2 (gd (Γ.blk σ env H1 p) σ env) w e from hw).mono (fun a u z k => ⟨blk_good p1 (by rw [R.len]; exact (put_some p1).2.1) z, k⟩) fun _ _ z => z) p2
theorem ss_parLL (i j : Nat) (hN : X.N.Nodup) (ha : SF X C W a fa) (hb : SF X C W b fb) (hc : X.calm = true := by rfl) (hi : X.N[i]? = some x := by rfl) (hj : X.N[j]? = some y := by rfl) (hij : i ≠ j := by decide) (hx : X.env.scope.names.lookup x = some .local := by rfl) (hy : X.env.scope.names.lookup y = some .local := by rfl)
    (he : starEach (a :: [b]) X.env = (false, eval a X.env) :: starEach [b] X.env := by rfl) (he2 : starEach (b :: []) X.env = (false, eval b X.env) :: starEach [] X.env := by rfl)
    (hw : swappedStores [.Tuple [.Name x px, .Name y py] kt pt] (.Tuple [a, b] k2 pt2) X.env = pure (some [x, y]) := by rfl) (hs : swapsWithSole [.Tuple [.Name x px, .Name y py] kt pt] (.Tuple [a, b] k2 pt2) pos.line X.env = pure false := by rfl) :
    SS X C W fr (.Assign [.Tuple [.Name x px, .Name y py] kt pt] (.Tuple [a, b] k2 pt2) pos) (mParLL i j fa fb) :=
  PS.imp (ps_par hc hN hi hj hij hx hy (pa_cons ha (pa_cons hb pa_nil he2) he) hw hs) fun D σ H ⟨Γ, env, ds, R, h⟩ => by
    refine ⟨Γ, env, ds, R, (exS_aft R h).imp fun d ds1 H1 e1 d1 q p us g1 g2 g3 g4 => ?_⟩
    have R1 := R.go e1 d1
    have RB : Rel X.K (Γ.blk σ env H1 p) σ H1 env ds1 := R.blk (vs := []) g1 e1 d1 ⟨_, g2⟩ rfl
    refine ⟨_, env, ds1, RB, (exS_aft R1 q).blk.imp fun e ds2 H2 e2 d2 q p' us' f1 f2 f3 f4 => ?_⟩
    obtain ⟨env1, env2, p1, p2, q⟩ := putS_aft q
    refine ⟨_, _, rfl, q _ _ ?_⟩
    have S1 := R.set_l e1 d1 g1 g2 g3 g4 p1
    exact S1.set_l e2 d2.unblk f1 f2 f3 (f4.mono (fun a u z k => ⟨⟨blk_good p1 (by rw [R.len]; exact (put_some p1).2.1) z.1, z.2⟩, k⟩) fun _ _ z => z) p2
end
/-! ### the text's parts -/
/-- an error's class catches itself -/
theorem exm_own {K : PySem.W.Frag} {c : Addr} (hb : PySem.W.subIn K (.ref c) (.type "BaseException") = some true) (hi : PySem.W.isClsIn K c = true) (ht : PySem.W.typeIn K (.ref c) = some (.type "type")) (hs : PySem.W.subIn K (.ref c) (.ref c) = some true) : PySem.W.exmOne K (.ref c) (.ref c) = some true := by
  have a1 : (PySem.W.subIn K (.ref c) (.type "BaseException") == some true) = true := by rw [hb]; rfl
  have a2 : ((PySem.W.clsIn K c).isSome && PySem.W.typeIn K (.ref c) == some (.type "type")) = true := by
    rw [ht, show (PySem.W.clsIn K c).isSome = true from hi]
    rfl
  show (if _ then (if _ then PySem.W.subIn K (.ref c) (.ref c) else none) else none) = some true
  rw [if_pos a1, if_pos a2, hs]
/-- a def of the text -/
structure Dn (K : PySem.W.Frag) (mg : Str → Option Value) (x : Str) (st : Stmt) (ps : List Str) (f : Addr) (fd : FuncData) : Prop where
  fn : Fun K x x st f fd
  mg : mg x = some (.ref f)
  kp : PySem.W.keepIn K (.ref f) = true
  bd : Binds K fd ps []
/-- an error without a field of its own -/
structure Xn (K : PySem.W.Frag) (mg : Str → Option Value) (x : Str) (C : Exs) : Prop where
  g : mg x = some (.ref C.m)
  q : PySem.W.excIn K C.m [.type "ValueError", .type "Exception", .type "BaseException", .type "object"] "ValueError.__new__" = true
  kp : PySem.W.keepIn K (.ref C.m) = true
  r : ∀ {X : Cx}, X.K = K → Raises X (.ref C.m)
  ex : ∀ y cls d H, ExR C y cls d H → PySem.W.exmOne K cls (.ref C.m) = some true
/-- the rule for a def, its meaning by name -/
theorem okD2 {P : Program} {w : World} {K : PySem.W.Frag} {mg : Str → Option Value} {base : Heap} {x qual : Str} {st : Stmt} {fa : Addr} {fd : FuncData} {N ps : List Str} {k n p : Nat} {C : Exs} {fr : Bool} {m : MS} {f : FS} (hf : f = runB n p fr m) (hn : N.length = n) (hp : ps.length = p) (F : Fun K x qual st fa fd) (S : FnScope N ps (defScope st))
    (hbody : ∀ (cdv : Value) (A : Around) (outer : List Env) (s : Shared) (H : Hp) (E : XK), Room k (A.deeper (envOfC qual (defScope st) s.heap.objs.size fa cdv)) → SSs (cxOf (L2.CX P w) P w K mg base N qual (defScope st) fa cdv A outer s H E) C (fun cls d _ H' => E cls d H') fr (defBody st) m) :
    FnOk P w K mg base (L2.CX P w) (k + 1) fa fd ps (spD K C fr p f) := by
  subst hf hn hp
  exact DL.Fun.okD F S hbody
end DL

/-! DL15: meanings evaluated. -/
namespace DL
open PySem PySem.Spec L2
open PyProof.Rows hiding St

section
variable {α β : Type} {env env' : Ev} {ds ds' : DS}
@[simp] theorem rb_ok (x : α) (f : α → DS → Rz β) : Rz.bind (some (.ok x, ds)) f = f x ds := rfl
@[simp] theorem rb_exc (x : Exn) (f : α → DS → Rz β) : Rz.bind (some (.exc x, ds)) f = some (.exc x, ds) := rfl
@[simp] theorem rb_none (f : α → DS → Rz β) : Rz.bind none f = none := rfl
@[simp] theorem lift_ok (x : α) : ME.lift (some x) env ds = some (.ok x, ds) := rfl
@[simp] theorem lift_no : ME.lift (none : Option α) env ds = none := rfl
@[simp] theorem mbind_ev (a : ME α) (f : α → ME β) : ME.bind a f env ds = (a env ds).bind fun x ds => f x env ds := rfl
@[simp] theorem mpure_ev (x : α) : ME.pure x env ds = some (.ok x, ds) := rfl
@[simp] theorem mC_ev (d : PyData) : mC d env ds = some (.ok d, ds) := rfl
@[simp] theorem mV_ev (i : Nat) : mV i env ds = (match env[i]? with | some (.d x) => some (.ok x, ds) | _ => none) := rfl
@[simp] theorem mVp_ev (i : Nat) : mVp i env ds = (match env[i]? with | some (.d x) => some (.ok x, ds) | some (.l xs) => some (.ok (.list xs), ds) | some (.lk xs) => some (.ok (.list xs), ds) | _ => none) := rfl
@[simp] theorem mF_ev (a : ME (List PyData)) : mF a env ds = (a env ds).bind fun xs ds => some (.ok (.list xs), ds) := rfl
@[simp] theorem mOp_ev (f : PyData → PyData → Option PyData) (a b : ME PyData) : mOp f a b env ds = (a env ds).bind fun x ds => (b env ds).bind fun y ds => ME.lift (f x y) env ds := rfl
@[simp] theorem mUn_ev (f : PyData → Option PyData) (a : ME PyData) : mUn f a env ds = (a env ds).bind fun x ds => ME.lift (f x) env ds := rfl
@[simp] theorem mUnF_ev (f : PyData → Option (List PyData)) (a : ME PyData) : mUnF f a env ds = (a env ds).bind fun x ds => ME.lift (f x) env ds := rfl
@[simp] theorem mTst_ev (a : ME PyData) : mTst a env ds = (a env ds).bind fun x ds => ME.lift (match x with | .bool b => some b | _ => none) env ds := rfl
@[simp] theorem mB_ev (a : ME Bool) : mB a env ds = (a env ds).bind fun b ds => some (.ok (.bool b), ds) := rfl
@[simp] theorem mAnd_ev (a b : ME Bool) : mAnd a b env ds = (a env ds).bind fun x ds => (if x then b else ME.pure false) env ds := rfl
@[simp] theorem mOr_ev (a b : ME Bool) : mOr a b env ds = (a env ds).bind fun x ds => (if x then ME.pure true else b) env ds := rfl
@[simp] theorem mNot_ev (a : ME Bool) : mNot a env ds = (a env ds).bind fun x ds => some (.ok (!x), ds) := rfl
@[simp] theorem mIf_ev (c : ME Bool) (a b : ME α) : mIf c a b env ds = (c env ds).bind fun x ds => (if x then a else b) env ds := rfl
@[simp] theorem mNil_ev : mNil env ds = some (.ok [], ds) := rfl
@[simp] theorem mCons_ev (a : ME PyData) (b : ME (List PyData)) : mCons a b env ds = (a env ds).bind fun x ds => (b env ds).bind fun xs ds => some (.ok (x :: xs), ds) := rfl
@[simp] theorem mTup_ev (a : ME (List PyData)) : mTup a env ds = (a env ds).bind fun xs ds => ME.lift (if short xs.length then some (.tuple xs) else none) env ds := rfl
@[simp] theorem mLst_ev (a : ME (List PyData)) : mLst a env ds = (a env ds).bind fun xs ds => ME.lift (if short xs.length then some xs else none) env ds := rfl
@[simp] theorem mIsi_ev (n : Nat) (a : ME PyData) : mIsi n a env ds = (a env ds).bind fun x ds => ME.lift ((isOf (["int", "bool", "tuple", "str", "list"].getD n "") x).map .bool) env ds := rfl
@[simp] theorem mAndV_ev (a b : ME PyData) : mAndV a b env ds = (a env ds).bind fun x ds => (match x with | .bool true => b env ds | .bool false => some (.ok (.bool false), ds) | _ => none) := by
  unfold mAndV
  show (a env ds).bind _ = _
  congr 1
  funext x ds
  rcases x with _ | b | _ | _ | _ | _ | _ <;> first | rfl | (cases b <;> rfl)
@[simp] theorem mOrV_ev (a b : ME PyData) : mOrV a b env ds = (a env ds).bind fun x ds => (match x with | .bool true => some (.ok (.bool true), ds) | .bool false => b env ds | _ => none) := by
  unfold mOrV
  show (a env ds).bind _ = _
  congr 1
  funext x ds
  rcases x with _ | b | _ | _ | _ | _ | _ <;> first | rfl | (cases b <;> rfl)
@[simp] theorem mChain_ev (f f' : PyData → PyData → Option PyData) (a b c : ME PyData) : mChain f f' a b c env ds = (a env ds).bind fun x ds => (b env ds).bind fun y ds => (ME.lift (f x y) env ds).bind fun z ds => (match z with | .bool true => (c env ds).bind fun u ds => ME.lift (f' y u) env ds | .bool false => some (.ok (.bool false), ds) | _ => none) := by
  unfold mChain
  show (a env ds).bind _ = _
  congr 1
  funext x ds
  show (b env ds).bind _ = _
  congr 1
  funext y ds
  show (ME.lift (f x y) env ds).bind _ = _
  congr 1
  funext z ds
  rcases z with _ | b | _ | _ | _ | _ | _ <;> first | rfl | (cases b <;> rfl)
@[simp] theorem mItems_ev (a : ME PyData) : mItems a env ds = (a env ds).bind fun x ds => ME.lift (itemsOf x) env ds := rfl
@[simp] theorem mPart_ev (a : ME PyData) : mPart a env ds = (a env ds).bind fun x ds => ME.lift (match x with | .int i => some (some i) | _ => none) env ds := rfl
@[simp] theorem mNoPart_ev : mNoPart env ds = some (.ok none, ds) := rfl
@[simp] theorem mSlice_ev (a : ME PyData) (l h : ME (Option Int)) : mSlice a l h env ds = (a env ds).bind fun x ds => (l env ds).bind fun lo ds => (h env ds).bind fun hi ds => ME.lift (fSlice x lo hi) env ds := rfl
@[simp] theorem mScr_ev (i : Nat) : mScr i env ds = (match env[i]? with | some (.scr ns) => some (.ok (ns.map .int), ds) | _ => none) := rfl
@[simp] theorem mYes_ev : mYes env ds = some (.ok true, ds) := rfl
@[simp] theorem axNil_ev : axNil env ds = some (.ok [], ds) := rfl
@[simp] theorem axD_ev (a : ME PyData) (r : ME (List Sl)) : axD a r env ds = (a env ds).bind fun x ds => (r env ds).bind fun xs ds => some (.ok (.d x :: xs), ds) := rfl
@[simp] theorem axV_ev (i : Nat) (r : ME (List Sl)) : axV i r env ds = (match env[i]? with | some .drw => (r env ds).bind fun xs ds' => some (.ok (.drw :: xs), ds') | some (.scr ns) => (r env ds).bind fun xs ds' => some (.ok (.scr ns :: xs), ds') | _ => none) := rfl
@[simp] theorem mCall_ev (f : FS) (a : ME (List Sl)) : mCall f a env ds = (a env ds).bind fun args ds => f args ds := rfl
@[simp] theorem mCallP_ev (f : FS) (a : ME (List Sl)) : mCallP f a env ds = (a env ds).bind fun args ds => (f args ds).bind fun d ds' => if noL d then some (.ok d, ds') else none := rfl
@[simp] theorem mCallF_ev (f : FS) (a : ME (List Sl)) : mCallF f a env ds = (a env ds).bind fun args ds => (f args ds).bind fun d ds' => (match d with | .list xs => some (.ok xs, ds') | _ => none) := rfl
@[simp] theorem chk_ev (n : Nat) (f : FS) (args : List Sl) : chk n f args ds = if args.length = n then f args ds else none := rfl
@[simp] theorem mRng1_int (a : ME PyData) {j : Int} (h : a env ds = some (.ok (.int j), ds')) (hj : -(2 ^ 62) ≤ j ∧ j < 2 ^ 62) : mRng1 a env ds = some (.ok (rangeD 0 j.toNat), ds') := by
  unfold mRng1
  rw [mbind_ev, h, rb_ok]
  show ME.lift (if decide _ then _ else _) env ds' = _
  rw [decide_eq_true hj]
  rfl
@[simp] theorem mRgL1_int (a : ME PyData) {j : Int} (h : a env ds = some (.ok (.int j), ds')) (hj : smallI j = true) : mRgL1 a env ds = some (.ok (rangeD 0 j.toNat), ds') := by
  unfold mRgL1
  rw [mbind_ev, h, rb_ok]
  show ME.lift (if smallI j then _ else _) env ds' = _
  rw [hj]
  rfl
/-! statements -/
@[simp] theorem exS_ev (a : ME α) (f : α → MS) : exS a f env ds = (match a env ds with | some (.ok x, ds') => f x env ds' | some (.exc e, ds') => some (.ex e env, ds') | none => none) := rfl
@[simp] theorem mSkip_ev : mSkip env ds = some (.nx env, ds) := rfl
theorem mSeq_nx {a b : MS} (h : a env ds = some (.nx env', ds')) : mSeq a b env ds = b env' ds' := by unfold mSeq; rw [h]
theorem mSeq_rt {a b : MS} {d : PyData} (h : a env ds = some (.rt d, ds')) : mSeq a b env ds = some (.rt d, ds') := by unfold mSeq; rw [h]
theorem mSeq_ex {a b : MS} {x : Exn} (h : a env ds = some (.ex x env', ds')) : mSeq a b env ds = some (.ex x env', ds') := by unfold mSeq; rw [h]
@[simp] theorem mSeq_ev (a b : MS) : mSeq a b env ds = (match a env ds with | some (.nx env', ds') => b env' ds' | r => r) := rfl
@[simp] theorem mSet_ev (i : Nat) (a : ME PyData) : mSet i a env ds = (match a env ds with | some (.ok x, ds') => (match put i (.d x) env with | some env' => some (.nx env', ds') | none => none) | some (.exc e, ds') => some (.ex e env, ds') | none => none) := by
  unfold mSet exS
  rcases a env ds with _ | ⟨_ | _, _⟩ <;> rfl
@[simp] theorem mSetL_ev (i : Nat) (a : ME (List PyData)) : mSetL i a env ds = (match a env ds with | some (.ok x, ds') => (match put i (.l x) env with | some env' => some (.nx env', ds') | none => none) | some (.exc e, ds') => some (.ex e env, ds') | none => none) := by
  unfold mSetL exS
  rcases a env ds with _ | ⟨_ | _, _⟩ <;> rfl
@[simp] theorem mDrop_ev (a : ME PyData) : mDrop a env ds = (match a env ds with | some (.ok x, ds') => some (.nx env, ds') | some (.exc e, ds') => some (.ex e env, ds') | none => none) := by
  unfold mDrop exS
  rcases a env ds with _ | ⟨_ | _, _⟩ <;> rfl
@[simp] theorem mRet_ev (a : ME PyData) : mRet a env ds = (match a env ds with | some (.ok x, ds') => some (.rt x, ds') | some (.exc e, ds') => some (.ex e env, ds') | none => none) := by
  unfold mRet exS
  rcases a env ds with _ | ⟨_ | _, _⟩ <;> rfl
@[simp] theorem mRetF_ev (a : ME (List PyData)) : mRetF a env ds = (match a env ds with | some (.ok x, ds') => some (.rt (.list x), ds') | some (.exc e, ds') => some (.ex e env, ds') | none => none) := by
  unfold mRetF exS
  rcases a env ds with _ | ⟨_ | _, _⟩ <;> rfl
@[simp] theorem mRetL_ev (i : Nat) : mRetL i env ds = (match env[i]? with | some (.l xs) => some (.rt (.list xs), ds) | _ => none) := rfl
@[simp] theorem mRetN_ev : mRetN env ds = some (.rt .none, ds) := rfl
@[simp] theorem mRaise_ev (x : Exn) : mRaise x env ds = some (.ex x env, ds) := rfl
@[simp] theorem mIfS_ev (c : ME Bool) (a b : MS) : mIfS c a b env ds = (match c env ds with | some (.ok x, ds') => (if x then a else b) env ds' | some (.exc e, ds') => some (.ex e env, ds') | none => none) := by
  unfold mIfS exS
  rcases c env ds with _ | ⟨_ | _, _⟩ <;> rfl
@[simp] theorem mAsg_ev (t : Tg) (a : ME PyData) : mAsg t a env ds = (match a env ds with | some (.ok x, ds') => (match t x env with | some env' => some (.nx env', ds') | none => none) | some (.exc e, ds') => some (.ex e env, ds') | none => none) := by
  unfold mAsg exS
  rcases a env ds with _ | ⟨_ | _, _⟩ <;> rfl
@[simp] theorem mApp_ev (i : Nat) (a : ME PyData) : mApp i a env ds = (match env[i]? with | some (.l xs) => (match a env ds with | some (.ok x, ds') => (if decide (xs.length < sizeLine) then some (.nx (env.set i (.l (xs ++ [x]))), ds') else none) | some (.exc e, ds') => some (.ex e env, ds') | none => none) | _ => none) := by
  unfold mApp onL
  rcases env[i]? with _ | (_ | _ | _ | _ | _ | _)
  any_goals rfl
  dsimp only
  rw [exS_ev]
  rcases a env ds with _ | ⟨_ | _, _⟩ <;> rfl
@[simp] theorem tName_ev (i : Nat) (d : PyData) : tName i d env = put i (.d d) env := rfl
@[simp] theorem tTup_ev (n : Nat) (ts : Tgs) (xs : List PyData) : tTup n ts (.tuple xs) env = if xs.length = n then ts xs env else none := rfl
@[simp] theorem tNilT_ev : tNilT [] env = some env := rfl
@[simp] theorem tConsT_ev (t : Tg) (ts : Tgs) (x : PyData) (r : List PyData) : tConsT t ts (x :: r) env = (t x env).bind (ts r) := rfl
/-! evaluated step by step -/
section
variable {ds1 ds2 : DS} {x y z : PyData} {a b : ME PyData}
theorem gOp {f : PyData → PyData → Option PyData} (ha : a env ds = some (.ok x, ds1)) (hb : b env ds1 = some (.ok y, ds2)) (hf : f x y = some z) : mOp f a b env ds = some (.ok z, ds2) := by rw [mOp_ev, ha, rb_ok, hb, rb_ok, hf]; rfl
theorem gUn {f : PyData → Option PyData} (ha : a env ds = some (.ok x, ds1)) (hf : f x = some z) : mUn f a env ds = some (.ok z, ds1) := by rw [mUn_ev, ha, rb_ok, hf]; rfl
theorem gUnF {f : PyData → Option (List PyData)} {zs : List PyData} (ha : a env ds = some (.ok x, ds1)) (hf : f x = some zs) : mUnF f a env ds = some (.ok zs, ds1) := by rw [mUnF_ev, ha, rb_ok, hf]; rfl
theorem gF {m : ME (List PyData)} {xs : List PyData} (ha : m env ds = some (.ok xs, ds1)) : mF m env ds = some (.ok (.list xs), ds1) := by rw [mF_ev, ha]; rfl
theorem gTst {k : Bool} (ha : a env ds = some (.ok (.bool k), ds1)) : mTst a env ds = some (.ok k, ds1) := by rw [mTst_ev, ha]; rfl
theorem gNot {m : ME Bool} {k : Bool} (ha : m env ds = some (.ok k, ds1)) : mNot m env ds = some (.ok (!k), ds1) := by rw [mNot_ev, ha]; rfl
theorem gOr {m m' : ME Bool} {k k' : Bool} (ha : m env ds = some (.ok k, ds1)) (hb : m' env ds1 = some (.ok k', ds1)) : mOr m m' env ds = some (.ok (k || k'), ds1) := by
  rw [mOr_ev, ha, rb_ok]
  cases k
  · exact hb
  · rfl
theorem gAnd {m m' : ME Bool} {k k' : Bool} (ha : m env ds = some (.ok k, ds1)) (hb : m' env ds1 = some (.ok k', ds1)) : mAnd m m' env ds = some (.ok (k && k'), ds1) := by
  rw [mAnd_ev, ha, rb_ok]
  cases k
  · rfl
  · exact hb
theorem gAndV {k k' : Bool} (ha : a env ds = some (.ok (.bool k), ds1)) (hb : b env ds1 = some (.ok (.bool k'), ds1)) : mAndV a b env ds = some (.ok (.bool (k && k')), ds1) := by
  rw [mAndV_ev, ha, rb_ok]
  cases k
  · rfl
  · exact hb
theorem gOrV {k k' : Bool} (ha : a env ds = some (.ok (.bool k), ds1)) (hb : b env ds1 = some (.ok (.bool k'), ds1)) : mOrV a b env ds = some (.ok (.bool (k || k')), ds1) := by
  rw [mOrV_ev, ha, rb_ok]
  cases k
  · exact hb
  · rfl
theorem gChain {c : ME PyData} {f f' : PyData → PyData → Option PyData} {u : PyData} {k k' : Bool} (ha : a env ds = some (.ok x, ds)) (hb : b env ds = some (.ok y, ds)) (hf : f x y = some (.bool k)) (hc : c env ds = some (.ok u, ds)) (hf' : f' y u = some (.bool k')) : mChain f f' a b c env ds = some (.ok (.bool (k && k')), ds) := by
  rw [mChain_ev, ha, rb_ok, hb, rb_ok, hf, lift_ok, rb_ok]
  cases k
  · rfl
  · dsimp only
    rw [hc, rb_ok, hf']
    rfl
theorem gCons {r : ME (List PyData)} {xs : List PyData} (ha : a env ds = some (.ok x, ds1)) (hr : r env ds1 = some (.ok xs, ds2)) : mCons a r env ds = some (.ok (x :: xs), ds2) := by rw [mCons_ev, ha, rb_ok, hr]; rfl
theorem gTup {r : ME (List PyData)} {xs : List PyData} (ha : r env ds = some (.ok xs, ds1)) (hs : short xs.length = true) : mTup r env ds = some (.ok (.tuple xs), ds1) := by rw [mTup_ev, ha, rb_ok, hs]; rfl
theorem gLst {r : ME (List PyData)} {xs : List PyData} (ha : r env ds = some (.ok xs, ds1)) (hs : short xs.length = true) : mLst r env ds = some (.ok xs, ds1) := by rw [mLst_ev, ha, rb_ok, hs]; rfl
theorem gItems {xs : List PyData} (ha : a env ds = some (.ok x, ds1)) (hx : itemsOf x = some xs) : mItems a env ds = some (.ok xs, ds1) := by rw [mItems_ev, ha, rb_ok, hx]; rfl
theorem gCall {f : FS} {n : Nat} {r : ME (List Sl)} {args : List Sl} (ha : r env ds = some (.ok args, ds1)) (hn : args.length = n) {o : Rz PyData} (hf : f args ds1 = o) : mCall (chk n f) r env ds = o := by rw [mCall_ev, ha, rb_ok, chk_ev, if_pos hn, hf]
theorem gAx {r : ME (List Sl)} {xs : List Sl} (ha : a env ds = some (.ok x, ds1)) (hr : r env ds1 = some (.ok xs, ds2)) : axD a r env ds = some (.ok (.d x :: xs), ds2) := by rw [axD_ev, ha, rb_ok, hr]; rfl
theorem gSet {i : Nat} (ha : a env ds = some (.ok x, ds1)) (hp : put i (.d x) env = some env') : mSet i a env ds = some (.nx env', ds1) := by rw [mSet_ev, ha]; dsimp only; rw [hp]
theorem gSetL {i : Nat} {m : ME (List PyData)} {xs : List PyData} (ha : m env ds = some (.ok xs, ds1)) (hp : put i (.l xs) env = some env') : mSetL i m env ds = some (.nx env', ds1) := by rw [mSetL_ev, ha]; dsimp only; rw [hp]
theorem gDrop (ha : a env ds = some (.ok x, ds1)) : mDrop a env ds = some (.nx env, ds1) := by rw [mDrop_ev, ha]
theorem gRet (ha : a env ds = some (.ok x, ds1)) : mRet a env ds = some (.rt x, ds1) := by rw [mRet_ev, ha]
theorem gIfS {c : ME Bool} {m m' : MS} {k : Bool} (hc : c env ds = some (.ok k, ds1)) : mIfS c m m' env ds = (if k then m else m') env ds1 := by rw [mIfS_ev, hc]
theorem gIfT {c : ME Bool} {m m' : MS} (hc : c env ds = some (.ok true, ds1)) : mIfS c m m' env ds = m env ds1 := by rw [mIfS_ev, hc]; rfl
theorem gIfF {c : ME Bool} {m m' : MS} (hc : c env ds = some (.ok false, ds1)) : mIfS c m m' env ds = m' env ds1 := by rw [mIfS_ev, hc]; rfl
theorem gIf {γ : Type} {c : ME Bool} {m m' : ME γ} {k : Bool} (hc : c env ds = some (.ok k, ds1)) : mIf c m m' env ds = (if k then m else m') env ds1 := by rw [mIf_ev, hc]; rfl
theorem gSeq {m m' : MS} {o : Option (Fl × DS)} (h : m env ds = some (.nx env', ds1)) (h' : m' env' ds1 = o) : mSeq m m' env ds = o := by rw [mSeq_nx h, h']
theorem gFor {mi : ME (List PyData)} {t : Tg} {body : MS} {xs : List PyData} {o : Option (Fl × DS)} (hi : mi env ds = some (.ok xs, ds1)) (h : forGo t body xs env ds1 = o) : mFor mi t body env ds = o := by
  unfold mFor
  rw [exS_ev, hi]
  exact h
theorem gRunRt {nN np : Nat} {fr : Bool} {m : MS} {args : List Sl} (h : m (args ++ List.replicate (nN - np) .un) ds = some (.rt x, ds1)) : runB nN np fr m args ds = some (.ok x, ds1) := by unfold runB; rw [h]
theorem gRunNx {nN np : Nat} {m : MS} {args : List Sl} (h : m (args ++ List.replicate (nN - np) .un) ds = some (.nx env', ds1)) : runB nN np false m args ds = some (.ok .none, ds1) := by unfold runB; rw [h]; rfl
theorem gRunEx {nN np : Nat} {fr : Bool} {m : MS} {args : List Sl} {e : Exn} (h : m (args ++ List.replicate (nN - np) .un) ds = some (.ex e env', ds1)) : runB nN np fr m args ds = some (.exc e, ds1) := by unfold runB; rw [h]
theorem gApp {i : Nat} {xs : List PyData} (hs : env[i]? = some (.l xs)) (ha : a env ds = some (.ok x, ds1)) (hl : xs.length < 16777216) : mApp i a env ds = some (.nx (env.set i (.l (xs ++ [x]))), ds1) := by
  rw [mApp_ev, hs]
  dsimp only
  rw [ha]
  dsimp only
  rw [show decide (xs.length < sizeLine) = true from decide_eq_true (by rw [sizeLine_eq]; exact hl), if_pos rfl]
theorem gAsg {t : Tg} (ha : a env ds = some (.ok x, ds1)) (ht : t x env = some env') : mAsg t a env ds = some (.nx env', ds1) := by rw [mAsg_ev, ha]; dsimp only; rw [ht]
end
theorem short_of {n : Nat} (h : n ≤ 16777216) : short n = true := decide_eq_true (by rw [sizeLine_eq]; exact h)
theorem lt_line {n : Nat} (h : n < 16777216) : decide (n < sizeLine) = true := decide_eq_true (by rw [sizeLine_eq]; exact h)
/-! the walks -/
theorem compGo_ev {γ : Type} {e : γ → PyData} {t : Tg} {c : ME Bool} {elt : ME PyData} {p : γ → Bool} {g : γ → PyData} : ∀ (xs : List γ) (acc : List PyData), (∀ x ∈ xs, ∃ env1, t (e x) env = some env1 ∧ c env1 ds = some (.ok (p x), ds) ∧ (p x = true → elt env1 ds = some (.ok (g x), ds))) → acc.length + xs.length ≤ 16777216 →
    compGo t c elt env (xs.map e) ds acc = some (acc ++ (xs.filter p).map g, ds)
  | [], acc, _, _ => by show some (acc, ds) = _; rw [List.filter_nil, List.map_nil, List.append_nil]
  | x :: r, acc, h, hl => by
    obtain ⟨env1, h1, h2, h3⟩ := h x List.mem_cons_self
    rw [List.length_cons] at hl
    show (match t (e x) env with | none => none | some env1 => _) = _
    rw [h1]
    dsimp only
    rw [h2]
    cases hp : p x with
    | true =>
      dsimp only
      rw [h3 hp]
      dsimp only
      rw [lt_line (by omega), if_pos rfl, compGo_ev r (acc ++ [g x]) (fun y hy => h y (List.mem_cons_of_mem _ hy)) (by rw [List.length_append, List.length_singleton]; omega), List.filter_cons, if_pos hp, List.map_cons, List.append_assoc]
      rfl
    | false =>
      dsimp only
      rw [compGo_ev r acc (fun y hy => h y (List.mem_cons_of_mem _ hy)) (by omega), List.filter_cons, if_neg (by rw [hp]; exact Bool.false_ne_true)]
theorem comp_ev {γ : Type} {e : γ → PyData} {xs : List γ} {vs : List Nat} {mi : ME (List PyData)} {t : Tg} {c : ME Bool} {elt : ME PyData} {env1 : Ev} (p : γ → Bool) (g : γ → PyData) (hi : mi env ds = some (.ok (xs.map e), ds)) (hw : wipeE env vs = some env1)
    (h : ∀ x ∈ xs, ∃ env2, t (e x) env1 = some env2 ∧ c env2 ds = some (.ok (p x), ds) ∧ (p x = true → elt env2 ds = some (.ok (g x), ds))) (hl : xs.length ≤ 16777216) : mComp vs mi t c elt env ds = some (.ok ((xs.filter p).map g), ds) := by
  unfold mComp
  rw [mbind_ev, hi, rb_ok, hw]
  dsimp only
  rw [compGo_ev xs [] h (by rw [List.length_nil]; omega)]
  rfl
theorem comp2Go_ev {γ δ : Type} {e : γ → PyData} {e' : δ → PyData} {t : Tg} {c : ME Bool} {mi : ME (List PyData)} {vs1 : List Nat} {t1 : Tg} {c1 : ME Bool} {elt : ME PyData} {ys : γ → List δ} {g : γ → δ → PyData} {b : Nat} : ∀ (xs : List γ) (acc : List PyData),
    (∀ x ∈ xs, (ys x).length ≤ b ∧ ∃ env1 env2, t (e x) env = some env1 ∧ c env1 ds = some (.ok true, ds) ∧ mi env1 ds = some (.ok ((ys x).map e'), ds) ∧ wipeE env1 vs1 = some env2 ∧ ∀ y ∈ ys x, ∃ env3, t1 (e' y) env2 = some env3 ∧ c1 env3 ds = some (.ok true, ds) ∧ elt env3 ds = some (.ok (g x y), ds)) → acc.length + xs.length * b ≤ 16777216 →
    comp2Go t c mi vs1 t1 c1 elt env (xs.map e) ds acc = some (acc ++ xs.flatMap (fun x => (ys x).map (g x)), ds)
  | [], acc, _, _ => by show some (acc, ds) = _; rw [List.flatMap_nil, List.append_nil]
  | x :: r, acc, h, hl => by
    obtain ⟨hb, env1, env2, h1, h2, h3, h4, h5⟩ := h x List.mem_cons_self
    rw [List.length_cons, Nat.succ_mul] at hl
    show (match t (e x) env with | none => none | some env1 => _) = _
    rw [h1]
    dsimp only
    rw [h2]
    dsimp only
    rw [h3]
    dsimp only
    rw [h4]
    dsimp only
    rw [compGo_ev (p := fun _ => true) (g := g x) (ys x) acc (fun y hy => by obtain ⟨env3, q1, q2, q3⟩ := h5 y hy; exact ⟨env3, q1, q2, fun _ => q3⟩) (by omega)]
    dsimp only
    have hf : (ys x).filter (fun _ => true) = ys x := List.filter_eq_self.mpr fun _ _ => rfl
    rw [hf, comp2Go_ev r _ (fun y hy => h y (List.mem_cons_of_mem _ hy)) (by rw [List.length_append, List.length_map]; omega), List.flatMap_cons, List.append_assoc]
theorem comp2_ev {γ δ : Type} {e : γ → PyData} {e' : δ → PyData} {xs : List γ} {vs : List Nat} {m0 mi : ME (List PyData)} {t : Tg} {c : ME Bool} {vs1 : List Nat} {t1 : Tg} {c1 : ME Bool} {elt : ME PyData} {env1 : Ev} (ys : γ → List δ) (g : γ → δ → PyData) (b : Nat) (hi : m0 env ds = some (.ok (xs.map e), ds)) (hw : wipeE env vs = some env1)
    (h : ∀ x ∈ xs, (ys x).length ≤ b ∧ ∃ env2 env3, t (e x) env1 = some env2 ∧ c env2 ds = some (.ok true, ds) ∧ mi env2 ds = some (.ok ((ys x).map e'), ds) ∧ wipeE env2 vs1 = some env3 ∧ ∀ y ∈ ys x, ∃ env4, t1 (e' y) env3 = some env4 ∧ c1 env4 ds = some (.ok true, ds) ∧ elt env4 ds = some (.ok (g x y), ds)) (hl : xs.length * b ≤ 16777216) :
    mComp2 vs m0 t c mi vs1 t1 c1 elt env ds = some (.ok (xs.flatMap fun x => (ys x).map (g x)), ds) := by
  unfold mComp2
  rw [mbind_ev, hi, rb_ok, hw]
  dsimp only
  rw [comp2Go_ev xs [] h (by rw [List.length_nil]; omega)]
  rfl
/-- a comprehension that draws: I holds between, each item is given what P tells -/
theorem compGo_draw {t : Tg} {elt : ME PyData} {I : DS → Prop} {P : PyData → PyData → Prop} : ∀ (items acc : List PyData) (ds : DS), (∀ x ∈ items, ∃ env1, t x env = some env1 ∧ ∀ ds, I ds → ∃ y ds', elt env1 ds = some (.ok y, ds') ∧ I ds' ∧ P x y) → I ds → acc.length + items.length ≤ 16777216 →
    ∃ ys ds', compGo t mYes elt env items ds acc = some (acc ++ ys, ds') ∧ I ds' ∧ Paired P items ys
  | [], acc, ds, _, hI, _ => ⟨[], ds, by rw [List.append_nil]; rfl, hI, .nil⟩
  | x :: r, acc, ds, h, hI, hl => by
    obtain ⟨env1, h1, h2⟩ := h x List.mem_cons_self
    obtain ⟨y, ds1, h3, h4, h5⟩ := h2 ds hI
    rw [List.length_cons] at hl
    obtain ⟨ys, ds', k1, k2, k3⟩ := compGo_draw r (acc ++ [y]) ds1 (fun z hz => h z (List.mem_cons_of_mem _ hz)) h4 (by rw [List.length_append, List.length_singleton]; omega)
    refine ⟨y :: ys, ds', ?_, k2, .cons h5 k3⟩
    show (match t x env with | none => none | some env1 => _) = _
    rw [h1]
    dsimp only
    rw [mYes_ev]
    dsimp only
    rw [h3]
    dsimp only
    rw [lt_line (by omega), if_pos rfl, k1, List.append_assoc]
    rfl
theorem comp_draw {items : List PyData} {vs : List Nat} {mi : ME (List PyData)} {t : Tg} {elt : ME PyData} {env1 : Ev} {I : DS → Prop} {P : PyData → PyData → Prop} (hi : mi env ds = some (.ok items, ds)) (hw : wipeE env vs = some env1)
    (h : ∀ x ∈ items, ∃ env2, t x env1 = some env2 ∧ ∀ ds, I ds → ∃ y ds', elt env2 ds = some (.ok y, ds') ∧ I ds' ∧ P x y) (hI : I ds) (hl : items.length ≤ 16777216) : ∃ ys ds', mComp vs mi t mYes elt env ds = some (.ok ys, ds') ∧ I ds' ∧ Paired P items ys := by
  obtain ⟨ys, ds', k1, k2, k3⟩ := compGo_draw items [] ds h hI (by rw [List.length_nil]; omega)
  refine ⟨ys, ds', ?_, k2, k3⟩
  unfold mComp
  rw [mbind_ev, hi, rb_ok, hw]
  dsimp only
  rw [k1]
  rfl
/-- for, by what holds ahead of each turn -/
theorem for_inv {t : Tg} {body : MS} {I : Nat → Ev → DS → Prop} : ∀ (items : List PyData) (k : Nat) (env : Ev) (ds : DS), (∀ (i : Nat) (x : PyData) (env : Ev) (ds : DS), items[i]? = some x → I (k + i) env ds → ∃ env1 env2 ds2, t x env = some env1 ∧ body env1 ds = some (.nx env2, ds2) ∧ I (k + i + 1) env2 ds2) → I k env ds →
    ∃ env' ds', forGo t body items env ds = some (.nx env', ds') ∧ I (k + items.length) env' ds'
  | [], k, env, ds, _, hI => ⟨env, ds, rfl, hI⟩
  | x :: r, k, env, ds, h, hI => by
    obtain ⟨env1, env2, ds2, h1, h2, h3⟩ := h 0 x env ds rfl hI
    obtain ⟨env', ds', k1, k2⟩ := for_inv (I := I) r (k + 1) env2 ds2 (fun i y e d hy hi => by
      have q := h (i + 1) y e d (by simpa using hy) (by rw [show k + (i + 1) = k + 1 + i by omega]; exact hi)
      rw [show k + (i + 1) + 1 = k + 1 + i + 1 by omega] at q
      exact q) h3
    refine ⟨env', ds', ?_, by rw [List.length_cons, show k + (r.length + 1) = k + 1 + r.length by omega]; exact k2⟩
    show (match t x env with | none => none | some env1 => _) = _
    rw [h1]
    dsimp only
    rw [h2]
    exact k1
/-- while, by a bound of the turns -/
theorem while_inv {c : ME Bool} {body : MS} {I : Nat → Ev → DS → Prop} {Post : Ev → DS → Prop} (h : ∀ (k : Nat) (env : Ev) (ds : DS), I k env ds → (∃ ds', c env ds = some (.ok false, ds') ∧ Post env ds') ∨ ∃ ds1 env2 ds2 j, c env ds = some (.ok true, ds1) ∧ body env ds1 = some (.nx env2, ds2) ∧ j < k ∧ I j env2 ds2) :
    ∀ (n k : Nat) (env : Ev) (ds : DS), k < n → I k env ds → ∃ env' ds', whileGo c body n env ds = some (.nx env', ds') ∧ Post env' ds'
  | 0, k, _, _, hk, _ => absurd hk (Nat.not_lt_zero _)
  | n + 1, k, env, ds, hk, hI => by
    rcases h k env ds hI with ⟨ds', h1, h2⟩ | ⟨ds1, env2, ds2, j, h1, h2, h3, h4⟩
    · exact ⟨env, ds', by show (match c env ds with | some (.ok true, ds1) => _ | some (.ok false, ds1) => _ | some (.exc x, ds1) => _ | none => _) = _; rw [h1], h2⟩
    · obtain ⟨env', ds', k1, k2⟩ := while_inv h n j env2 ds2 (by omega) h4
      refine ⟨env', ds', ?_, k2⟩
      show (match c env ds with | some (.ok true, ds1) => _ | some (.ok false, ds1) => _ | some (.exc x, ds1) => _ | none => _) = _
      rw [h1]
      dsimp only
      rw [h2]
      exact k1
end
end DL

/-! DL16: what repr shows: how long, of which signs; orders of ints. -/
namespace DL
open PySem PySem.Spec L2
open PyProof.Rows hiding St

theorem strOk_of (s : String) : PyData.strOk (Str.ofString s) = true := by
  rw [Str.ofString_eq_toList]
  unfold PyData.strOk
  rw [Array.all_eq_true_iff_forall_mem]
  intro c hc
  have hc : c ∈ s.toList.map Char.toNat := by simpa using hc
  obtain ⟨ch, _, rfl⟩ := List.mem_map.mp hc
  refine decide_eq_true ?_
  have h := ch.valid
  show ch.val.toNat < 1114112
  rcases h with h | h
  · exact Nat.lt_trans h (by decide)
  · exact h.2
theorem strOk_app {a b : Str} (ha : PyData.strOk a = true) (hb : PyData.strOk b = true) : PyData.strOk (a ++ b) = true := by
  unfold PyData.strOk at ha hb ⊢
  rw [Array.all_eq_true_iff_forall_mem] at ha hb ⊢
  intro c hc
  have hc : c ∈ a.cps ++ b.cps := hc
  rcases Array.mem_append.mp hc with h | h
  · exact ha c h
  · exact hb c h
theorem strOk_join : ∀ ts : List Str, (∀ t ∈ ts, PyData.strOk t = true) → PyData.strOk (Str.join ", " ts) = true
  | [], _ => by decide +kernel
  | [x], h => h x List.mem_cons_self
  | x :: y :: r, h => strOk_app (strOk_app (h x List.mem_cons_self) (strOk_of _)) (strOk_join (y :: r) fun t ht => h t (List.mem_cons_of_mem _ ht))
theorem strOk_from : ∀ (ts : List Str) (k : Nat) (acc : Str), PyData.strOk acc = true → (∀ t ∈ ts, PyData.strOk t = true) → PyData.strOk (textFrom k acc ts) = true
  | [], _, _, ha, _ => ha
  | t :: r, k, acc, ha, h => strOk_from r (k + 1) _ (strOk_app (strOk_app ha (strOk_of _)) (h t List.mem_cons_self)) fun u hu => h u (List.mem_cons_of_mem _ hu)
theorem len_join : ∀ ts : List Str, (Str.join ", " ts).length ≤ piled ts
  | [] => Nat.le_refl _
  | x :: r => by have := join_length_add (x :: r) (by simp); omega
theorem len_from : ∀ (ts : List Str) (k : Nat) (acc : Str), (textFrom k acc ts).length ≤ acc.length + piled ts
  | [], _, _ => Nat.le_refl _
  | t :: r, k, acc => by
    refine Nat.le_trans (len_from r (k + 1) _) ?_
    rw [strLen_append, strLen_append, piled_cons]
    have : (((if k > 0 then ", " else "" : String) : Str)).length ≤ 2 := by split <;> decide
    omega
mutual
def cost : PyData → Nat
  | .none => 4
  | .bool _ => 5
  | .int i => if 0 ≤ i ∧ i < 100 then 2 else 100000000
  | .str _ => 100000000
  | .list xs => costs xs + 4
  | .tuple xs => costs xs + 4
  | .dict _ => 100000000
def costs : List PyData → Nat
  | [] => 0
  | x :: r => cost x + 2 + costs r
end
structure Shows (d : PyData) : Prop where
  len : d.shown.length ≤ cost d
  ok : PyData.strOk d.shown = true
  sh : d.showable = true
  nd : d.hasDict = false
theorem small_text : ∀ n : Nat, n < 100 → (Str.ofString (toString (n : Int))).length ≤ 2 := by decide +kernel
mutual
theorem shows : ∀ d : PyData, cost d ≤ 10000000 → Shows d
  | .none, _ => ⟨by decide +kernel, by decide +kernel, rfl, rfl⟩
  | .bool true, _ => ⟨by decide +kernel, by decide +kernel, rfl, rfl⟩
  | .bool false, _ => ⟨by decide +kernel, by decide +kernel, rfl, rfl⟩
  | .int i, h => by
    have hc : 0 ≤ i ∧ i < 100 := by
      by_cases c : 0 ≤ i ∧ i < 100
      · exact c
      · have e : cost (.int i) = 100000000 := by
          show (if 0 ≤ i ∧ i < 100 then 2 else 100000000) = _
          rw [if_neg c]
        omega
    have e : cost (.int i) = 2 := by
      show (if 0 ≤ i ∧ i < 100 then 2 else 100000000) = _
      rw [if_pos hc]
    obtain ⟨n, rfl⟩ : ∃ n : Nat, i = (n : Int) := ⟨i.toNat, by omega⟩
    refine ⟨by rw [e]; exact small_text n (by omega), strOk_of _, ?_, rfl⟩
    show decide ((n : Int).natAbs.log2 < 1920) = true
    refine decide_eq_true ?_
    rw [Int.natAbs_natCast]
    have h0 : ∀ n : Nat, n < 100 → n.log2 < 1920 := by decide +kernel
    exact h0 n (by omega)
  | .str _, h => absurd h (by show ¬ 100000000 ≤ 10000000; decide)
  | .dict _, h => absurd h (by show ¬ 100000000 ≤ 10000000; decide)
  | .list xs, h => by
    have e : cost (.list xs) = costs xs + 4 := rfl
    obtain ⟨h1, h2, h3, h4⟩ := showsAll xs (by omega)
    refine ⟨?_, ?_, h3, h4⟩
    · show (textFrom 0 "[" (PyData.shownAll xs) ++ ("]" : Str)).length ≤ _
      have := len_from (PyData.shownAll xs) 0 "["
      have l1 : (("[" : String) : Str).length = 1 := rfl
      have l2 : (("]" : String) : Str).length = 1 := rfl
      rw [strLen_append, l2, e]
      omega
    · exact strOk_app (strOk_from _ _ _ (strOk_of _) h2) (strOk_of _)
  | .tuple xs, h => by
    have e : cost (.tuple xs) = costs xs + 4 := rfl
    obtain ⟨h1, h2, h3, h4⟩ := showsAll xs (by omega)
    refine ⟨?_, ?_, h3, h4⟩
    · show (("(" : Str) ++ Str.join ", " (PyData.shownAll xs) ++ (((if (PyData.shownAll xs).length == 1 then ",)" else ")" : String) : Str))).length ≤ _
      have := len_join (PyData.shownAll xs)
      have l1 : (("(" : String) : Str).length = 1 := rfl
      have l2 : (((if (PyData.shownAll xs).length == 1 then ",)" else ")" : String) : Str)).length ≤ 2 := by split <;> decide
      rw [strLen_append, strLen_append, l1, e]
      omega
    · exact strOk_app (strOk_app (strOk_of _) (strOk_join _ h2)) (strOk_of _)
theorem showsAll : ∀ xs : List PyData, costs xs ≤ 10000000 → piled (PyData.shownAll xs) ≤ costs xs ∧ (∀ t ∈ PyData.shownAll xs, PyData.strOk t = true) ∧ PyData.showableAll xs = true ∧ PyData.hasDictAll xs = false
  | [], _ => ⟨Nat.le_refl _, (fun _ h => nomatch h), rfl, rfl⟩
  | x :: r, h => by
    have e : costs (x :: r) = cost x + 2 + costs r := rfl
    obtain ⟨a1, a2, a3, a4⟩ := shows x (by omega)
    obtain ⟨b1, b2, b3, b4⟩ := showsAll r (by omega)
    refine ⟨?_, fun t ht => ?_, ?_, ?_⟩
    · show piled (x.shown :: PyData.shownAll r) ≤ _
      rw [piled_cons, e]
      omega
    · rcases List.mem_cons.mp (show t ∈ x.shown :: PyData.shownAll r from ht) with q | q
      · subst q; exact a2
      · exact b2 t q
    · show (x.showable && PyData.showableAll r) = true
      rw [a3, b3]; rfl
    · show (x.hasDict || PyData.hasDictAll r) = false
      rw [a4, b4]; rfl
end
/-- repr of small data -/
theorem fRepr_ok {d : PyData} (h1 : isSeq d = true) (h2 : cost d ≤ 10000000) (h3 : d.depth ≤ 60) : fRepr d = some (.str d.shown) ∧ SeqAt.shaped (.str d.shown) = true := by
  obtain ⟨a1, a2, a3, a4⟩ := shows d h2
  refine ⟨?_, ?_⟩
  · unfold fRepr
    rw [h1, a3, a4, decide_eq_true h3, show short d.shown.length = true from decide_eq_true (by rw [sizeLine_eq]; omega)]
    rfl
  · unfold SeqAt.shaped
    rw [show (PyData.str d.shown).canLay0 = true from a2]
    rfl
theorem eqv_str (x : Str) : PyData.eqv (.str x) (.str x) = true := beq_self_eq_true x
/-- how much lists of small data cost -/
theorem costs_le {k : Nat} : ∀ xs : List PyData, (∀ x ∈ xs, cost x ≤ k) → costs xs ≤ (k + 2) * xs.length
  | [], _ => Nat.zero_le _
  | x :: r, h => by
    have h1 := h x List.mem_cons_self
    have h2 := costs_le r fun y hy => h y (List.mem_cons_of_mem _ hy)
    rw [List.length_cons, Nat.mul_succ]
    show cost x + 2 + costs r ≤ _
    omega
theorem depthAll_le {k : Nat} : ∀ xs : List PyData, (∀ x ∈ xs, x.depth ≤ k) → PyData.depthAll xs ≤ k
  | [], _ => Nat.zero_le _
  | x :: r, h => by
    have h1 := h x List.mem_cons_self
    have h2 := depthAll_le r fun y hy => h y (List.mem_cons_of_mem _ hy)
    have e : PyData.depthAll (x :: r) = max x.depth (PyData.depthAll r) := by first | rfl | rw [PyData.depthAll]
    rw [e]
    exact Nat.max_le.mpr ⟨h1, h2⟩
theorem depth_tuple (xs : List PyData) : (PyData.tuple xs).depth = PyData.depthAll xs + 1 := by first | rfl | simp [PyData.depth] | (simp [PyData.depth]; omega)
theorem depth_list (xs : List PyData) : (PyData.list xs).depth = PyData.depthAll xs + 1 := by first | rfl | simp [PyData.depth] | (simp [PyData.depth]; omega)
/-! ### ints in order -/
def sortI (l : List Int) : List Int := sortB (fun a b => decide (a < b)) l
theorem insB_map {α β : Type} {lt : α → α → Bool} {lt' : β → β → Bool} (f : α → β) (h : ∀ a b, lt' (f a) (f b) = lt a b) (x : α) : ∀ l : List α, insB lt' (f x) (l.map f) = (insB lt x l).map f
  | [] => rfl
  | y :: r => by
    show (if lt' (f y) (f x) then f y :: insB lt' (f x) (r.map f) else f x :: f y :: r.map f) = (if lt y x then y :: insB lt x r else x :: y :: r).map f
    rw [h, insB_map f h x r]
    by_cases c : lt y x = true
    · rw [if_pos c, if_pos c]; rfl
    · rw [if_neg c, if_neg c]; rfl
theorem sortB_map {α β : Type} {lt : α → α → Bool} {lt' : β → β → Bool} (f : α → β) (h : ∀ a b, lt' (f a) (f b) = lt a b) : ∀ l : List α, sortB lt' (l.map f) = (sortB lt l).map f
  | [] => rfl
  | x :: r => by
    show insB lt' (f x) (sortB lt' (r.map f)) = _
    rw [sortB_map f h r, insB_map f h x]
    rfl
theorem sorts_ints (l : List Int) : sorts (l.map .int) = true := by
  unfold sorts
  rw [PySem.W.depth_ints, Bool.and_eq_true, Bool.and_eq_true, Bool.or_eq_true, Bool.or_eq_true]
  refine ⟨⟨List.all_eq_true.mpr fun d hd => List.all_eq_true.mpr fun e he => ?_, .inl (.inr (List.all_eq_true.mpr fun d hd => ?_))⟩, rfl⟩
  · obtain ⟨a, _, rfl⟩ := List.mem_map.mp hd
    obtain ⟨b, _, rfl⟩ := List.mem_map.mp he
    rfl
  · obtain ⟨a, _, rfl⟩ := List.mem_map.mp hd
    rfl
theorem fSort_ints (l : List Int) : fSort (.list (l.map .int)) = some ((sortI l).map .int) := by
  unfold fSort
  dsimp only
  rw [sorts_ints, if_pos rfl]
  exact congrArg some (sortB_map (lt := fun a b => decide (a < b)) PyData.int (fun a b => rfl) l)
theorem sortI_mem {l : List Int} {x : Int} : x ∈ sortI l ↔ x ∈ l := (sortB_perm l).mem_iff
theorem int_total : PySem.W.TotalLe (fun a b : Int => decide (a ≤ b)) where
  total a b := by rcases Int.le_total a b with h | h <;> simp [h]
  trans a b c h1 h2 := by
    have h1 := of_decide_eq_true h1
    have h2 := of_decide_eq_true h2
    exact decide_eq_true (Int.le_trans h1 h2)
theorem sortI_le (l : List Int) : (sortI l).Pairwise (· ≤ ·) := by
  have e : (fun a b : Int => !decide (b ≤ a)) = fun a b => decide (a < b) := by
    funext a b
    by_cases h : a < b
    · rw [decide_eq_true h, decide_eq_false (by omega)]; rfl
    · rw [decide_eq_false h, decide_eq_true (by omega)]; rfl
  have q := sortB_pair int_total l
  rw [e] at q
  exact q.imp fun h => of_decide_eq_true h
/-- sorted of ints each met once -/
theorem sortI_nodup {l : List Int} (h : l.Nodup) : sortI l = sortU l := by
  refine pair_one ?_ (sortU_pair l) fun k => by rw [sortI_mem, sortU_mem]
  have n : (sortI l).Nodup := (sortB_perm l).nodup_iff.mpr h
  exact (List.Pairwise.and (sortI_le l) n).imp fun ⟨a, b⟩ => by omega
theorem nodup_len : ∀ {l m : List Int}, l.Nodup → (∀ x ∈ l, x ∈ m) → l.length ≤ m.length
  | [], _, _, _ => Nat.zero_le _
  | x :: r, m, h, hs => by
    rw [List.nodup_cons] at h
    have hm := hs x List.mem_cons_self
    have h2 : ∀ y ∈ r, y ∈ m.erase x := fun y hy => (List.mem_erase_of_ne (fun e => h.1 (by rw [← e]; exact hy))).mpr (hs y (List.mem_cons_of_mem _ hy))
    have q := nodup_len h.2 h2
    rw [List.length_erase_of_mem hm] at q
    have := List.length_pos_of_mem hm
    rw [List.length_cons]
    omega
end DL

/-! DL17: one's own dicts. -/
namespace DL
open PySem PySem.Spec L2
open PyProof.Rows hiding St

section
variable {K : PySem.W.Frag} {Γ : Gm} {σ : St} {H H1 : Hp} {env env' : Ev} {ds ds1 : DS}
/-- a slot is stored with a new dict -/
theorem Rel.set_dc (R : Rel K Γ σ H env ds) (e : Ext Γ H H1) (d : DrR K Γ H1 ds1) {i : Nat} {p : Addr} {us : List V} {t : Bool} {xs : List (List Int × PyData)} (hf : H p = none) (hH : H1 p = some (dcObj t (xs.map (·.1)) us)) (hl : xs.length ≤ 1000000) (hA : DfAll K H1 (gdx Γ σ env p) us (xs.map (·.2))) (hp : put i (.dc t xs) env = some env') :
    Rel K Γ (σ.set i (some (.ref p))) H1 env' ds1 := by
  obtain ⟨h1, h2, rfl⟩ := put_some hp
  have h3 : i < σ.length := by rw [R.len]; exact h2
  have R1 := R.go e d
  have np := R.new_gd hf
  -- what owns afterwards: p, or another slot
  have ow : ∀ a, owned (σ.set i (some (.ref p))) (env.set i (.dc t xs)) a → a = p ∨ owned σ env a := by
    rintro a ⟨j, y, q1, q2, q3⟩
    by_cases z : i = j
    · subst z
      rw [List.getElem?_set_self h3] at q3
      cases q3
      exact .inl rfl
    · rw [List.getElem?_set_ne z] at q1 q3
      exact .inr ⟨j, y, q1, q2, q3⟩
  have gx : ∀ a, gd Γ σ env a → a ≠ p → gd Γ (σ.set i (some (.ref p))) (env.set i (.dc t xs)) a := fun a q n => ⟨q.1, fun z => (ow a z).elim n q.2.1, q.2.2⟩
  -- what was told at H keeps away from p
  have keep : ∀ {v : Option (Option V)} {y : Sl}, SlR K Γ H (gd Γ σ env) v y → SlR K Γ H1 (gd Γ (σ.set i (some (.ref p))) (env.set i (.dc t xs))) v y := by
    intro v y q
    have m : ∀ {u : V} {x : PyData}, Df K H (gd Γ σ env) u x → Df K H1 (gd Γ (σ.set i (some (.ref p))) (env.set i (.dc t xs))) u x := fun q =>
      (q.avoid hf).mono (fun a u z k => ⟨gx a z.1 z.2, e a _ z.1.2.2 k⟩) fun _ _ z => tup_ext e R.draw z
    have ms : ∀ {u : List V} {x : List PyData}, DfAll K H (gd Γ σ env) u x → DfAll K H1 (gd Γ (σ.set i (some (.ref p))) (env.set i (.dc t xs))) u x := fun q =>
      (q.avoid hf).mono (fun a u z k => ⟨gx a z.1 z.2, e a _ z.1.2.2 k⟩) fun _ _ z => tup_ext e R.draw z
    cases y with
    | un => trivial
    | d x =>
      obtain ⟨u, q1, q2⟩ := q
      exact ⟨u, q1, m q2⟩
    | l x =>
      obtain ⟨a, u, q1, q2, q3, q4, q5, q6⟩ := q
      exact ⟨a, u, q1, e a _ q6 q2, ms q3, q4, q5, q6⟩
    | lk x =>
      obtain ⟨a, u, q1, q2, q3, q4, q5, q6⟩ := q
      exact ⟨a, u, q1, e a _ q6 q2, ms q3, q4, q5, q6⟩
    | dc t0 x =>
      obtain ⟨a, u, q1, q2, q3, q4, q5, q6⟩ := q
      exact ⟨a, u, q1, e a _ q6 q2, ms q3, q4, q5, q6⟩
    | drw => exact q
    | scr ns =>
      obtain ⟨a, q1, q2, q3⟩ := q
      exact ⟨a, q1, scr_ext e R.draw q2, q3⟩
  have free : Γ.H0 p = none := by
    cases q : Γ.H0 p with
    | none => rfl
    | some o =>
      have := R.ext p o np.2.2 q
      rw [hf] at this
      cases this
  -- an owning slot stands elsewhere
  have apart : ∀ (j : Nat) (y : Sl), env[j]? = some y → y.own = true → σ[j]? ≠ some (some (.ref p)) := fun j y hy oy z => by
    obtain ⟨us', q, _⟩ := R.own_at ⟨j, y, hy, oy, z⟩
    rw [hf] at q
    cases q
  refine ⟨by rw [List.length_set, List.length_set]; exact R.len, fun j y hy => ?_, fun j k y z hjk hj hk oj ok => ?_, R.okf, R1.ext, d, fun q eq z => ?_, fun q hq => ?_⟩
  · by_cases z : i = j
    · subst z
      rw [List.getElem?_set_self h2] at hy
      cases hy
      rw [List.getElem?_set_self h3]
      exact ⟨p, us, rfl, hH, hA.mono (fun a u q k => ⟨gx a q.1 q.2, k⟩) (fun _ _ q => q), hl, free, np.2.2⟩
    · rw [List.getElem?_set_ne z] at hy ⊢
      exact keep (R.slot j y hy)
  · by_cases n1 : i = j
    · subst n1
      have n2 : i ≠ k := hjk
      rw [List.getElem?_set_ne n2] at hk ⊢
      rw [List.getElem?_set_self h3]
      exact fun z' => apart k z hk ok z'.symm
    · rw [List.getElem?_set_ne n1] at hj ⊢
      by_cases n2 : i = k
      · subst n2
        rw [List.getElem?_set_self h3]
        exact fun z' => apart j y hj oj z'
      · rw [List.getElem?_set_ne n2] at hk ⊢
        exact R.sep j k y z hjk hj hk oj ok
  · rcases ow _ z with z | z
    · -- the cells' list was there at H
      have dd := R.draw
      unfold DrR at dd
      rw [eq] at dd
      cases hds : ds with
      | none => rw [hds] at dd; exact dd
      | some s =>
        rw [hds] at dd
        have := dd.2.1
        rw [z, hf] at this
        cases this
    · exact R.drc q eq z
  · obtain ⟨ys, e1, e2⟩ := R.lkd q hq
    have n1 : i ≠ q.1 := fun z => by
      subst z
      exact h1 ys e1
    exact ⟨ys, by rw [List.getElem?_set_ne n1]; exact e1, by rw [List.getElem?_set_ne n1]; exact e2⟩
/-- one's own dict is changed -/
theorem Rel.upd_dc (R : Rel K Γ σ H env ds) {i : Nat} {a : Addr} {us' : List V} {t : Bool} {xs xs' : List (List Int × PyData)} (hs : env[i]? = some (.dc t xs)) (hv : σ[i]? = some (some (.ref a))) (hl : xs'.length ≤ 1000000) (hA : DfAll K H (gd Γ σ env) us' (xs'.map (·.2))) :
    Rel K Γ σ (upd H a (dcObj t (xs'.map (·.1)) us')) (env.set i (.dc t xs')) ds := by
  have q := R.slot i _ hs
  obtain ⟨b, us0, e1, e2, e3, e4, e5, e6⟩ := q
  rw [hv] at e1
  cases e1
  have h2 : i < env.length := (List.getElem?_eq_some_iff.mp hs).1
  have oa : owned σ env a := ⟨i, _, hs, rfl, hv⟩
  have ow : ∀ c, owned σ (env.set i (.dc t xs')) c ↔ owned σ env c := fun c => by
    constructor
    · rintro ⟨j, y, q1, q2, q3⟩
      by_cases z : i = j
      · subst z
        exact ⟨i, _, hs, rfl, q3⟩
      · rw [List.getElem?_set_ne z] at q1
        exact ⟨j, y, q1, q2, q3⟩
    · rintro ⟨j, y, q1, q2, q3⟩
      by_cases z : i = j
      · subst z
        exact ⟨i, .dc t xs', by rw [List.getElem?_set_self h2], rfl, q3⟩
      · exact ⟨j, y, by rw [List.getElem?_set_ne z]; exact q1, q2, q3⟩
  have gg : ∀ c, gd Γ σ env c → gd Γ σ (env.set i (.dc t xs')) c ∧ c ≠ a := fun c q => ⟨⟨q.1, fun z => q.2.1 ((ow c).mp z), q.2.2⟩, fun z => q.2.1 (by rw [z]; exact oa)⟩
  have tq : ∀ c u, H c = some (.tup u) → upd H a (dcObj t (xs'.map (·.1)) us') c = some (.tup u) := fun c u q => by
    rw [upd_ne (ne_of q e2 (by intro z; cases t <;> cases z))]; exact q
  have m : ∀ {u : V} {x : PyData}, Df K H (gd Γ σ env) u x → Df K (upd H a (dcObj t (xs'.map (·.1)) us')) (gd Γ σ (env.set i (.dc t xs'))) u x := fun q =>
    q.mono (fun c u z k => ⟨(gg c z).1, by rw [upd_ne (gg c z).2]; exact k⟩) tq
  have ms : ∀ {u : List V} {x : List PyData}, DfAll K H (gd Γ σ env) u x → DfAll K (upd H a (dcObj t (xs'.map (·.1)) us')) (gd Γ σ (env.set i (.dc t xs'))) u x := fun q =>
    q.mono (fun c u z k => ⟨(gg c z).1, by rw [upd_ne (gg c z).2]; exact k⟩) tq
  refine ⟨by rw [List.length_set]; exact R.len, fun j y hy => ?_, fun j k y z hjk hj hk oj ok => ?_, R.okf, fun c o n q => ?_, ?_, fun p e z => R.drc p e ((ow _).mp z), fun p hp => ?_⟩
  · by_cases z : i = j
    · subst z
      rw [List.getElem?_set_self h2] at hy
      cases hy
      exact ⟨a, us', hv, upd_same, ms hA, hl, e5, e6⟩
    · rw [List.getElem?_set_ne z] at hy
      have q := R.slot j y hy
      have ne : ∀ b, y.own = true → σ[j]? = some (some (.ref b)) → b ≠ a := fun b oy e w => R.sep i j _ y z hs hy rfl oy (by rw [hv, e, w])
      cases y with
      | un => trivial
      | d x =>
        obtain ⟨u, q1, q2⟩ := q
        exact ⟨u, q1, m q2⟩
      | l x =>
        obtain ⟨b, u, q1, q2, q3, q4⟩ := q
        exact ⟨b, u, q1, by rw [upd_ne (ne b rfl q1)]; exact q2, ms q3, q4⟩
      | lk x =>
        obtain ⟨b, u, q1, q2, q3, q4⟩ := q
        exact ⟨b, u, q1, by rw [upd_ne (ne b rfl q1)]; exact q2, ms q3, q4⟩
      | dc t0 x =>
        obtain ⟨b, u, q1, q2, q3, q4⟩ := q
        exact ⟨b, u, q1, by rw [upd_ne (ne b rfl q1)]; exact q2, ms q3, q4⟩
      | drw => exact q
      | scr ns =>
        obtain ⟨b, q1, q2, q3⟩ := q
        refine ⟨b, q1, ?_, q3⟩
        rcases q2 with ⟨o, q2⟩ | q2
        · refine .inl ⟨o, ?_⟩
          rw [upd_ne (ne_of q2 e2 (by intro z; cases t <;> cases z))]
          exact q2
        · exact .inr q2
  · have hj' : ∃ y', env[j]? = some y' ∧ y'.own = true := by
      by_cases z : i = j
      · subst z; exact ⟨_, hs, rfl⟩
      · rw [List.getElem?_set_ne z] at hj; exact ⟨y, hj, oj⟩
    have hk' : ∃ y', env[k]? = some y' ∧ y'.own = true := by
      by_cases z : i = k
      · subst z; exact ⟨_, hs, rfl⟩
      · rw [List.getElem?_set_ne z] at hk; exact ⟨_, hk, ok⟩
    obtain ⟨y1, q1, q2⟩ := hj'
    obtain ⟨y2, q3, q4⟩ := hk'
    exact R.sep j k y1 y2 hjk q1 q3 q2 q4
  · have w := R.ext c o n q
    have : c ≠ a := fun z => by rw [z, e5] at q; cases q
    rw [upd_ne this]
    exact w
  · have dd := R.draw
    unfold DrR at dd ⊢
    cases hdr : Γ.dr with
    | none =>
      rw [hdr] at dd
      cases ds with
      | none => trivial
      | some s => exact dd
    | some p =>
      rw [hdr] at dd
      cases ds with
      | none => exact dd
      | some s =>
        obtain ⟨d1, d2, d3⟩ := dd
        refine ⟨by rw [upd_ne fun z => e6 p hdr z.symm]; exact d1, ?_, d3⟩
        have : p.2 ≠ a := fun z => R.drc p hdr (by rw [z]; exact oa)
        rw [upd_ne this]
        exact d2
  · obtain ⟨ys, q1, q2⟩ := R.lkd p hp
    have n1 : i ≠ p.1 := fun z => by
      subst z
      rw [hs] at q1
      cases q1
    exact ⟨ys, by rw [List.getElem?_set_ne n1]; exact q1, q2⟩
end
/-! ### dicts as lists of pairs -/
def keyEq (t : Bool) (a b : List Int) : Bool := if t then a == b else a.headD 0 == b.headD 0
def dGet (t : Bool) (kvs : List (List Int × PyData)) (k : List Int) : Option PyData := (kvs.find? fun p => keyEq t p.1 k).map (·.2)
def dPut (t : Bool) (kvs : List (List Int × PyData)) (k : List Int) (x : PyData) : List (List Int × PyData) := if kvs.any (fun p => keyEq t p.1 k) then kvs.map (fun p => if keyEq t p.1 k then (p.1, x) else p) else kvs ++ [(k, x)]
def keyOf (t : Bool) (d : PyData) : Option (List Int) := match t, d with
  | true, .tuple ds => intsOf ds
  | false, .int n => some [n]
  | _, _ => none
section
variable {K : PySem.W.Frag} {H : Hp} {g : Addr → Prop} {κ : Type} [DecidableEq κ] {f : List Int → κ} {t : Bool}
theorem zip_get (hf : ∀ a b, decide (f a = f b) = keyEq t a b) (k : List Int) : ∀ (kvs : List (List Int × PyData)) (us : List V), DfAll K H g us (kvs.map (·.2)) → (L2.valV (((kvs.map (·.1)).map f).zip us) (f k) = none ∧ dGet t kvs k = none) ∨ ∃ v x, L2.valV (((kvs.map (·.1)).map f).zip us) (f k) = some v ∧ dGet t kvs k = some x ∧ Df K H g v x
  | [], _, .nil => .inl ⟨rfl, rfl⟩
  | p :: r, _, .cons (v := v) (vs := vs) h tl => by
    have e := hf p.1 k
    unfold dGet
    rw [List.find?_cons]
    by_cases c : f p.1 = f k
    · rw [decide_eq_true c] at e
      rw [← e]
      exact .inr ⟨v, p.2, L2.valV_pos (p := (f p.1, v)) c, rfl, h⟩
    · rw [decide_eq_false c] at e
      rw [← e]
      have q : L2.valV ((((p :: r).map (·.1)).map f).zip (v :: vs)) (f k) = L2.valV (((r.map (·.1)).map f).zip vs) (f k) := L2.valV_neg (p := (f p.1, v)) c
      rw [q]
      exact zip_get hf k r vs tl
theorem zip_rep (hf : ∀ a b, decide (f a = f b) = keyEq t a b) (k : List Int) {v : V} {x : PyData} (hv : Df K H g v x) : ∀ (kvs : List (List Int × PyData)) (us : List V), DfAll K H g us (kvs.map (·.2)) →
    ∃ us', (((kvs.map (·.1)).map f).zip us).map (fun kv => if kv.1 = f k then (kv.1, v) else kv) = (((kvs.map fun p => if keyEq t p.1 k then (p.1, x) else p).map (·.1)).map f).zip us' ∧ DfAll K H g us' ((kvs.map fun p => if keyEq t p.1 k then (p.1, x) else p).map (·.2))
  | [], _, .nil => ⟨[], rfl, .nil⟩
  | p :: r, _, .cons (v := w) (vs := vs) h tl => by
    obtain ⟨us', e1, e2⟩ := zip_rep hf k hv r vs tl
    have e := hf p.1 k
    by_cases c : f p.1 = f k
    · rw [decide_eq_true c] at e
      refine ⟨v :: us', ?_, ?_⟩
      · show (if f p.1 = f k then (f p.1, v) else (f p.1, w)) :: List.map _ _ = ((f (if keyEq t p.1 k then (p.1, x) else p).1), v) :: _
        rw [if_pos c, ← e, if_pos rfl]
        exact congrArg _ e1
      · show DfAll K H g _ ((if keyEq t p.1 k then (p.1, x) else p).2 :: _)
        rw [← e, if_pos rfl]
        exact .cons hv e2
    · rw [decide_eq_false c] at e
      refine ⟨w :: us', ?_, ?_⟩
      · show (if f p.1 = f k then (f p.1, v) else (f p.1, w)) :: List.map _ _ = ((f (if keyEq t p.1 k then (p.1, x) else p).1), w) :: _
        rw [if_neg c, ← e, if_neg Bool.false_ne_true]
        exact congrArg _ e1
      · show DfAll K H g _ ((if keyEq t p.1 k then (p.1, x) else p).2 :: _)
        rw [← e, if_neg Bool.false_ne_true]
        exact .cons h e2
theorem zip_any (hf : ∀ a b, decide (f a = f b) = keyEq t a b) (k : List Int) : ∀ (kvs : List (List Int × PyData)) (us : List V), us.length = kvs.length → ((((kvs.map (·.1)).map f).zip us).any fun kv => decide (kv.1 = f k)) = kvs.any fun p => keyEq t p.1 k
  | [], _, _ => rfl
  | p :: r, [], h => by cases h
  | p :: r, v :: vs, h => by
    show (decide (f p.1 = f k) || _) = (keyEq t p.1 k || _)
    rw [hf]
    exact congrArg _ (zip_any hf k r vs (by simpa using h))
theorem zip_put (hf : ∀ a b, decide (f a = f b) = keyEq t a b) (k : List Int) {v : V} {x : PyData} (hv : Df K H g v x) (kvs : List (List Int × PyData)) (us : List V) (h : DfAll K H g us (kvs.map (·.2))) :
    ∃ us', L2.putK (((kvs.map (·.1)).map f).zip us) (f k) v = (((dPut t kvs k x).map (·.1)).map f).zip us' ∧ DfAll K H g us' ((dPut t kvs k x).map (·.2)) := by
  have ln : us.length = kvs.length := by rw [h.length, List.length_map]
  unfold L2.putK dPut
  rw [zip_any hf k kvs us ln]
  by_cases c : (kvs.any fun p => keyEq t p.1 k) = true
  · rw [if_pos c, if_pos c]
    exact zip_rep hf k hv kvs us h
  · rw [if_neg c, if_neg c]
    refine ⟨us ++ [v], ?_, ?_⟩
    · rw [List.map_append, List.map_append, List.zip_append (by rw [List.length_map, List.length_map, ln])]
      rfl
    · rw [List.map_append]
      exact h.append (.cons hv .nil)
end
theorem inlK (a b : List Int) : decide (a.map (Sum.inl : Int → Key) = b.map Sum.inl) = keyEq true a b := by
  show _ = (a == b)
  by_cases h : a = b
  · subst h; simp
  · rw [beq_eq_false_iff_ne.mpr h]
    refine decide_eq_false fun q => h ?_
    exact (List.map_inj_right (fun x y z => by cases z; rfl)).mp q
theorem headK (a b : List Int) : decide ((Sum.inl (a.headD 0) : Key) = Sum.inl (b.headD 0)) = keyEq false a b := by
  show _ = (a.headD 0 == b.headD 0)
  by_cases h : a.headD 0 = b.headD 0
  · rw [h]; simp
  · rw [beq_eq_false_iff_ne.mpr h]
    exact decide_eq_false fun q => h (Sum.inl.inj q)
section
variable {K : PySem.W.Frag} {H : Hp} {g : Addr → Prop} {t : Bool} {a : Addr} {kvs : List (List Int × PyData)} {us : List V} {y : V} {d : PyData} {k : List Int}
/-- a key by its value -/
theorem key_v (hy : Df K H g y d) (hk : keyOf t d = some k) : (t = true ∧ ∃ b, y = .ref b ∧ H b = some (.tup ((k.map (Sum.inl : Int → Key)).map kV))) ∨ (t = false ∧ y = kV (.inl (k.headD 0))) := by
  unfold keyOf at hk
  split at hk
  · cases hy with
    | tup h1 h2 h3 =>
      obtain rfl := intsOf_eq hk
      have e := h3.ints_inv
      subst e
      refine .inl ⟨rfl, _, rfl, ?_⟩
      rw [h1, List.map_map]
      rfl
  · cases hk
    cases hy
    exact .inr ⟨rfl, rfl⟩
  · cases hk
theorem dc_get (h : H a = some (dcObj t (kvs.map (·.1)) us)) (hA : DfAll K H g us (kvs.map (·.2))) (hy : Df K H g y d) (hk : keyOf t d = some k) : (DGet H a y none ∧ dGet t kvs k = none) ∨ ∃ v x, DGet H a y (some v) ∧ dGet t kvs k = some x ∧ Df K H g v x := by
  rcases key_v hy hk with ⟨rfl, b, rfl, hb⟩ | ⟨rfl, rfl⟩
  · have G := DGet.t (k := k.map Sum.inl) (show H a = some (.dT (((kvs.map (·.1)).map fun k => k.map Sum.inl).zip us)) from h) hb
    rcases zip_get (f := fun k => k.map (Sum.inl : Int → Key)) (t := true) inlK k kvs us hA with ⟨q1, q2⟩ | ⟨v, x, q1, q2, q3⟩
    · rw [q1] at G; exact .inl ⟨G, q2⟩
    · rw [q1] at G; exact .inr ⟨v, x, G, q2, q3⟩
  · have G := DGet.k (k := Sum.inl (k.headD 0)) (show H a = some (.dK (((kvs.map (·.1)).map fun k => Sum.inl (k.headD 0)).zip us)) from h)
    rcases zip_get (f := fun k => (Sum.inl (k.headD 0) : Key)) (t := false) headK k kvs us hA with ⟨q1, q2⟩ | ⟨v, x, q1, q2, q3⟩
    · rw [q1] at G; exact .inl ⟨G, q2⟩
    · rw [q1] at G; exact .inr ⟨v, x, G, q2, q3⟩
theorem dc_put {v : V} {x : PyData} (h : H a = some (dcObj t (kvs.map (·.1)) us)) (hA : DfAll K H g us (kvs.map (·.2))) (hy : Df K H g y d) (hk : keyOf t d = some k) (hv : Df K H g v x) (hl : kvs.length < 1000000) : ∃ us', DPut H a y v (upd H a (dcObj t ((dPut t kvs k x).map (·.1)) us')) ∧ DfAll K H g us' ((dPut t kvs k x).map (·.2)) := by
  have ln : us.length = kvs.length := by rw [hA.length, List.length_map]
  have sl := sizeLine_eq
  rcases key_v hy hk with ⟨rfl, b, rfl, hb⟩ | ⟨rfl, rfl⟩
  · obtain ⟨us', e1, e2⟩ := zip_put (f := fun k => k.map (Sum.inl : Int → Key)) (t := true) inlK k hv kvs us hA
    have P := DPut.t (k := k.map Sum.inl) (v := v) (show H a = some (.dT (((kvs.map (·.1)).map fun k => k.map Sum.inl).zip us)) from h) hb (by rw [List.length_zip, List.length_map, List.length_map, ln, Nat.min_self]; omega)
    rw [e1] at P
    exact ⟨us', P, e2⟩
  · obtain ⟨us', e1, e2⟩ := zip_put (f := fun k => (Sum.inl (k.headD 0) : Key)) (t := false) headK k hv kvs us hA
    have P := DPut.k (k := Sum.inl (k.headD 0)) (v := v) (show H a = some (.dK (((kvs.map (·.1)).map fun k => Sum.inl (k.headD 0)).zip us)) from h) (by rw [List.length_zip, List.length_map, List.length_map, ln, Nat.min_self]; omega)
    rw [e1] at P
    exact ⟨us', P, e2⟩
end
end DL

/-! DL18: dicts in the text: d[k], in, d.get, d[k] = v, displays. -/
namespace DL
open PySem PySem.Spec L2
open PyProof.Rows hiding St

/-! ### the meanings -/
def onD {α : Type} (i : Nat) (f : Bool → List (List Int × PyData) → ME α) : ME α := fun env ds => match env[i]? with
  | some (.dc t kvs) => f t kvs env ds
  | _ => none
/-- what stands under a key, if anything -/
def look (t : Bool) (kvs : List (List Int × PyData)) (d : PyData) : Option (Option PyData) := (keyOf t d).map (dGet t kvs)
def mDget (i : Nat) (k : ME PyData) : ME PyData := onD i fun t kvs => k.bind fun d => ME.lift ((look t kvs d).bind id)
def mDin (i : Nat) (k : ME PyData) : ME PyData := k.bind fun d => onD i fun t kvs => ME.lift ((look t kvs d).map fun o => .bool o.isSome)
def mDnot (i : Nat) (k : ME PyData) : ME PyData := k.bind fun d => onD i fun t kvs => ME.lift ((look t kvs d).map fun o => .bool (!o.isSome))
def mDget2 (i : Nat) (k x : ME PyData) : ME PyData := onD i fun t kvs => k.bind fun d => x.bind fun y => ME.lift ((look t kvs d).map fun o => o.getD y)
def mDput (i : Nat) (k x : ME PyData) : MS := exS x fun y env ds => match env[i]? with
  | some (.dc t kvs) => exS k (fun d env ds => match keyOf t d with
    | some z => if decide (kvs.length < 1000000) then some (.nx (env.set i (.dc t (dPut t kvs z y))), ds) else none
    | none => none) env ds
  | _ => none
abbrev DcL := List (List Int × PyData)
def mDempty : ME DcL := ME.pure []
def mDone (t : Bool) (k x : ME PyData) : ME DcL := k.bind fun d => x.bind fun y => ME.lift ((keyOf t d).map fun z => [(z, y)])
def mSetD (i : Nat) (t : Bool) (m : ME DcL) : MS := exS m fun kvs env ds => if decide (kvs.length ≤ 1000000) then match put i (.dc t kvs) env with
    | some env' => some (.nx env', ds)
    | none => none
  else none

section
variable {X : Cx} {C : Exs} {W : WX} {fr : Bool} {e e2 : Expr} {mk mx : ME PyData} {p pos pos' : Pos} {x : Str}
theorem dc_at {K : PySem.W.Frag} {Γ : Gm} {σ : St} {H H1 : Hp} {env : Ev} {ds ds1 : DS} (R : Rel K Γ σ H env ds) {i : Nat} {t : Bool} {kvs : DcL} (h : env[i]? = some (.dc t kvs)) (x1 : Ext Γ H H1) (d1 : DrR K Γ H1 ds1) : ∃ a us, σ[i]? = some (some (V.ref a)) ∧ H1 a = some (dcObj t (kvs.map (·.1)) us) ∧ DfAll K H1 (gd Γ σ env) us (kvs.map (·.2)) ∧ kvs.length ≤ 1000000 := by
  obtain ⟨a, us, q1, q2, q3, q4, _⟩ := (R.go x1 d1).slot i _ h
  exact ⟨a, us, q1, q2, q3, q4⟩
theorem look_rd {K : PySem.W.Frag} {H : Hp} {g : Addr → Prop} {t : Bool} {a : Addr} {kvs : DcL} {us : List V} {y : V} {d : PyData} {o : Option PyData} (h : H a = some (dcObj t (kvs.map (·.1)) us)) (hA : DfAll K H g us (kvs.map (·.2))) (hy : Df K H g y d) (hl : look t kvs d = some o) : ∃ w, DGet H a y w ∧ w.isSome = o.isSome ∧ ∀ x, o = some x → ∃ v, w = some v ∧ Df K H g v x := by
  obtain ⟨k, hk, rfl⟩ := Option.map_eq_some_iff.mp hl
  rcases dc_get h hA hy hk with ⟨G, q⟩ | ⟨v, x, G, q, hv⟩
  · rw [q]
    exact ⟨none, G, rfl, fun x z => by cases z⟩
  · rw [q]
    exact ⟨some v, G, rfl, fun x z => by cases z; exact ⟨v, rfl, hv⟩⟩
theorem se_dget (i : Nat) (hu : X.A.units + 65 < cLine) (hk : SE X C W e mk) (hN : X.N[i]? = some x := by rfl) (hv : Vis X.env.scope x := by first | exact Or.inl rfl | exact Or.inr (Or.inl rfl) | exact Or.inr (Or.inr rfl)) (hd : (x == ("__debug__" : Str)) = false := by decide) (hcd : (x == ("__classdict__" : Str)) = false := by decide)
    (hs : NoSl e := by exact fun _ _ => rfl) : SE X C W (.Subscript (.Name x p) e pos) (mDget i mk) :=
  PE.imp (pe_dget (by omega) (pe_var hN hv hd hcd) hk hs) fun σ H Q ⟨Γ, env, ds, R, h⟩ => by
    unfold mDget onD at h
    rcases q : env[i]? with _ | y
    · rw [q] at h; exact h.elim
    · rw [q] at h
      cases y with
      | dc t kvs =>
        obtain ⟨a, us, q1, _⟩ := dc_at R q Ext.refl R.draw
        refine ⟨_, q1, Γ, env, ds, R, (Aft.bind h).imp fun d ds1 H1 e1 d1 h y hy => ?_⟩
        obtain ⟨a', us', r1, r2, r3, _⟩ := dc_at R q e1 d1
        rw [q1] at r1
        cases r1
        obtain ⟨z, hz, h⟩ := lift_some h
        obtain ⟨o, ho, hz⟩ := Option.bind_eq_some_iff.mp hz
        obtain ⟨w, G, _, g2⟩ := look_rd r2 r3 hy ho
        obtain ⟨v, rfl, hv⟩ := g2 z hz
        exact ⟨a, v, rfl, G, h H1 Ext.refl d1 v hv⟩
      | _ => exact h.elim
theorem din_rd {K : PySem.W.Frag} {σ : St} {H : Hp} {Q : VK} {i : Nat} (h : rdG MD K C W (mDin i mk) σ H Q) : tDIn (rdG MD K C W mk) (tVar i) σ H Q := by
  obtain ⟨Γ, env, ds, R, h⟩ := h
  refine ⟨Γ, env, ds, R, (Aft.bind h).imp fun d ds1 H1 e1 d1 h y hy => ?_⟩
  dsimp only [onD] at h
  rcases q : env[i]? with _ | z
  · rw [q] at h; exact h.elim
  · rw [q] at h
    cases z with
    | dc t kvs =>
      obtain ⟨a, us, r1, r2, r3, _⟩ := dc_at R q e1 d1
      obtain ⟨z, hz, h⟩ := lift_some h
      obtain ⟨o, ho, rfl⟩ := Option.map_eq_some_iff.mp hz
      obtain ⟨w, G, g1, _⟩ := look_rd r2 r3 hy ho
      exact ⟨_, r1, a, w, rfl, G, h H1 Ext.refl d1 _ (by rw [g1]; exact .bl _)⟩
    | _ => exact h.elim
theorem dnot_rd {K : PySem.W.Frag} {σ : St} {H : Hp} {Q : VK} {i : Nat} (h : rdG MD K C W (mDnot i mk) σ H Q) : tDNotIn (rdG MD K C W mk) (tVar i) σ H Q := by
  obtain ⟨Γ, env, ds, R, h⟩ := h
  refine ⟨Γ, env, ds, R, (Aft.bind h).imp fun d ds1 H1 e1 d1 h y hy => ?_⟩
  dsimp only [onD] at h
  rcases q : env[i]? with _ | z
  · rw [q] at h; exact h.elim
  · rw [q] at h
    cases z with
    | dc t kvs =>
      obtain ⟨a, us, r1, r2, r3, _⟩ := dc_at R q e1 d1
      obtain ⟨z, hz, h⟩ := lift_some h
      obtain ⟨o, ho, rfl⟩ := Option.map_eq_some_iff.mp hz
      obtain ⟨w, G, g1, _⟩ := look_rd r2 r3 hy ho
      exact ⟨_, r1, a, w, rfl, G, h H1 Ext.refl d1 _ (by rw [g1]; exact .bl _)⟩
    | _ => exact h.elim
theorem se_din (i : Nat) (hu : X.A.units + 65 < cLine) (hk : SE X C W e mk) (hN : X.N[i]? = some x := by rfl) (hv : Vis X.env.scope x := by first | exact Or.inl rfl | exact Or.inr (Or.inl rfl) | exact Or.inr (Or.inr rfl)) (hd : (x == ("__debug__" : Str)) = false := by decide) (hcd : (x == ("__classdict__" : Str)) = false := by decide) : SE X C W (.Compare e [.In] [.Name x p] pos) (mDin i mk) :=
  PE.imp (pe_cmp (pc_din (by omega) hk (pe_var hN hv hd hcd)) rfl) fun _ _ _ h => din_rd h
theorem se_dnot (i : Nat) (hu : X.A.units + 65 < cLine) (hk : SE X C W e mk) (hN : X.N[i]? = some x := by rfl) (hv : Vis X.env.scope x := by first | exact Or.inl rfl | exact Or.inr (Or.inl rfl) | exact Or.inr (Or.inr rfl)) (hd : (x == ("__debug__" : Str)) = false := by decide) (hcd : (x == ("__classdict__" : Str)) = false := by decide) : SE X C W (.Compare e [.NotIn] [.Name x p] pos) (mDnot i mk) :=
  PE.imp (pe_cmp (pc_dnotin (by omega) hk (pe_var hN hv hd hcd)) rfl) fun _ _ _ h => dnot_rd h
theorem st_din (i : Nat) (hu : X.A.units + 65 < cLine) (hk : SE X C W e mk) (hN : X.N[i]? = some x := by rfl) (hv : Vis X.env.scope x := by first | exact Or.inl rfl | exact Or.inr (Or.inl rfl) | exact Or.inr (Or.inr rfl)) (hd : (x == ("__debug__" : Str)) = false := by decide) (hcd : (x == ("__classdict__" : Str)) = false := by decide) : ST X C W (.Compare e [.In] [.Name x p] pos) (mTst (mDin i mk)) :=
  PT.imp (pt_cmp (pc_din (by omega) hk (pe_var hN hv hd hcd)) rfl) fun _ _ _ h => tst_rd (fun _ _ _ z => din_rd z) h
theorem st_dnot (i : Nat) (hu : X.A.units + 65 < cLine) (hk : SE X C W e mk) (hN : X.N[i]? = some x := by rfl) (hv : Vis X.env.scope x := by first | exact Or.inl rfl | exact Or.inr (Or.inl rfl) | exact Or.inr (Or.inr rfl)) (hd : (x == ("__debug__" : Str)) = false := by decide) (hcd : (x == ("__classdict__" : Str)) = false := by decide) : ST X C W (.Compare e [.NotIn] [.Name x p] pos) (mTst (mDnot i mk)) :=
  PT.imp (pt_cmp (pc_dnotin (by omega) hk (pe_var hN hv hd hcd)) rfl) fun _ _ _ h => tst_rd (fun _ _ _ z => dnot_rd z) h
theorem ss_dput (i : Nat) {sp : Pos} (hu : X.A.units + 65 < cLine) (hx : SE X C W e2 mx) (hk : SE X C W e mk) (hN : X.N[i]? = some x := by rfl) (hv : Vis X.env.scope x := by first | exact Or.inl rfl | exact Or.inr (Or.inl rfl) | exact Or.inr (Or.inr rfl)) (hd : (x == ("__debug__" : Str)) = false := by decide) (hcd : (x == ("__classdict__" : Str)) = false := by decide)
    (hs : swapsWith e2 (some (.Subscript (.Name x p) e sp)) pos.line X.env = pure false := by rfl) : SS X C W fr (.Assign [.Subscript (.Name x p) e sp] e2 pos) (mDput i mk mx) :=
  PS.imp (L2.ps_dput (by omega) (pe_var hN hv hd hcd) hk hx hs) fun D σ H ⟨Γ, env, ds, R, h⟩ => ⟨Γ, env, ds, R, (exS_aft R h).imp fun y ds1 H1 x1 d1 h v hv => by
    have R1 := R.go x1 d1
    rcases q : env[i]? with _ | z
    · rw [q] at h; exact h.elim
    · rw [q] at h
      cases z with
      | dc t kvs =>
        obtain ⟨a, us, q1, _⟩ := dc_at R1 q Ext.refl R1.draw
        refine ⟨_, q1, Γ, env, ds1, R1, (exS_aft R1 h).imp fun d ds2 H2 x2 d2 h w hw => ?_⟩
        have R2 := R1.go x2 d2
        obtain ⟨a', us', r1, r2, r3, r4⟩ := dc_at R1 q x2 d2
        rw [q1] at r1
        cases r1
        cases hz : keyOf t d with
        | none => rw [hz] at h; exact h.elim
        | some z =>
          rw [hz] at h
          dsimp only at h
          by_cases hl : kvs.length < 1000000
          · rw [decide_eq_true hl, if_pos rfl] at h
            obtain ⟨us2, P, hA⟩ := dc_put r2 r3 hw hz (Df.ext x2 d1 hv) hl
            refine ⟨a, _, rfl, P, h _ _ (R2.upd_dc q q1 ?_ hA)⟩
            unfold dPut
            split
            · rw [List.length_map]; omega
            · rw [List.length_append, List.length_singleton]; omega
          · rw [decide_eq_false hl, if_neg Bool.false_ne_true] at h
            exact h.elim
      | _ => exact h.elim⟩
/-! ### displays -/
def rdDc (K : PySem.W.Frag) (C : Exs) (W : WX) (t : Bool) (m : ME DcL) : TE := fun σ H Q => ∃ Γ env ds, Rel K Γ σ H env ds ∧
  Aft K C W Γ σ H (m env ds) fun kvs _ H' => ∀ a us, H a = none → H' a = some (dcObj t (kvs.map (·.1)) us) → DfAll K H' (gdx Γ σ env a) us (kvs.map (·.2)) → Q (.ref a) H'
abbrev SD (X : Cx) (C : Exs) (W : WX) (t : Bool) (e : Expr) (m : ME DcL) : Prop := PE X e (rdDc X.K C W t m)
theorem sd_emptyT : SD X C W true (.Dict [] [] pos) mDempty := PE.imp pe_dnewT fun σ H Q ⟨Γ, env, ds, R, h⟩ p hp => h _ (ext_new hp) (R.draw.new hp) p [] hp upd_same .nil
theorem sd_emptyK : SD X C W false (.Dict [] [] pos) mDempty := PE.imp pe_dnewK fun σ H Q ⟨Γ, env, ds, R, h⟩ p hp => h _ (ext_new hp) (R.draw.new hp) p [] hp upd_same .nil
theorem ss_setD (i : Nat) {t : Bool} {m : ME DcL} (hN : X.N.Nodup) (he : SD X C W t e m) (hi : X.N[i]? = some x := by rfl) (hx : Loc X.env.scope x := by exact .inl rfl) (hs : swapsWith e (some (.Name x p)) pos.line X.env = pure false := by rfl)
    (hf : X.fn x = true ∨ X.env.scope.names.lookup x = some .local := by first | exact .inl rfl | exact .inr rfl) : SS X C W fr (.Assign [.Name x p] e pos) (mSetD i t m) :=
  PS.imp (ps_set hN hi hx he hs hf) fun D σ H ⟨Γ, env, ds, R, h⟩ => ⟨Γ, env, ds, R, (exS_aft R h).imp fun kvs ds1 H1 e1 d1 h a us q1 q2 q3 => by
    by_cases hl : kvs.length ≤ 1000000
    · rw [decide_eq_true hl, if_pos rfl] at h
      cases hp : put i (.dc t kvs) env with
      | none => rw [hp] at h; exact h.elim
      | some env' =>
        rw [hp] at h
        exact h _ _ (R.set_dc e1 d1 q1 q2 hl q3 hp)
    · rw [decide_eq_false hl, if_neg Bool.false_ne_true] at h
      exact h.elim⟩
/-- {k: v}, k a tuple of ints -/
def tDispT (tk tv : TE) : TE := fun σ H Q => ∀ p, H p = none → tPairs [(tk, tv)] σ (upd H p (.dT [])) fun ps H2 => H2 p = some (.dT []) ∧ ∃ (b : Addr) (k : List Key) (v : V), ps = [(.ref b, v)] ∧ H2 b = some (.tup (k.map kV)) ∧ Q (.ref p) (upd H2 p (.dT [(k, v)]))
theorem pe_dispT {k v : Expr} {tk tv : TE} (hu : X.A.units + 65 < cLine) (hk : PE X k tk) (hv : PE X v tv) : PE X (.Dict [some k] [v] pos) (tDispT tk tv) := by
  refine ⟨fun pins s σ H Q I q => ?_⟩
  have hn := I.hok.fresh (Nat.le_refl s.heap.objs.size)
  have I1 := I.laid (a := s.heap.objs.size) (o := .dT []) (h' := s.heap.push { cls := .type "dict", data := .dict #[] }) (t' := s.toks) (fun _ _ z => Heap.get?_push_of_some _ z) (Nat.le_refl _) (dt_empty s.heap I.big)
  rw [arm_eval_Dict, zip_pairTrees [some k] [v] X.env pos rfl rfl, dictDisplay_pairs (pairTrees [some k] [v] X.env pos) (fun z => by cases z) (by show 1 < 17; decide)]
  refine wpAny_bind (wpAny_standAt (wpAny_bind (wpAny_subDictH (knd := tupleKind (mixKind X.prog X.w)) (Q := fun d s' => wpAny (model X.prog X.w) X.A (pure (Value.ref d)) (EP X pins σ Q) X.xe s') (show (tupleKind (mixKind X.prog X.w)).room X.A from (show X.A.units < cLine by omega)) (by show 1 ≤ 15; decide) ?_)))
  refine thn ((pps_cons hk hv pps_nil).run pins _ σ _ _ I1 (q _ hn)) fun ws s2 ⟨ps, H2, I2, rel, e0, b, ks, w, ep, eb, q2⟩ => ?_
  subst ep
  obtain ⟨z, hd, xs, r0, dd⟩ := dt_of I2.hok e0
  cases r0
  cases rel with
  | @cons _ c _ _ h1 h2 =>
    cases h2
    obtain ⟨u1, u2⟩ := c
    obtain ⟨h3, h4⟩ := h1
    obtain rfl : u1 = Value.ref b := h3
    refine ⟨[(ks, b, u2)], ⟨rfl, rfl, key_of I2.hok eb, trivial⟩, dd, fun h' tk' dd' hs => wpAny_pure ?_⟩
    obtain ⟨o, es, epo, hq, k2, k3, k4, _, k5⟩ := dd'
    refine ⟨.ref s.heap.objs.size, upd H2 s.heap.objs.size (.dT [(ks, w)]), d_write (ob := .dT [(ks, w)]) I2 (by rw [e0]; exact True.intro) hs ⟨o, hq⟩ ⟨?_, hd, [(ks, b, u2)], .cons ⟨rfl, ?_, h4⟩ .nil, o, es, epo, hq, k2, k3, k4, k5⟩, rfl, q2⟩
    · rw [sizeLine_eq]; exact (by decide : 1 ≤ 16777216)
    · rw [upd_ne (ne_of eb e0 (fun z => nomatch z))]
      exact eb
theorem sd_oneT (hu : X.A.units + 65 < cLine) (hk : SE X C W e mk) (hv : SE X C W e2 mx) : SD X C W true (.Dict [some e] [e2] pos) (mDone true mk mx) :=
  PE.imp (pe_dispT hu hk hv) fun σ H Q ⟨Γ, env, ds, R, h⟩ p hp => by
    have x0 : Ext Γ H (upd H p (.dT [])) := ext_new hp
    have y0 := R.draw.new (o := .dT []) hp
    have R0 := R.go x0 y0
    have B : Rel X.K (Γ.blk σ env (upd H p (.dT [])) p) σ (upd H p (.dT [])) env ds := R.blk (vs := []) hp x0 y0 ⟨_, upd_same⟩ rfl
    have h0 : Aft X.K C W Γ σ (upd H p (.dT [])) (mDone true mk mx env ds) fun kvs ds' _ => ∀ (H3 : Hp) (us : List V), Ext Γ H H3 → DrR X.K Γ H3 ds' → H3 p = some (dcObj true (kvs.map (·.1)) us) → DfAll X.K H3 (gdx Γ σ env p) us (kvs.map (·.2)) → Q (.ref p) H3 := by
      revert h
      unfold Aft
      rcases mDone true mk mx env ds with _ | ⟨kvs | x, ds'⟩
      · exact id
      · exact fun h H' _ _ H3 us x3 d3 q1 q2 => h H3 x3 d3 p us hp q1 q2
      · exact fun h cls d H' x1 d1 hx => h cls d H' (x0.trans x1) d1 hx
    refine ⟨_, env, ds, B, (Aft.bind h0).blk.imp fun d ds1 H1 e1 d1 h v hv => ?_⟩
    have B1 := B.go e1 d1
    refine ⟨_, env, ds1, B1, (Aft.bind h).blk.imp fun y ds2 H2 e2 d2 h w hw => ?_⟩
    obtain ⟨z, hz, h⟩ := lift_some h
    obtain ⟨k, hk, rfl⟩ := Option.map_eq_some_iff.mp hz
    have nd := (R.new_gd hp).2.2
    have pH : H2 p = some (.dT []) := e2 p _ nd (e1 p _ nd upd_same)
    have hv2 : Df X.K H2 (gd (Γ.blk σ env (upd H p (.dT [])) p) σ env) v d := Df.ext e2 d1 hv
    rcases key_v hv2 hk with ⟨_, b, rfl, hb⟩ | ⟨z, _⟩
    · refine ⟨pH, b, _, w, rfl, hb, ?_⟩
      have hbp : b ≠ p := fun z => by rw [z, pH] at hb; cases hb
      have nx : ∀ a o, a ≠ p → H2 a = some o → upd H2 p (.dT [(k.map Sum.inl, w)]) a = some o := fun a o n q => by rw [upd_ne n]; exact q
      have x12 : Ext Γ H H2 := x0.trans (e1.trans e2)
      have fin := h H2 Ext.refl d2.unblk
      have x3 : Ext Γ H (upd H2 p (.dT [(k.map Sum.inl, w)])) := fun a o n q => nx a o (ne_of_none q hp) (x12 a o n q)
      have cn := R.cell_ne hp
      have d3 : DrR X.K Γ (upd H2 p (.dT [(k.map Sum.inl, w)])) ds2 := by
        have dd := d2.unblk
        unfold DrR at dd ⊢
        cases hdr : Γ.dr with
        | none =>
          rw [hdr] at dd
          cases ds2 with
          | none => trivial
          | some s => exact dd
        | some r =>
          rw [hdr] at dd
          cases ds2 with
          | none => exact dd
          | some s =>
            obtain ⟨g1, g2, g3⟩ := dd
            exact ⟨nx _ _ (fun z => nd r hdr z.symm) g1, nx _ _ (cn r hdr) g2, g3⟩
      have hw3 : Df X.K (upd H2 p (.dT [(k.map Sum.inl, w)])) (gdx Γ σ env p) w y := (show Df X.K H2 (gd (Γ.blk σ env (upd H p (.dT [])) p) σ env) w y from hw).mono (fun a u z q => ⟨⟨⟨z.1.1, z.2.1, z.2.2⟩, z.1.2⟩, nx a _ z.1.2 q⟩) fun a u q => nx a _ (fun z => by rw [z, pH] at q; cases q) q
      exact fin _ [w] x3 d3 upd_same (.cons hw3 .nil)
    · cases z
end
end DL

/-! DL19: list.index; max, min of two; a written tuple of the module walked; a dict and a list at once. -/
namespace DL
open PySem PySem.Spec L2
open PyProof.Rows hiding St

section
variable {X : Cx} {C : Exs} {W : WX} {fr : Bool} {K : PySem.W.Frag} {M : Md} {o e a b : Expr} {mo me ma mb : ME PyData} {p pos ap cp : Pos} {x y : Str}
/-! ### xs.index(e) -/
def ixFrom (d : PyData) : Nat → List PyData → Option Nat
  | _, [] => none
  | k, z :: r => if PyData.eqv z d then some k else ixFrom d (k + 1) r
def fIndex (l d : PyData) : Option PyData := match l with
  | .list ds => if SeqAt.shaped d && SeqAt.shaped (.list ds) then (ixFrom d 0 ds).map fun (j : Nat) => .int (j : Int) else none
  | _ => none
def isList : PyData → Bool
  | .list _ => true
  | _ => false
def mIndex (o e : ME PyData) : ME PyData := o.bind fun x => (ME.lift (if isList x then some () else none)).bind fun _ => e.bind fun d => ME.lift (fIndex x d)
theorem ixFrom_spec {d : PyData} : ∀ {ds : List PyData} {k j : Nat}, ixFrom d k ds = some j → k ≤ j ∧ (∃ z, ds[j - k]? = some z ∧ PyData.eqv z d = true) ∧ ∀ (m : Nat) (z : PyData), m < j - k → ds[m]? = some z → PyData.eqv z d = false
  | [], _, _, h => by cases h
  | z :: r, k, j, h => by
    unfold ixFrom at h
    split at h
    · rename_i c
      cases h
      exact ⟨Nat.le_refl _, ⟨z, by rw [Nat.sub_self]; rfl, c⟩, fun m _ hm => absurd hm (by omega)⟩
    · rename_i c
      obtain ⟨h1, ⟨w, h2, h3⟩, h4⟩ := ixFrom_spec h
      have e : j - k = (j - (k + 1)) + 1 := by omega
      refine ⟨by omega, ⟨w, by rw [e]; exact h2, h3⟩, fun m u hm hu => ?_⟩
      cases m with
      | zero =>
        cases hu
        exact Bool.not_eq_true _ ▸ c
      | succ m => exact h4 m u (by omega) hu
theorem se_index (hu : X.A.units + 65 < cLine) (p1 : Pers M) (ho : PE X o (rdG M X.K C W mo)) (he : SE X C W e me) (hbase : attributeBase o "index" X.env (eval o X.env) = eval o X.env := by rfl)
    (hfew : ((backTo cp (starEach [e] X.env)).all (fun x => !x.1) && (backToKw cp (keywordEach [] X.env)).all (fun x => x.1.isSome) && decide ([e].length + ([] : List Keyword).length + (if ([] : List Keyword).isEmpty then 0 else 1) < 30)) = true := by rfl)
    (hline : (ap.endLine == cp.line) = true := by rfl) (hs : starEach (e :: []) X.env = (false, eval e X.env) :: starEach [] X.env := by rfl) (hplain : (backTo cp (starEach [] X.env)).any (·.1) = false := by rfl) : SE X C W (.Call (.Attribute o "index" ap) [e] [] cp) (mIndex mo me) :=
  PE.imp (pe_bm PySem.F.plainAttrs_list PySem.F.slot_list_index PySem.F.type_list_index (mt_indexD hu) ho (pa_cons he pa_nil hs) hbase hfew hline hs hplain) fun σ H Q ⟨Γ, env, ds, R, h⟩ => by
    refine ⟨Γ, env, ds, R, (Aft.bind h).imp fun d ds1 H1 e1 d1 q v hv => ?_⟩
    have R1 := R.go e1 d1
    obtain ⟨z, hz, q⟩ := lift_some (Aft.bind q)
    have q := q H1 Ext.refl d1
    have tyl : tyV X.K "list" v H1 := by
      cases d with
      | list xs =>
        obtain ⟨a, us, rfl, hS, _⟩ := (p1.pk hv).list
        exact tyV_list hS
      | _ => cases hz
    refine ⟨tyl, Γ, env, ds1, R1, (Aft.bind q).imp fun e' ds2 H2 e2 d2 q w hw => ?_⟩
    obtain ⟨z, hz, q⟩ := lift_some q
    have hv2 := p1.ext e2 d1 hv
    unfold fIndex at hz
    split at hz
    · split at hz
      · rename_i hc
        rw [Bool.and_eq_true] at hc
        obtain ⟨j, hj, rfl⟩ := Option.map_eq_some_iff.mp hz
        obtain ⟨_, ⟨z, g1, g2⟩, g3⟩ := ixFrom_spec hj
        obtain ⟨a, us, rfl, hS, hl, hA⟩ := (p1.pk hv2).list
        rw [Nat.sub_zero] at g1 g3
        exact ⟨a, w, e', _, j, z, rfl, rfl, .lst (.inl (.inl hS)) hA.dp, hw.dp, hc.2, hc.1, g1, g2, g3, q H2 Ext.refl d2 _ (.int _)⟩
      · cases hz
    · cases hz
/-! ### a written tuple of ints of the module, walked -/
theorem si_glob {tg : Expr} {u : Value} {c : Addr} {ns : List Int} (hm : X.mg x = some u) (r : RelV (.ref c) u) (hs : ∀ H, SqT X.K H c (ns.map V.int)) (hg : Gl X x := by rfl) (hdb : (x == ("__debug__" : Str)) = false := by decide) : SI X C W tg (.Name x pos) (mItems (mC (.tuple (ns.map .int)))) :=
  PI.imp (pi_seq (pe_glob hg hm r hdb)) fun σ H Q ⟨Γ, env, ds, R, h⟩ => ⟨c, rfl, .inr ⟨⟨_, hs H⟩, Aft.here h R.draw _ (wk_tup R (hs H) (DfAll.of_ints ns))⟩⟩
/-! ### max, min of two -/
def fMax2 : PyData → PyData → Option PyData
  | .int i, .int j => some (.int (if j > i then j else i))
  | _, _ => none
def fMin2 : PyData → PyData → Option PyData
  | .int i, .int j => some (.int (if j < i then j else i))
  | _, _ => none
theorem two_rd {r : List V → Hp → VK → Prop} {f : PyData → PyData → Option PyData} (hr : ∀ (i j : Int) (z : PyData) (H : Hp) (Q : VK), f (.int i) (.int j) = some z → (∀ H' g, Df K H' g (match z with | .int n => .int n | _ => .non) z) → Q (match z with | .int n => .int n | _ => .non) H → r [.int i, .int j] H Q)
    (hf : ∀ d e z, f d e = some z → ∃ i j n, d = .int i ∧ e = .int j ∧ z = .int n) {σ : St} {H : Hp} {Q : VK} (h : rdG MD K C W (mOp f ma mb) σ H Q) : tCB r (tCons (rdG MD K C W ma) (tCons (rdG MD K C W mb) tNil)) σ H Q := by
  obtain ⟨Γ, env, ds, R, h⟩ := h
  refine ⟨Γ, env, ds, R, (Aft.bind h).imp fun d ds1 H1 e1 d1 q v hv => ?_⟩
  have R1 := R.go e1 d1
  refine ⟨Γ, env, ds1, R1, (Aft.bind q).imp fun e ds2 H2 e2 d2 q w hw => ?_⟩
  obtain ⟨z, hz, q⟩ := lift_some q
  obtain ⟨i, j, n, rfl, rfl, rfl⟩ := hf d e z hz
  cases hv
  cases hw
  exact hr i j _ H2 Q hz (fun _ _ => .int n) (q H2 Ext.refl d2 _ (.int n))
theorem se_max2 (hc : X.calm = true) (hm : X.mg "max" = none) (ha : SE X C W a ma) (hb : SE X C W b mb) (hg : Gl X "max" := by rfl) (he : starEach (a :: [b]) X.env = (false, eval a X.env) :: starEach [b] X.env := by rfl) (he2 : starEach (b :: []) X.env = (false, eval b X.env) :: starEach [] X.env := by rfl)
    (hpl : (backTo pos (starEach [b] X.env)).any (·.1) = false := by rfl) : SE X C W (.Call (.Name "max" p) [a, b] [] pos) (mOp fMax2 ma mb) :=
  PE.imp (pe_callB (call_max2 hc) hg hm PyProof.Rows.boot_max (pa_cons ha (pa_cons hb pa_nil he2) he) (by decide) (by decide) he hpl) fun _ _ _ h => two_rd (fun i j z H Q hz _ q => by cases hz; exact ⟨i, j, rfl, q⟩) (fun d e z hz => by
    unfold fMax2 at hz
    split at hz
    · cases hz; exact ⟨_, _, _, rfl, rfl, rfl⟩
    · cases hz) h
theorem se_min2 (hc : X.calm = true) (hm : X.mg "min" = none) (ha : SE X C W a ma) (hb : SE X C W b mb) (hg : Gl X "min" := by rfl) (he : starEach (a :: [b]) X.env = (false, eval a X.env) :: starEach [b] X.env := by rfl) (he2 : starEach (b :: []) X.env = (false, eval b X.env) :: starEach [] X.env := by rfl)
    (hpl : (backTo pos (starEach [b] X.env)).any (·.1) = false := by rfl) : SE X C W (.Call (.Name "min" p) [a, b] [] pos) (mOp fMin2 ma mb) :=
  PE.imp (pe_callB (call_min2 hc) hg hm PyProof.Rows.boot_min (pa_cons ha (pa_cons hb pa_nil he2) he) (by decide) (by decide) he hpl) fun _ _ _ h => two_rd (fun i j z H Q hz _ q => by cases hz; exact ⟨i, j, rfl, q⟩) (fun d e z hz => by
    unfold fMin2 at hz
    split at hz
    · cases hz; exact ⟨_, _, _, rfl, rfl, rfl⟩
    · cases hz) h
/-! ### a, b = {..}, [..] -/
def mParCL (i j : Nat) (t : Bool) (a : ME DcL) (b : ME (List PyData)) : MS := exS a fun x => exS b fun y env ds => if decide (x.length ≤ 1000000) then putS i j (.dc t x) (.l y) env ds else none
theorem ss_parCL (i j : Nat) {t : Bool} {md : ME DcL} {fb : ME (List PyData)} {px py pt : Pos} {kt k2 : Nat} {pt2 : Pos} (hN : X.N.Nodup) (ha : SD X C W t a md) (hb : SF X C W b fb) (hc : X.calm = true := by rfl) (hi : X.N[i]? = some x := by rfl) (hj : X.N[j]? = some y := by rfl) (hij : i ≠ j := by decide) (hx : X.env.scope.names.lookup x = some .local := by rfl) (hy : X.env.scope.names.lookup y = some .local := by rfl)
    (he : starEach (a :: [b]) X.env = (false, eval a X.env) :: starEach [b] X.env := by rfl) (he2 : starEach (b :: []) X.env = (false, eval b X.env) :: starEach [] X.env := by rfl)
    (hw : swappedStores [.Tuple [.Name x px, .Name y py] kt pt] (.Tuple [a, b] k2 pt2) X.env = pure (some [x, y]) := by rfl) (hs : swapsWithSole [.Tuple [.Name x px, .Name y py] kt pt] (.Tuple [a, b] k2 pt2) pos.line X.env = pure false := by rfl) :
    SS X C W fr (.Assign [.Tuple [.Name x px, .Name y py] kt pt] (.Tuple [a, b] k2 pt2) pos) (mParCL i j t md fb) :=
  PS.imp (ps_par hc hN hi hj hij hx hy (pa_cons ha (pa_cons hb pa_nil he2) he) hw hs) fun D σ H ⟨Γ, env, ds, R, h⟩ => by
    refine ⟨Γ, env, ds, R, (exS_aft R h).imp fun d ds1 H1 e1 d1 q p us g1 g2 g4 => ?_⟩
    have R1 := R.go e1 d1
    have RB : Rel X.K (Γ.blk σ env H1 p) σ H1 env ds1 := R.blk (vs := []) g1 e1 d1 ⟨_, g2⟩ rfl
    refine ⟨_, env, ds1, RB, (exS_aft R1 q).blk.imp fun e ds2 H2 e2 d2 q p' us' f1 f2 f3 f4 => ?_⟩
    by_cases hl : d.length ≤ 1000000
    · rw [decide_eq_true hl, if_pos rfl] at q
      obtain ⟨env1, env2, p1, p2, q⟩ := putS_aft q
      refine ⟨_, _, rfl, q _ _ ?_⟩
      have S1 := R.set_dc e1 d1 g1 g2 hl g4 p1
      refine S1.set_l e2 d2.unblk f1 f2 f3 (f4.mono (fun a u z k => ⟨⟨?_, z.2⟩, k⟩) fun _ _ z => z) p2
      obtain ⟨h1, h2, rfl⟩ := put_some p1
      have hi : i < σ.length := by rw [R.len]; exact h2
      refine ⟨z.1.1.1, fun ⟨j, x, q1, q2, q3⟩ => ?_, z.1.2.2⟩
      by_cases e : i = j
      · subst e
        rw [List.getElem?_set_self hi] at q3
        cases q3
        exact z.1.1.2 rfl
      · rw [List.getElem?_set_ne e] at q1 q3
        exact z.1.2.1 ⟨j, x, q1, q2, q3⟩
    · rw [decide_eq_false hl, if_neg Bool.false_ne_true] at q
      exact q.elim
end
end DL

/-! Mk69: what the defs of the law mean. -/
namespace Lw
open PySem PySem.Spec L2 DL

def k_MOST_STATES : PyData := (.int 5)
def k_MOST_LENGTH : PyData := (.int 6)
def k_INPUTS : PyData := (.tuple [(.int 0), (.int 1)])
def k_MOST_INPUTS : PyData := (.int 16)
def k_MOST_COPIES : PyData := (.int 40)
def m__law_draw : MS :=
  (mSeq (mSet 1 (mC (.int 7)))
  (mSeq (mFor (mScr 0) (tName 2) (mSet 1 (mOp fMod (mUn fInt (mOp fAdd (mOp fAdd (mOp fMul (mV 1) (mC (.int 48271))) (mOp fMod (mUn fAbs (mUn fInt (mV 2))) (mC (.int 65521)))) (mC (.int 1)))) (mC (.int 2147483647)))))
  (mRetF (mLst (mCons (mF (mComp [2] (mScr 0) (tName 2) mYes (mUn fAbs (mUn fInt (mV 2))))) (mCons (mUn fNeg (mC (.int 1))) (mCons (mC (.int 0)) (mCons (mV 1) mNil))))))))
def f__law_draw : FS := runB 3 1 true m__law_draw
def m__law_walk : MS :=
  (mSeq (mSet 3 (mTup mNil))
  (mSeq (mFor (mItems (mV 2)) (tName 4) (mSeq (mAsg (tTup 2 (tConsT (tName 1) (tConsT (tName 5) tNilT))) (mOp fIx (mOp fIx (mV 0) (mV 1)) (mV 4)))
  (mSet 3 (mOp fAdd (mV 3) (mTup (mCons (mV 5) mNil))))))
  (mRet (mTup (mCons (mV 3) (mCons (mV 1) mNil))))))
def f__law_walk : FS := runB 6 3 false m__law_walk
def m__law_turn : MS :=
  (mSeq (mSetL 2 (mLst (mCons (mV 1) mNil)))
  (mSeq (mSet 3 (mOp fIx (mCall (chk 3 f__law_walk) (axD (mV 0) (axD (mC (.int 0)) (axD (mV 1) axNil)))) (mC (.int 0))))
  (mSeq (whileGo (mTst (mOp fNotIn (mV 3) (mVp 2))) (mSeq (mApp 2 (mV 3))
  (mSet 3 (mOp fIx (mCall (chk 3 f__law_walk) (axD (mV 0) (axD (mC (.int 0)) (axD (mV 3) axNil)))) (mC (.int 0))))) 1000)
  (mRet (mTup (mCons (mIndex (mVp 2) (mV 3)) (mCons (mOp fSub (mUn fLen (mVp 2)) (mIndex (mVp 2) (mV 3))) mNil)))))))
def f__law_turn : FS := runB 4 2 false m__law_turn
def m__law_take : MS :=
  (mSeq (mIfS (mTst (mOp fEq (mDrw 0 2) (mC (.int 0)))) (mSeq (mDrwSet 0 1 (mOp fAdd (mDrw 0 1) (mC (.int 1))))
  (mSeq (mIfS (mTst (mOp fLt (mDrw 0 1) (mUn fLen (mDrw 0 0)))) (mDrwSet 0 2 (mOp fIx (mDrw 0 0) (mDrw 0 1))) mSkip)
  (mIfS (mTst (mOp fEq (mDrw 0 2) (mC (.int 0)))) (mSeq (mDrwSet 0 3 (mOp fMod (mUn fInt (mOp fAdd (mOp fMul (mDrw 0 3) (mC (.int 48271))) (mC (.int 11)))) (mC (.int 2147483647))))
  (mDrwSet 0 2 (mDrw 0 3))) mSkip))) mSkip)
  (mSeq (mSet 2 (mOp fMod (mUn fInt (mDrw 0 2)) (mV 1)))
  (mSeq (mDrwSet 0 2 (mOp fFdiv (mDrw 0 2) (mV 1)))
  (mRet (mV 2)))))
def f__law_take : FS := runB 3 2 false m__law_take
def m__law_odd_box : MS :=
  (mSeq (mSet 1 (mF (mLst (mCons (mC .none) (mCons (mTup mNil) (mCons (mC (.int 5)) (mCons (mF (mLst (mCons (mTup (mCons (mTup (mCons (mC (.int 0)) (mCons (mC (.int 0)) mNil))) (mCons (mTup (mCons (mC (.int 0)) (mCons (mC (.int 0)) mNil))) mNil))) mNil))) (mCons (mTup (mCons (mTup (mCons (mTup (mCons (mC (.int 0)) (mCons (mC (.int 0)) mNil))) mNil)) mNil)) (mCons (mTup (mCons (mTup (mCons (mTup (mCons (mC (.int 1)) (mCons (mC (.int 0)) mNil))) (mCons (mTup (mCons (mC (.int 0)) (mCons (mC (.int 0)) mNil))) mNil))) mNil)) (mCons (mTup (mCons (mTup (mCons (mTup (mCons (mC (.int 0)) (mCons (mC (.int 2)) mNil))) (mCons (mTup (mCons (mC (.int 0)) (mCons (mC (.int 0)) mNil))) mNil))) mNil)) (mCons (mTup (mCons (mTup (mCons (mTup (mCons (mC (.int 0)) (mCons (mC (.bool true)) mNil))) (mCons (mTup (mCons (mC (.int 0)) (mCons (mC (.int 0)) mNil))) mNil))) mNil)) (mCons (mTup (mCons (mTup (mCons (mTup (mCons (mC (.int 0)) (mCons (mC (.int 0)) mNil))) (mCons (mTup (mCons (mC (.int 0)) (mCons (mC (.int 0)) mNil))) (mCons (mTup (mCons (mC (.int 0)) (mCons (mC (.int 0)) mNil))) mNil)))) mNil)) (mCons (mTup (mCons (mTup (mCons (mTup (mCons (mUn fNeg (mC (.int 1))) (mCons (mC (.int 0)) mNil))) (mCons (mTup (mCons (mC (.int 0)) (mCons (mC (.int 0)) mNil))) mNil))) mNil)) mNil)))))))))))))
  (mRet (mOp fIx (mOp fAdd (mV 1) (mF (mLst (mCons (mTup (mCons (mF (mLst (mCons (mTup (mCons (mC (.int 0)) (mCons (mC (.int 0)) mNil))) (mCons (mTup (mCons (mC (.int 0)) (mCons (mC (.int 0)) mNil))) mNil)))) mNil)) (mCons (mTup (mCons (mTup (mCons (mTup (mCons (mC (.int 0)) (mCons (mC (.int 0)) mNil))) (mCons (mF (mLst (mCons (mC (.int 0)) (mCons (mC (.int 0)) mNil)))) mNil))) mNil)) (mCons (mOp fMul (mTup (mCons (mTup (mCons (mTup (mCons (mC (.int 0)) (mCons (mC (.int 0)) mNil))) (mCons (mTup (mCons (mC (.int 0)) (mCons (mC (.int 0)) mNil))) mNil))) mNil)) (mC (.int 7))) (mCons (mTup (mCons (mTup (mCons (mTup (mCons (mC (.int 0)) mNil)) (mCons (mTup (mCons (mC (.int 0)) (mCons (mC (.int 0)) mNil))) mNil))) mNil)) (mCons (mTup (mCons (mC .none) mNil)) mNil)))))))) (mCall (chk 2 f__law_take) (axV 0 (axD (mC (.int 15)) axNil))))))
def f__law_odd_box : FS := runB 2 1 false m__law_odd_box
def m__law_order : MS :=
  (mSeq (mParLL 2 3 (mRgL1 (mV 1)) (mLst mNil))
  (mSeq (whileGo (mTst (mOp fNe (mVp 2) (mF (mLst mNil)))) (mAppPop 3 2 (mCall (chk 2 f__law_take) (axV 0 (axD (mUn fLen (mVp 2)) axNil)))) 1000)
  (mRetL 3)))
def f__law_order : FS := runB 4 2 false m__law_order
def m__law_box : MS :=
  (mSeq (mSet 2 (mOp fAdd (mC (.int 1)) (mCall (chk 2 f__law_take) (axV 0 (axD (mV 1) axNil)))))
  (mSeq (mSet 3 (mCall (chk 2 f__law_take) (axV 0 (axD (mC (.int 4)) axNil))))
  (mSeq (mSetL 4 (mLst mNil))
  (mSeq (mFor (mRng1 (mV 2)) (tName 5) (mSeq (mSet 6 (mF (mComp [9] (mRng1 (mC (.int 2))) (tName 9) mYes (mTup (mCons (mCall (chk 2 f__law_take) (axV 0 (axD (mV 2) axNil))) (mCons (mCall (chk 2 f__law_take) (axV 0 (axD (mC (.int 2)) axNil))) mNil))))))
  (mSeq (mIfS (mTst (mOp fEq (mV 3) (mC (.int 0)))) (mSet 6 (mF (mComp [10, 11] (mItems (mV 6)) (tTup 2 (tConsT (tName 10) (tConsT (tName 11) tNilT))) mYes (mTup (mCons (mV 10) (mCons (mOp fIx (mOp fIx (mV 6) (mC (.int 0))) (mC (.int 1))) mNil)))))) mSkip)
  (mApp 4 (mUn fTuple (mV 6))))))
  (mSeq (mIfS (mTst (mOp fEq (mV 3) (mC (.int 1)))) (mSeq (mAsg (tTup 2 (tConsT (tName 7) (tConsT (tName 8) tNilT))) (mTup (mCons (mCall (chk 2 f__law_order) (axV 0 (axD (mV 2) axNil))) (mCons (mCall (chk 2 f__law_order) (axV 0 (axD (mV 2) axNil))) mNil))))
  (mSetL 4 (mComp [12] (mRng1 (mV 2)) (tName 12) mYes (mTup (mCons (mTup (mCons (mOp fIx (mV 7) (mV 12)) (mCons (mOp fIx (mOp fIx (mOp fIx (mVp 4) (mV 12)) (mC (.int 0))) (mC (.int 1))) mNil))) (mCons (mTup (mCons (mOp fIx (mV 8) (mV 12)) (mCons (mOp fIx (mOp fIx (mOp fIx (mVp 4) (mV 12)) (mC (.int 1))) (mC (.int 1))) mNil))) mNil)))))) mSkip)
  (mRet (mUn fTuple (mVp 4))))))))
def f__law_box : FS := runB 13 2 false m__law_box
def m__law_row : MS :=
  (mRet (mUn fTuple (mF (mComp [2] (mRng1 (mCall (chk 2 f__law_take) (axV 0 (axD (mOp fAdd (mV 1) (mC (.int 1))) axNil)))) (tName 2) mYes (mCall (chk 2 f__law_take) (axV 0 (axD (mC (.int 2)) axNil)))))))
def f__law_row : FS := runB 3 2 false m__law_row
def m_is_whole : MS :=
  (mRet (mAndV (mIsi 0 (mV 0)) (mUn fNot (mIsi 1 (mV 0)))))
def f_is_whole : FS := runB 1 1 false m_is_whole
def m_is_move : MS :=
  (mSeq (mIfS (mOr (mNot (mTst (mIsi 2 (mV 0)))) (mOr (mTst (mOp fNe (mUn fLen (mV 0)) (mC (.int 2)))) (mNot (mTst (mUn fAll (mF (mComp [2] (mItems (mV 0)) (tName 2) mYes (mCall (chk 1 f_is_whole) (axD (mV 2) axNil))))))))) (mRet (mC (.bool false))) mSkip)
  (mRet (mAndV (mChain fLe fLt (mC (.int 0)) (mOp fIx (mV 0) (mC (.int 0))) (mV 1)) (mChain fLe fLe (mC (.int 0)) (mOp fIx (mV 0) (mC (.int 1))) (mC (.int 1))))))
def f_is_move : FS := runB 3 2 false m_is_move
def m_is_box : MS :=
  (mSeq (mIfS (mOr (mNot (mTst (mIsi 2 (mV 0)))) (mNot (mTst (mChain fLe fLe (mC (.int 1)) (mUn fLen (mV 0)) (mC k_MOST_STATES))))) (mRet (mC (.bool false))) mSkip)
  (mSeq (mIfS (mNot (mTst (mUn fAll (mF (mComp [1] (mItems (mV 0)) (tName 1) mYes (mAndV (mIsi 2 (mV 1)) (mOp fEq (mUn fLen (mV 1)) (mC (.int 2))))))))) (mRet (mC (.bool false))) mSkip)
  (mRet (mUn fAll (mF (mComp2 [1, 2] (mItems (mV 0)) (tName 1) mYes (mItems (mV 1)) [2] (tName 2) mYes (mCall (chk 2 f_is_move) (axD (mV 2) (axD (mUn fLen (mV 0)) axNil)))))))))
def f_is_box : FS := runB 3 1 false m_is_box
def m_check_box : MS :=
  (mIfS (mNot (mTst (mCall (chk 1 f_is_box) (axD (mV 0) axNil)))) (mRaise .malformed) mSkip)
def f_check_box : FS := runB 1 1 false m_check_box
def m_check_length : MS :=
  (mSeq (mDrop (mCall (chk 1 f_check_box) (axD (mV 0) axNil)))
  (mIfS (mOr (mNot (mTst (mCall (chk 1 f_is_whole) (axD (mV 1) axNil)))) (mNot (mTst (mChain fLe fLe (mC (.int 0)) (mV 1) (mC k_MOST_LENGTH))))) (mRaise .malformed) mSkip))
def f_check_length : FS := runB 2 2 false m_check_length
def m_all_rows : MS :=
  (mSeq (mSet 1 (mF (mLst (mCons (mTup mNil) mNil))))
  (mSeq (mFor (mRng1 (mV 0)) (tName 2) (mSet 1 (mF (mComp2 [3, 4] (mItems (mV 1)) (tName 3) mYes (mItems (mC k_INPUTS)) [4] (tName 4) mYes (mOp fAdd (mV 3) (mTup (mCons (mV 4) mNil)))))))
  (mRet (mV 1))))
def f_all_rows : FS := runB 5 1 false m_all_rows
def m_walk : MS :=
  (mSeq (mSetL 3 (mLst mNil))
  (mSeq (mFor (mItems (mV 2)) (tName 4) (mSeq (mAsg (tTup 2 (tConsT (tName 1) (tConsT (tName 5) tNilT))) (mOp fIx (mOp fIx (mV 0) (mV 1)) (mV 4)))
  (mApp 3 (mV 5))))
  (mRet (mTup (mCons (mUn fTuple (mVp 3)) (mCons (mV 1) mNil))))))
def f_walk : FS := runB 6 3 false m_walk
def m_found_turn : MS :=
  (mSeq (mParCL 2 3 true (mDone true (mV 1) (mC (.int 0))) (mLst (mCons (mV 1) mNil)))
  (mSeq (mSet 4 (mOp fIx (mCall (chk 3 f_walk) (axD (mV 0) (axD (mC (.int 0)) (axD (mV 1) axNil)))) (mC (.int 0))))
  (mSeq (whileGo (mTst (mDnot 2 (mV 4))) (mSeq (mDput 2 (mV 4) (mUn fLen (mVp 3)))
  (mSeq (mApp 3 (mV 4))
  (mSet 4 (mOp fIx (mCall (chk 3 f_walk) (axD (mV 0) (axD (mC (.int 0)) (axD (mV 4) axNil)))) (mC (.int 0)))))) 1000)
  (mRet (mTup (mCons (mDget 2 (mV 4)) (mCons (mOp fSub (mUn fLen (mVp 3)) (mDget 2 (mV 4))) mNil)))))))
def f_found_turn : FS := runB 5 2 false m_found_turn
def m_back_count : MS :=
  (mSeq (mDrop (mCall (chk 2 f_check_length) (axD (mV 0) (axD (mV 1) axNil))))
  (mRet (mUn fLen (mF (mComp [2] (mItems (mCall (chk 1 f_all_rows) (axD (mV 1) axNil))) (tName 2) (mTst (mOp fEq (mOp fIx (mCall (chk 2 f_found_turn) (axD (mV 0) (axD (mV 2) axNil))) (mC (.int 0))) (mC (.int 0)))) (mV 2))))))
def f_back_count : FS := runB 3 2 false m_back_count
def m_is_short : MS :=
  (mSeq (mIfS (mOr (mNot (mTst (mIsi 2 (mV 0)))) (mTst (mOp fGt (mUn fLen (mV 0)) (mV 1)))) (mRet (mC (.bool false))) mSkip)
  (mRet (mUn fAll (mF (mComp [2] (mItems (mV 0)) (tName 2) mYes (mAndV (mCall (chk 1 f_is_whole) (axD (mV 2) axNil)) (mChain fLe fLe (mC (.int 0)) (mV 2) (mC (.int 1)))))))))
def f_is_short : FS := runB 3 2 false m_is_short
def m_check_row : MS :=
  (mSeq (mDrop (mCall (chk 1 f_check_box) (axD (mV 0) axNil)))
  (mIfS (mNot (mTst (mCall (chk 2 f_is_short) (axD (mV 1) (axD (mC k_MOST_INPUTS) axNil))))) (mRaise .malformed) mSkip))
def f_check_row : FS := runB 2 2 false m_check_row
def m_behind_copies : MS :=
  (mSeq (mDrop (mCall (chk 2 f_check_row) (axD (mV 0) (axD (mV 2) axNil))))
  (mSeq (mIfS (mOr (mNot (mTst (mCall (chk 1 f_is_whole) (axD (mV 1) axNil)))) (mNot (mTst (mChain fLe fLe (mC (.int 0)) (mV 1) (mC k_MOST_COPIES))))) (mRaise .malformed) mSkip)
  (mSeq (mFor (mRng1 (mV 1)) (tName 3) (mSet 2 (mOp fIx (mCall (chk 3 f_walk) (axD (mV 0) (axD (mC (.int 0)) (axD (mV 2) axNil)))) (mC (.int 0)))))
  (mRet (mV 2)))))
def f_behind_copies : FS := runB 4 3 false m_behind_copies
def m_row_turn : MS :=
  (mSeq (mDrop (mCall (chk 2 f_check_row) (axD (mV 0) (axD (mV 1) axNil))))
  (mRet (mCall (chk 2 f_found_turn) (axD (mV 0) (axD (mV 1) axNil)))))
def f_row_turn : FS := runB 2 2 false m_row_turn
def m_whole_turn : MS :=
  (mSeq (mDrop (mCall (chk 2 f_check_length) (axD (mV 0) (axD (mV 1) axNil))))
  (mSeq (mSet 2 (mF (mComp [3] (mItems (mCall (chk 1 f_all_rows) (axD (mV 1) axNil))) (tName 3) mYes (mCall (chk 2 f_found_turn) (axD (mV 0) (axD (mV 3) axNil))))))
  (mRet (mTup (mCons (mUn fMax (mF (mComp [4, 5] (mItems (mV 2)) (tTup 2 (tConsT (tName 4) (tConsT (tName 5) tNilT))) mYes (mV 4)))) (mCons (mUn fMax (mF (mComp [5, 6] (mItems (mV 2)) (tTup 2 (tConsT (tName 5) (tConsT (tName 6) tNilT))) mYes (mV 6)))) mNil))))))
def f_whole_turn : FS := runB 7 2 false m_whole_turn
def m__law_told : MS :=
  (mTry (fun _ => true) (mSeq (mIfS (mTst (mOp fEq (mV 0) (mC (.int 0)))) (mRet (mCall (chk 3 f_behind_copies) (axD (mV 1) (axD (mV 2) (axD (mV 3) axNil))))) mSkip)
  (mSeq (mIfS (mTst (mOp fEq (mV 0) (mC (.int 1)))) (mRet (mCall (chk 2 f_row_turn) (axD (mV 1) (axD (mV 3) axNil)))) mSkip)
  (mRet (mIf (mTst (mOp fEq (mV 0) (mC (.int 2)))) (mCall (chk 2 f_whole_turn) (axD (mV 1) (axD (mV 2) axNil))) (mCall (chk 2 f_back_count) (axD (mV 1) (axD (mV 2) axNil))))))) (mRet (mC (.str "<malformed>"))))
def f__law_told : FS := runB 4 4 false m__law_told
def m__law_behind : MS :=
  (mSeq (mFor (mRng1 (mV 1)) (tName 3) (mSet 2 (mOp fIx (mCall (chk 3 f__law_walk) (axD (mV 0) (axD (mC (.int 0)) (axD (mV 2) axNil)))) (mC (.int 0)))))
  (mRet (mV 2)))
def f__law_behind : FS := runB 4 3 false m__law_behind
def m__law_rows : MS :=
  (mSeq (mSet 1 (mF (mLst (mCons (mTup mNil) mNil))))
  (mSeq (mFor (mRng1 (mV 0)) (tName 2) (mSet 1 (mOp fAdd (mF (mComp [3] (mItems (mV 1)) (tName 3) mYes (mOp fAdd (mV 3) (mTup (mCons (mC (.int 0)) mNil))))) (mF (mComp [3] (mItems (mV 1)) (tName 3) mYes (mOp fAdd (mV 3) (mTup (mCons (mC (.int 1)) mNil))))))))
  (mRet (mF (mUnF fSort (mV 1))))))
def f__law_rows : FS := runB 4 1 false m__law_rows
def m__law_odd_row : MS :=
  (mRet (mOp fIx (mF (mLst (mCons (mC .none) (mCons (mC (.int 5)) (mCons (mF (mLst (mCons (mC (.int 0)) mNil))) (mCons (mTup (mCons (mC (.int 2)) mNil)) (mCons (mTup (mCons (mUn fNeg (mC (.int 1))) mNil)) (mCons (mTup (mCons (mC (.bool true)) mNil)) (mCons (mTup (mCons (mC (.str "0")) mNil)) (mCons (mC (.str "0")) (mCons (mOp fMul (mTup (mCons (mC (.int 0)) mNil)) (mC (.int 61))) mNil))))))))))) (mCall (chk 2 f__law_take) (axV 0 (axD (mC (.int 9)) axNil)))))
def f__law_odd_row : FS := runB 1 1 false m__law_odd_row
def m_law : MS :=
  (mDraw 1 (mCallF (chk 1 f__law_draw) (axV 0 axNil))
  (mSeq (mFor (mRng1 (mC (.int 4))) (tName 2) (mSeq (mAsg (tTup 3 (tConsT (tName 3) (tConsT (tName 4) (tConsT (tName 5) tNilT)))) (mTup (mCons (mCall (chk 2 f__law_box) (axV 1 (axD (mC (.int 5)) axNil))) (mCons (mCall (chk 2 f__law_row) (axV 1 (axD (mC (.int 8)) axNil))) (mCons (mCall (chk 2 f__law_take) (axV 1 (axD (mC (.int 41)) axNil))) mNil)))))
  (mSeq (mAsg (tTup 2 (tConsT (tName 6) (tConsT (tName 7) tNilT))) (mCall (chk 2 f__law_turn) (axD (mV 3) (axD (mV 4) axNil))))
  (mSeq (mIfS (mOr (mTst (mOp fNe (mCall (chk 3 f_behind_copies) (axD (mV 3) (axD (mV 5) (axD (mV 4) axNil)))) (mCall (chk 3 f__law_behind) (axD (mV 3) (axD (mV 5) (axD (mV 4) axNil)))))) (mOr (mTst (mOp fNe (mCall (chk 2 f_row_turn) (axD (mV 3) (axD (mV 4) axNil))) (mTup (mCons (mV 6) (mCons (mV 7) mNil))))) (mTst (mOp fNotIn (mV 7) (mF (mLst (mCons (mC (.int 1)) (mCons (mC (.int 2)) (mCons (mC (.int 4)) (mCons (mC (.int 8)) (mCons (mC (.int 16)) (mCons (mC (.int 32)) (mCons (mC (.int 64)) (mCons (mC (.int 128)) (mCons (mC (.int 256)) mNil))))))))))))))) (mRet (mC (.bool false))) mSkip)
  (mSeq (mAsg (tTup 2 (tConsT (tName 8) (tConsT (tName 9) tNilT))) (mCall (chk 2 f__law_turn) (axD (mV 3) (axD (mOp fAdd (mV 4) (mTup (mCons (mCall (chk 2 f__law_take) (axV 1 (axD (mC (.int 2)) axNil))) mNil))) axNil))))
  (mSeq (mIfS (mOr (mTst (mOp fLt (mV 8) (mV 6))) (mTst (mOp fNotIn (mV 9) (mF (mLst (mCons (mV 7) (mCons (mOp fMul (mC (.int 2)) (mV 7)) mNil))))))) (mRet (mC (.bool false))) mSkip)
  (mSeq (mSet 10 (mCall (chk 2 f__law_take) (axV 1 (axD (mC (.int 6)) axNil))))
  (mSeq (mSet 11 (mF (mComp [17] (mItems (mCall (chk 1 f__law_rows) (axD (mV 10) axNil))) (tName 17) mYes (mCall (chk 2 f__law_turn) (axD (mV 3) (axD (mV 17) axNil))))))
  (mSeq (mIfS (mTst (mOp fNe (mUn fRepr (mCall (chk 2 f_whole_turn) (axD (mV 3) (axD (mV 10) axNil)))) (mUn fRepr (mTup (mCons (mUn fMax (mF (mComp [17, 18] (mItems (mV 11)) (tTup 2 (tConsT (tName 17) (tConsT (tName 18) tNilT))) mYes (mV 17)))) (mCons (mUn fMax (mF (mComp [17, 18] (mItems (mV 11)) (tTup 2 (tConsT (tName 17) (tConsT (tName 18) tNilT))) mYes (mV 18)))) mNil)))))) (mRet (mC (.bool false))) mSkip)
  (mIfS (mTst (mOp fNe (mCall (chk 2 f_back_count) (axD (mV 3) (axD (mV 10) axNil))) (mUn fLen (mF (mComp [17, 18] (mItems (mV 11)) (tTup 2 (tConsT (tName 17) (tConsT (tName 18) tNilT))) (mTst (mOp fEq (mV 17) (mC (.int 0)))) (mV 17)))))) (mRet (mC (.bool false))) mSkip))))))))))
  (mSeq (mAsg (tTup 2 (tConsT (tName 12) (tConsT (tName 13) tNilT))) (mTup (mCons (mCall (chk 1 f__law_odd_box) (axV 1 axNil)) (mCons (mOp fIx (mF (mLst (mCons (mCall (chk 1 f__law_odd_row) (axV 1 axNil)) (mCons (mOp fMul (mTup (mCons (mC (.int 0)) mNil)) (mC (.int 17))) mNil)))) (mCall (chk 2 f__law_take) (axV 1 (axD (mC (.int 2)) axNil)))) mNil))))
  (mSeq (mAsg (tTup 2 (tConsT (tName 14) (tConsT (tName 15) tNilT))) (mTup (mCons (mOp fIx (mF (mLst (mCons (mC .none) (mCons (mUn fNeg (mC (.int 1))) (mCons (mC (.int 7)) (mCons (mC (.bool true)) (mCons (mC (.str "1")) mNil))))))) (mCall (chk 2 f__law_take) (axV 1 (axD (mC (.int 5)) axNil)))) (mCons (mOp fIx (mF (mLst (mCons (mC .none) (mCons (mUn fNeg (mC (.int 1))) (mCons (mC (.int 41)) (mCons (mC (.bool true)) (mCons (mC (.str "1")) mNil))))))) (mCall (chk 2 f__law_take) (axV 1 (axD (mC (.int 5)) axNil)))) mNil))))
  (mSeq (mSet 16 (mOp fAdd (mF (mComp [19] (mRng1 (mC (.int 4))) (tName 19) mYes (mCall (chk 4 f__law_told) (axD (mV 19) (axD (mV 12) (axD (mC (.int 1)) (axD (mTup (mCons (mC (.int 0)) mNil)) axNil))))))) (mF (mComp [19] (mItems (mTup (mCons (mC (.int 0)) (mCons (mC (.int 1)) mNil)))) (tName 19) mYes (mCall (chk 4 f__law_told) (axD (mV 19) (axD (mV 3) (axD (mC (.int 1)) (axD (mV 13) axNil)))))))))
  (mRet (mOp fEq (mOp fAdd (mOp fAdd (mV 16) (mF (mComp [19] (mItems (mTup (mCons (mC (.int 2)) (mCons (mC (.int 3)) mNil)))) (tName 19) mYes (mCall (chk 4 f__law_told) (axD (mV 19) (axD (mV 3) (axD (mV 14) (axD (mTup mNil) axNil)))))))) (mF (mLst (mCons (mCall (chk 4 f__law_told) (axD (mC (.int 0)) (axD (mV 3) (axD (mV 15) (axD (mTup mNil) axNil))))) mNil)))) (mOp fMul (mF (mLst (mCons (mC (.str "<malformed>")) mNil))) (mC (.int 9))))))))))
def f_law : FS := runB 20 1 false m_law
end Lw

/-! Dr: the draws, the boxes drawn. -/
namespace Lw
open PySem PySem.Spec L2 DL

@[simp] theorem fAdd_int (a b : Int) : fAdd (.int a) (.int b) = some (.int (a + b)) := rfl
@[simp] theorem fSub_int (a b : Int) : fSub (.int a) (.int b) = some (.int (a - b)) := rfl
theorem fMul_lit {a b : Int} (h : -(2 ^ 64) < b ∧ b < 2 ^ 64) : fMul (.int a) (.int b) = some (.int (a * b)) := by
  unfold fMul
  dsimp only
  rw [decide_eq_true h, Bool.or_true]
  rfl
theorem fMod_pos {a b : Int} (h : 0 < b) : fMod (.int a) (.int b) = some (.int (a % b)) := by
  unfold fMod
  dsimp only
  rw [decide_eq_true h]
  rfl
theorem fFdiv_pos {a b : Int} (h : 0 < b ∧ b < 1073741824) : fFdiv (.int a) (.int b) = some (.int (a / b)) := by
  unfold fFdiv
  dsimp only
  rw [decide_eq_true h]
  rfl
@[simp] theorem fEq_int (a b : Int) : fEq (.int a) (.int b) = some (.bool (a == b)) := rfl
@[simp] theorem fNe_int (a b : Int) : fNe (.int a) (.int b) = some (.bool (!(a == b))) := rfl
@[simp] theorem fLt_int (a b : Int) : fLt (.int a) (.int b) = some (.bool (decide (a < b))) := rfl
@[simp] theorem fLe_int (a b : Int) : fLe (.int a) (.int b) = some (.bool (decide (a ≤ b))) := rfl
@[simp] theorem fInt_int (a : Int) : fInt (.int a) = some (.int a) := rfl
@[simp] theorem fLen_list (a : List PyData) : fLen (.list a) = some (.int a.length) := rfl
@[simp] theorem fLen_tuple (a : List PyData) : fLen (.tuple a) = some (.int a.length) := rfl
@[simp] theorem fNeg_int (a : Int) : fNeg (.int a) = some (.int (-a)) := rfl
theorem fIx_list {xs : List PyData} {i : Int} {x : PyData} (h : 0 ≤ i) (hx : xs[i.toNat]? = some x) : fIx (.list xs) (.int i) = some x := by
  show atI xs i = some x
  have hl := (List.getElem?_eq_some_iff.mp hx).1
  unfold atI ixN
  rw [if_pos h, if_pos (by omega)]
  exact hx
theorem fIx_tuple {xs : List PyData} {i : Int} {x : PyData} (h : 0 ≤ i) (hx : xs[i.toNat]? = some x) : fIx (.tuple xs) (.int i) = some x := by
  show atI xs i = some x
  have hl := (List.getElem?_eq_some_iff.mp hx).1
  unfold atI ixN
  rw [if_pos h, if_pos (by omega)]
  exact hx
/-- the draw may go on -/
def DI : DS → Prop
  | some s => -1 ≤ s.place
  | none => False
theorem mDrw_ev {env : Ev} {i k : Nat} {s : DSt} {x : PyData} (h : env[i]? = some .drw) (hx : drGet s k = some x) : mDrw i k env (some s) = some (.ok x, some s) := by
  unfold mDrw
  rw [h]
  dsimp only
  rw [hx]
theorem mDrwSet_ev {env : Ev} {i k : Nat} {a : ME PyData} {ds : DS} {s s' : DSt} {j : Int} (h : env[i]? = some .drw) (ha : a env ds = some (.ok (.int j), some s)) (hs : drSet s k j = some s') : mDrwSet i k a env ds = some (.nx env, some s') := by
  unfold mDrwSet
  rw [exS_ev, ha]
  dsimp only
  rw [h]
  dsimp only
  rw [hs]
def tCur (s : DSt) : DSt :=
  if s.cur = 0 then
    let p := s.place + 1
    let c := if p < s.cells.length then s.cells.getD p.toNat 0 else s.cur
    if c = 0 then ⟨s.cells, p, (s.seed * 48271 + 11) % 2147483647, (s.seed * 48271 + 11) % 2147483647⟩ else ⟨s.cells, p, c, s.seed⟩
  else s
theorem take_run (s : DSt) (h : -1 ≤ s.place) {many : Int} (h0 : 0 < many) (h1 : many < 1073741824) : f__law_take [.drw, .d (.int many)] (some s) = some (.ok (.int ((tCur s).cur % many)), some { tCur s with cur := (tCur s).cur / many }) := by
  obtain ⟨cells, place, cur, seed⟩ := s
  dsimp only at h
  have fin : ∀ s : DSt, (mSeq (mSet 2 (mOp fMod (mUn fInt (mDrw 0 2)) (mV 1))) (mSeq (mDrwSet 0 2 (mOp fFdiv (mDrw 0 2) (mV 1))) (mRet (mV 2)))) [.drw, .d (.int many), .un] (some s) = some (.rt (.int (s.cur % many)), some { s with cur := s.cur / many }) := fun s => by
    rw [mSeq_nx (env' := [.drw, .d (.int many), .d (.int (s.cur % many))]) (ds' := some s)]
    · rw [mSeq_nx (mDrwSet_ev (env := [.drw, .d (.int many), .d (.int (s.cur % many))]) (ds := some s) (s := s) (j := s.cur / many) (s' := { s with cur := s.cur / many }) rfl (by
        rw [mOp_ev, mDrw_ev (x := .int s.cur) rfl rfl, rb_ok, mV_ev]
        show ME.lift (fFdiv (.int s.cur) (.int many)) [.drw, .d (.int many), .d (.int (s.cur % many))] _ = _
        rw [fFdiv_pos ⟨h0, h1⟩]
        rfl) rfl)]
      rfl
    · rw [mSet_ev, mOp_ev, mUn_ev, mDrw_ev (x := .int s.cur) rfl rfl, rb_ok, fInt_int, lift_ok, rb_ok, mV_ev]
      show (match ME.lift (fMod (.int s.cur) (.int many)) [.drw, .d (.int many), .un] (some s) with | some (.ok x, ds') => _ | some (.exc e, ds') => _ | none => _) = _
      rw [fMod_pos h0]
      rfl
  unfold f__law_take runB m__law_take
  show (match mSeq _ _ [.drw, .d (.int many), .un] _ with | some (.rt d, ds') => _ | some (.nx _, ds') => _ | some (.ex x _, ds') => _ | _ => _) = _
  rw [mSeq_nx (env' := [.drw, .d (.int many), .un]) (ds' := some (tCur ⟨cells, place, cur, seed⟩)), fin]
  rw [mIfS_ev, mTst_ev, mOp_ev, mDrw_ev (x := .int cur) rfl rfl, rb_ok, mC_ev, rb_ok, fEq_int, lift_ok, rb_ok, lift_ok]
  dsimp only
  unfold tCur
  dsimp only
  by_cases hc : cur = 0
  · subst hc
    rw [if_pos (show ((0 : Int) == 0) = true from rfl), if_pos (rfl : (0 : Int) = 0)]
    rw [mSeq_nx (mDrwSet_ev (s := ⟨cells, place, 0, seed⟩) (j := place + 1) (s' := ⟨cells, place + 1, 0, seed⟩) rfl (by rw [mOp_ev, mDrw_ev (x := .int place) rfl rfl]; rfl) rfl)]
    rw [mSeq_nx (env' := [.drw, .d (.int many), .un]) (ds' := some ⟨cells, place + 1, (if place + 1 < cells.length then cells.getD (place + 1).toNat 0 else 0), seed⟩)]
    · generalize (if place + 1 < (cells.length : Int) then cells.getD (place + 1).toNat 0 else 0) = c
      rw [mIfS_ev, mTst_ev, mOp_ev, mDrw_ev (x := .int c) rfl rfl, rb_ok, mC_ev, rb_ok, fEq_int, lift_ok, rb_ok, lift_ok]
      dsimp only
      by_cases hz : c = 0
      · subst hz
        rw [if_pos (show ((0 : Int) == 0) = true from rfl), if_pos (rfl : (0 : Int) = 0)]
        rw [mSeq_nx (mDrwSet_ev (s := ⟨cells, place + 1, 0, seed⟩) (j := (seed * 48271 + 11) % 2147483647) (s' := ⟨cells, place + 1, 0, (seed * 48271 + 11) % 2147483647⟩) rfl (by
          rw [mOp_ev, mUn_ev, mOp_ev, mOp_ev, mDrw_ev (x := .int seed) rfl rfl, rb_ok, mC_ev, rb_ok, fMul_lit (by decide), lift_ok, rb_ok, mC_ev, rb_ok, fAdd_int, lift_ok, rb_ok, fInt_int, lift_ok, rb_ok, mC_ev, rb_ok, fMod_pos (by decide), lift_ok]) rfl)]
        exact mDrwSet_ev rfl (mDrw_ev rfl rfl) rfl
      · rw [if_neg (by simpa using hz), if_neg hz]
        rfl
    · rw [mIfS_ev, mTst_ev, mOp_ev, mDrw_ev (x := .int (place + 1)) rfl rfl, rb_ok, mUn_ev, mDrw_ev (x := .list (cells.map .int)) rfl rfl, rb_ok, fLen_list, lift_ok, rb_ok, fLt_int, lift_ok, rb_ok, lift_ok, List.length_map]
      dsimp only
      by_cases hp : place + 1 < (cells.length : Int)
      · rw [if_pos (decide_eq_true hp), if_pos hp]
        have hl : (place + 1).toNat < cells.length := by omega
        refine mDrwSet_ev (s := ⟨cells, place + 1, 0, seed⟩) (j := cells.getD (place + 1).toNat 0) rfl ?_ rfl
        rw [mOp_ev, mDrw_ev (x := .list (cells.map .int)) rfl rfl, rb_ok, mDrw_ev (x := .int (place + 1)) rfl rfl, rb_ok, fIx_list (x := .int (cells.getD (place + 1).toNat 0)) (by omega) (by rw [List.getElem?_map, List.getElem?_eq_getElem hl, List.getD_eq_getElem?_getD, List.getElem?_eq_getElem hl]; rfl), lift_ok]
      · rw [if_neg (by rw [decide_eq_false hp]; exact Bool.false_ne_true), if_neg hp]
        rfl
  · rw [if_neg (by simpa using hc), if_neg hc]
    rfl
theorem tCur_place {s : DSt} (h : -1 ≤ s.place) : -1 ≤ (tCur s).place := by
  unfold tCur
  by_cases c : s.cur = 0
  · rw [if_pos c]
    dsimp only
    generalize (if s.place + 1 < (s.cells.length : Int) then s.cells.getD (s.place + 1).toNat 0 else s.cur) = z
    by_cases d : z = 0
    · rw [if_pos d]
      show -1 ≤ s.place + 1
      omega
    · rw [if_neg d]
      show -1 ≤ s.place + 1
      omega
  · rw [if_neg c]
    exact h
/-- a draw below many -/
theorem take_ok {ds : DS} (h : DI ds) {many : Int} (h0 : 0 < many) (h1 : many < 1073741824) : ∃ r ds', f__law_take [.drw, .d (.int many)] ds = some (.ok (.int r), ds') ∧ 0 ≤ r ∧ r < many ∧ DI ds' := by
  cases ds with
  | none => exact h.elim
  | some s => exact ⟨_, _, take_run s h h0 h1, Int.emod_nonneg _ (by omega), Int.emod_lt_of_pos _ h0, show -1 ≤ (tCur s).place from tCur_place h⟩
end Lw

/-! Bx: the script's draw, orders, boxes. -/
namespace Lw
open PySem PySem.Spec L2 DL

theorem canLay_ints : ∀ xs : List Int, PyData.canLayAll0 (xs.map .int) = true
  | [] => rfl
  | x :: r => by
    show (true && PyData.canLayAll0 (r.map .int)) = true
    rw [canLay_ints r]; rfl
theorem shaped_ints (xs : List Int) : SeqAt.shaped (.list (xs.map .int)) = true ∧ SeqAt.shaped (.tuple (xs.map .int)) = true := by
  have e := PySem.W.depth_ints xs
  have c := canLay_ints xs
  refine ⟨?_, ?_⟩
  · unfold SeqAt.shaped
    rw [show (PyData.list (xs.map .int)).canLay0 = true from c, show (PyData.list (xs.map .int)).depth = PyData.depthAll (xs.map .int) + 1 by first | rfl | simp [PyData.depth] | (simp [PyData.depth]; omega), e]
    rfl
  · unfold SeqAt.shaped
    rw [show (PyData.tuple (xs.map .int)).canLay0 = true from c, show (PyData.tuple (xs.map .int)).depth = PyData.depthAll (xs.map .int) + 1 by first | rfl | simp [PyData.depth] | (simp [PyData.depth]; omega), e]
    rfl
/-- the script's draw -/
theorem draw_ok (ns : List Int) (hn : ns.length ≤ 63) : ∃ (cs : List Int) (seed : Int), f__law_draw [.scr ns] none = some (.ok (.list [.list (cs.map .int), .int (-1), .int 0, .int seed]), none) := by
  have h := for_inv (t := tName 2) (body := mSet 1 (mOp fMod (mUn fInt (mOp fAdd (mOp fAdd (mOp fMul (mV 1) (mC (.int 48271))) (mOp fMod (mUn fAbs (mUn fInt (mV 2))) (mC (.int 65521)))) (mC (.int 1)))) (mC (.int 2147483647))))
    (I := fun _ env ds => ds = none ∧ ∃ (z : Int) (x : Sl), (x = .un ∨ ∃ d, x = .d d) ∧ env = [.scr ns, .d (.int z), x]) (ns.map .int) 0 [.scr ns, .d (.int 7), .un] none (fun i x env ds hx ⟨e1, z, y, hy, e2⟩ => by
      subst e1 e2
      rw [List.getElem?_map] at hx
      obtain ⟨n, _, rfl⟩ := Option.map_eq_some_iff.mp hx
      refine ⟨[.scr ns, .d (.int z), .d (.int n)], [.scr ns, .d (.int (((z * 48271) + (if n < 0 then -n else n) % 65521 + 1) % 2147483647)), .d (.int n)], none, by rcases hy with rfl | ⟨d, rfl⟩ <;> rfl, ?_, rfl, _, _, .inr ⟨_, rfl⟩, rfl⟩
      exact gSet (gOp (gUn (gOp (gOp (gOp rfl rfl (fMul_lit (by decide))) (gOp rfl rfl (fMod_pos (by decide))) rfl) rfl rfl) rfl) rfl (fMod_pos (by decide))) rfl) ⟨rfl, 7, .un, .inl rfl, rfl⟩
  obtain ⟨env', ds', h1, rfl, z, y, hy, rfl⟩ := h
  refine ⟨ns.map fun n => if n < 0 then -n else n, z, ?_⟩
  have hc : mComp [2] (mScr 0) (tName 2) mYes (mUn fAbs (mUn fInt (mV 2))) [.scr ns, .d (.int z), y] none = some (.ok ((ns.filter fun _ => true).map fun n => .int (if n < 0 then -n else n)), none) :=
    comp_ev (env1 := [.scr ns, .d (.int z), .un]) (e := .int) (fun _ => true) (fun n => .int (if n < 0 then -n else n)) rfl (by rcases hy with rfl | ⟨d, rfl⟩ <;> rfl) (fun x _ => ⟨_, rfl, rfl, fun _ => rfl⟩) (by omega)
  have hf : ns.filter (fun _ => true) = ns := List.filter_eq_self.mpr fun _ _ => rfl
  rw [hf] at hc
  refine gRunRt (gSeq (env' := [.scr ns, .d (.int 7), .un]) rfl (gSeq (gFor rfl h1) ?_))
  rw [mRetF_ev, mLst_ev, mCons_ev, mF_ev, hc, List.map_map]
  rfl
/-- a draw, called -/
theorem take_ev {env : Ev} {ds : DS} {i : Nat} {a : ME PyData} {k : Int} (h0 : env[i]? = some .drw) (ha : a env ds = some (.ok (.int k), ds)) : mCall (chk 2 f__law_take) (axV i (axD a axNil)) env ds = f__law_take [.drw, .d (.int k)] ds := by
  rw [mCall_ev, axV_ev, h0]
  dsimp only
  rw [axD_ev, ha]
  rfl
/-! ### an order -/
theorem erase_map {α β : Type} (f : α → β) : ∀ (l : List α) (k : Nat), (l.map f).eraseIdx k = (l.eraseIdx k).map f
  | [], _ => rfl
  | _ :: _, 0 => rfl
  | x :: r, k + 1 => congrArg (f x :: ·) (erase_map f r k)
theorem fNe_sh {d e : PyData} (h1 : SeqAt.shaped d = true) (h2 : SeqAt.shaped e = true) : fNe d e = some (.bool (!PyData.eqv d e)) := by
  unfold fNe
  rw [h1, h2]
  rfl
theorem fEq_sh {d e : PyData} (h1 : SeqAt.shaped d = true) (h2 : SeqAt.shaped e = true) : fEq d e = some (.bool (PyData.eqv d e)) := by
  unfold fEq
  rw [h1, h2]
  rfl
theorem eqv_nil (xs : List PyData) : PyData.eqv (.list xs) (.list []) = xs.isEmpty := by
  cases xs <;> rfl
theorem order_ok {ds : DS} (h : DI ds) {n : Int} (h0 : 0 ≤ n) (h1 : n ≤ 100) : ∃ (xs : List Int) (ds' : DS), f__law_order [.drw, .d (.int n)] ds = some (.ok (.list (xs.map .int)), ds') ∧ DI ds' ∧ (xs.length : Int) = n ∧ ∀ x ∈ xs, 0 ≤ x ∧ x < n := by
  have w := while_inv (c := mTst (mOp fNe (mVp 2) (mF (mLst mNil)))) (body := mAppPop 3 2 (mCall (chk 2 f__law_take) (axV 0 (axD (mUn fLen (mVp 2)) axNil))))
    (I := fun k env ds => DI ds ∧ ∃ left found : List Int, env = [.drw, .d (.int n), .l (left.map .int), .l (found.map .int)] ∧ left.length = k ∧ (left.length + found.length : Int) = n ∧ ∀ x, x ∈ left ∨ x ∈ found → 0 ≤ x ∧ x < n)
    (Post := fun env ds => DI ds ∧ ∃ found : List Int, env = [.drw, .d (.int n), .l [], .l (found.map .int)] ∧ (found.length : Int) = n ∧ ∀ x ∈ found, 0 ≤ x ∧ x < n) (fun k env ds ⟨hd, left, found, e1, e2, e3, e4⟩ => by
      subst e1
      have hc : mTst (mOp fNe (mVp 2) (mF (mLst mNil))) [.drw, .d (.int n), .l (left.map .int), .l (found.map .int)] ds = some (.ok (!left.isEmpty), ds) := by
        exact gTst (gOp rfl rfl (by rw [fNe_sh (shaped_ints left).1 rfl, eqv_nil]; cases left <;> rfl))
      cases left with
      | nil => exact .inl ⟨ds, hc, hd, found, rfl, by simpa using e3, fun x hx => e4 x (.inr hx)⟩
      | cons a r =>
        right
        obtain ⟨j, ds2, t1, t2, t3, t4⟩ := take_ok hd (many := ((a :: r).length : Int)) (by rw [List.length_cons]; omega) (by omega)
        have jl : j.toNat < (a :: r).length := by omega
        refine ⟨ds, [.drw, .d (.int n), .l (((a :: r).eraseIdx j.toNat).map .int), .l ((found ++ [(a :: r)[j.toNat]]).map .int)], ds2, ((a :: r).eraseIdx j.toNat).length, hc, ?_, ?_, t4, _, _, rfl, rfl, ?_, fun x hx => ?_⟩
        · unfold mAppPop onL
          show exS _ _ [.drw, .d (.int n), .l ((a :: r).map .int), .l (found.map .int)] ds = _
          rw [exS_ev, take_ev (k := ((a :: r).length : Int)) rfl (gUn (x := .list ((a :: r).map .int)) rfl (by rw [fLen_list, List.length_map])), t1]
          dsimp only
          have g : ((a :: r).map PyData.int)[j.toNat]? = some (.int (a :: r)[j.toNat]) := by rw [List.getElem?_map, List.getElem?_eq_getElem jl]; rfl
          rw [if_pos (by
            rw [Bool.and_eq_true, Bool.and_eq_true]
            refine ⟨⟨decide_eq_true ⟨t2, by omega⟩, rfl⟩, ?_⟩
            rw [List.length_map]
            exact lt_line (by omega)), g]
          dsimp only
          rw [erase_map, List.map_append]
          rfl
        · rw [List.length_eraseIdx, if_pos jl]; omega
        · rw [List.length_eraseIdx, if_pos jl, List.length_append, List.length_singleton]
          rw [List.length_cons] at jl e3 ⊢
          omega
        · rcases hx with hx | hx
          · exact e4 x (.inl (List.mem_of_mem_eraseIdx hx))
          · rcases List.mem_append.mp hx with hx | hx
            · exact e4 x (.inr hx)
            · rw [List.mem_singleton] at hx
              subst hx
              exact e4 _ (.inl (List.getElem_mem jl)))
    1000 n.toNat [.drw, .d (.int n), .l (rangeD 0 n.toNat), .l []] ds (by omega) ⟨h, (List.range n.toNat).map fun (k : Nat) => (0 + (k : Int)), [], by
      unfold rangeD
      rw [List.map_map]
      rfl, by rw [List.length_map, List.length_range], by rw [List.length_map, List.length_range, List.length_nil]; omega, fun x hx => by
        rcases hx with hx | hx
        · obtain ⟨k, hk, rfl⟩ := List.mem_map.mp hx
          have := List.mem_range.mp hk
          omega
        · cases hx⟩
  obtain ⟨env', ds', h2, hd, found, rfl, h3, h4⟩ := w
  refine ⟨found, ds', ?_, hd, h3, h4⟩
  unfold f__law_order runB m__law_order
  show (match mSeq _ _ [.drw, .d (.int n), .un, .un] ds with | some (.rt d, ds') => _ | some (.nx _, ds') => _ | some (.ex x _, ds') => _ | _ => _) = _
  rw [mSeq_nx (env' := [.drw, .d (.int n), .l (rangeD 0 n.toNat), .l []]) (ds' := ds)]
  · rw [mSeq_nx h2]
    rfl
  · unfold mParLL
    rw [exS_ev, mRgL1_int (mV 1) (j := n) (ds' := ds) rfl (decide_eq_true (by omega))]
    rfl
end Lw

/-! By: boxes drawn. -/
namespace Lw
open PySem PySem.Spec L2 DL

/-- a state's two moves: where to and what is put out -/
abbrev Row := (Int × Int) × (Int × Int)
def eMv (m : Int × Int) : PyData := .tuple [.int m.1, .int m.2]
def eRow (r : Row) : PyData := .tuple [eMv r.1, eMv r.2]
def eBox (b : List Row) : PyData := .tuple (b.map eRow)
def okMv (n : Int) (m : Int × Int) : Prop := (0 ≤ m.1 ∧ m.1 < n) ∧ 0 ≤ m.2 ∧ m.2 < 2
def okRow (n : Int) (r : Row) : Prop := okMv n r.1 ∧ okMv n r.2
def frS (x : Sl) : Prop := x = .un ∨ ∃ d, x = .d d
theorem sh2 : short 2 = true := short_of (by decide)
theorem two_ok {env : Ev} {ds : DS} (h : DI ds) {i : Nat} {a b : ME PyData} {p q : Int} (h0 : env[i]? = some .drw) (ha : ∀ ds, a env ds = some (.ok (.int p), ds)) (hb : ∀ ds, b env ds = some (.ok (.int q), ds)) (hp : 0 < p ∧ p < 1073741824) (hq : 0 < q ∧ q < 1073741824) :
    ∃ (x y : Int) (ds' : DS), mTup (mCons (mCall (chk 2 f__law_take) (axV i (axD a axNil))) (mCons (mCall (chk 2 f__law_take) (axV i (axD b axNil))) mNil)) env ds = some (.ok (.tuple [.int x, .int y]), ds') ∧ DI ds' ∧ (0 ≤ x ∧ x < p) ∧ 0 ≤ y ∧ y < q := by
  obtain ⟨x, ds1, x1, x2, x3, x4⟩ := take_ok h hp.1 hp.2
  obtain ⟨y, ds2, y1, y2, y3, y4⟩ := take_ok x4 hq.1 hq.2
  exact ⟨x, y, ds2, gTup (gCons ((take_ev h0 (ha _)).trans x1) (gCons ((take_ev h0 (hb _)).trans y1) rfl)) sh2, y4, ⟨x2, x3⟩, y2, y3⟩
/-- how far a box is drawn -/
def BI (most n kind : Int) (i : Nat) (env : Ev) (ds : DS) : Prop := DI ds ∧ ∃ (b : List Row) (x5 x6 : Sl), frS x5 ∧ frS x6 ∧ b.length = i ∧ (∀ r ∈ b, okRow n r) ∧ env = [.drw, .d (.int most), .d (.int n), .d (.int kind), .l (b.map eRow), x5, x6, .un, .un, .un, .un, .un, .un]
theorem row_step {most n kind : Int} (hn : 0 < n ∧ n < 1000) {i : Nat} {x : PyData} {env : Ev} {ds : DS} (hi : i < 1000) (h : BI most n kind i env ds) : ∃ env1 env2 ds2, tName 5 x env = some env1 ∧ (mSeq (mSet 6 (mF (mComp [9] (mRng1 (mC (.int 2))) (tName 9) mYes (mTup (mCons (mCall (chk 2 f__law_take) (axV 0 (axD (mV 2) axNil))) (mCons (mCall (chk 2 f__law_take) (axV 0 (axD (mC (.int 2)) axNil))) mNil))))))
  (mSeq (mIfS (mTst (mOp fEq (mV 3) (mC (.int 0)))) (mSet 6 (mF (mComp [10, 11] (mItems (mV 6)) (tTup 2 (tConsT (tName 10) (tConsT (tName 11) tNilT))) mYes (mTup (mCons (mV 10) (mCons (mOp fIx (mOp fIx (mV 6) (mC (.int 0))) (mC (.int 1))) mNil)))))) mSkip)
  (mApp 4 (mUn fTuple (mV 6))))) env1 ds = some (.nx env2, ds2) ∧ BI most n kind (i + 1) env2 ds2 := by
  obtain ⟨hd, b, x5, x6, h5, h6, hb, hr, rfl⟩ := h
  have e1 : tName 5 x [.drw, .d (.int most), .d (.int n), .d (.int kind), .l (b.map eRow), x5, x6, .un, .un, .un, .un, .un, .un] = some [.drw, .d (.int most), .d (.int n), .d (.int kind), .l (b.map eRow), .d x, x6, .un, .un, .un, .un, .un, .un] := by
    rcases h5 with rfl | ⟨d, rfl⟩ <;> rfl
  obtain ⟨ys, ds1, c1, c2, c3⟩ := comp_draw (env := [.drw, .d (.int most), .d (.int n), .d (.int kind), .l (b.map eRow), .d x, x6, .un, .un, .un, .un, .un, .un]) (vs := [9]) (mi := mRng1 (mC (.int 2))) (t := tName 9) (I := DI)
    (elt := mTup (mCons (mCall (chk 2 f__law_take) (axV 0 (axD (mV 2) axNil))) (mCons (mCall (chk 2 f__law_take) (axV 0 (axD (mC (.int 2)) axNil))) mNil)))
    (P := fun _ y => ∃ m : Int × Int, y = eMv m ∧ okMv n m) (items := [.int 0, .int 1]) (ds := ds) (env1 := [.drw, .d (.int most), .d (.int n), .d (.int kind), .l (b.map eRow), .d x, x6, .un, .un, .un, .un, .un, .un]) rfl rfl (fun z hz => ⟨_, rfl, fun ds hd => by
      obtain ⟨p, q, ds', t1, t2, t3, t4⟩ := two_ok (env := [.drw, .d (.int most), .d (.int n), .d (.int kind), .l (b.map eRow), .d x, x6, .un, .un, .d z, .un, .un, .un]) hd (i := 0) (a := mV 2) (b := mC (.int 2)) (p := n) (q := 2) rfl (fun _ => rfl) (fun _ => rfl) ⟨hn.1, by omega⟩ ⟨by decide, by decide⟩
      exact ⟨_, ds', t1, t2, (p, q), rfl, t3, t4⟩⟩) hd (by decide)
  cases c3 with
  | cons k1 c3 =>
    cases c3 with
    | cons k2 c3 =>
      cases c3
      obtain ⟨m1, rfl, g1⟩ := k1
      obtain ⟨m2, rfl, g2⟩ := k2
      have s1 : mSet 6 (mF (mComp [9] (mRng1 (mC (.int 2))) (tName 9) mYes (mTup (mCons (mCall (chk 2 f__law_take) (axV 0 (axD (mV 2) axNil))) (mCons (mCall (chk 2 f__law_take) (axV 0 (axD (mC (.int 2)) axNil))) mNil))))) [.drw, .d (.int most), .d (.int n), .d (.int kind), .l (b.map eRow), .d x, x6, .un, .un, .un, .un, .un, .un] ds = some (.nx [.drw, .d (.int most), .d (.int n), .d (.int kind), .l (b.map eRow), .d x, .d (.list [eMv m1, eMv m2]), .un, .un, .un, .un, .un, .un], ds1) :=
        gSet (gF c1) (by rcases h6 with rfl | ⟨d, rfl⟩ <;> rfl)
      have s2 : ∃ m2' : Int × Int, okMv n m2' ∧ mIfS (mTst (mOp fEq (mV 3) (mC (.int 0)))) (mSet 6 (mF (mComp [10, 11] (mItems (mV 6)) (tTup 2 (tConsT (tName 10) (tConsT (tName 11) tNilT))) mYes (mTup (mCons (mV 10) (mCons (mOp fIx (mOp fIx (mV 6) (mC (.int 0))) (mC (.int 1))) mNil)))))) mSkip [.drw, .d (.int most), .d (.int n), .d (.int kind), .l (b.map eRow), .d x, .d (.list [eMv m1, eMv m2]), .un, .un, .un, .un, .un, .un] ds1
          = some (.nx [.drw, .d (.int most), .d (.int n), .d (.int kind), .l (b.map eRow), .d x, .d (.list [eMv m1, eMv m2']), .un, .un, .un, .un, .un, .un], ds1) := by
        by_cases hk : kind = 0
        · subst hk
          exact ⟨(m2.1, m1.2), ⟨g2.1, g1.2⟩, (gIfT rfl).trans rfl⟩
        · exact ⟨m2, g2, (gIfF (gTst (gOp rfl rfl (by rw [fEq_int, show (kind == 0) = false from beq_eq_false_iff_ne.mpr hk])))).trans rfl⟩
      obtain ⟨m3, g3, s2⟩ := s2
      have hl : (b.map eRow).length < 16777216 := by rw [List.length_map]; omega
      refine ⟨_, _, _, e1, gSeq s1 (gSeq s2 (gApp (xs := b.map eRow) (x := eRow (m1, m3)) rfl rfl hl)), c2, b ++ [(m1, m3)], .d x, .d (.list [eMv m1, eMv m3]), .inr ⟨_, rfl⟩, .inr ⟨_, rfl⟩, by rw [List.length_append, hb]; rfl, fun r hrr => ?_, ?_⟩
      · rcases List.mem_append.mp hrr with q | q
        · exact hr r q
        · rw [List.mem_singleton] at q
          subst q
          exact ⟨g1, g3⟩
      · rw [List.map_append]
        rfl
theorem box_ok {ds : DS} (h : DI ds) {most : Int} (hm : 0 < most ∧ most ≤ 60) : ∃ (b : List Row) (ds' : DS), f__law_box [.drw, .d (.int most)] ds = some (.ok (eBox b), ds') ∧ DI ds' ∧ 1 ≤ b.length ∧ (b.length : Int) ≤ most ∧ ∀ r ∈ b, okRow b.length r := by
  obtain ⟨r0, ds0, a1, a2, a3, a4⟩ := take_ok h hm.1 (by omega)
  obtain ⟨kind, ds1, b1, b2, b3, b4⟩ := take_ok a4 (many := 4) (by decide) (by decide)
  have hn : 0 < 1 + r0 ∧ 1 + r0 < 1000 := by omega
  obtain ⟨env2, ds2, c1, c2⟩ := for_inv (t := tName 5) (I := BI most (1 + r0) kind) (rangeD 0 (1 + r0).toNat) 0 [.drw, .d (.int most), .d (.int (1 + r0)), .d (.int kind), .l [], .un, .un, .un, .un, .un, .un, .un, .un] ds1 (fun i x env ds hx hI => row_step hn (by
    have := (List.getElem?_eq_some_iff.mp hx).1
    unfold rangeD at this
    rw [List.length_map, List.length_range] at this
    omega) hI) ⟨b4, [], .un, .un, .inl rfl, .inl rfl, rfl, (fun _ q => by cases q), rfl⟩
  obtain ⟨d2, b, x5, x6, h5, h6, hb, hr, rfl⟩ := c2
  have hbl : (b.length : Int) = 1 + r0 := by
    rw [hb]
    unfold rangeD
    rw [List.length_map, List.length_range]
    omega
  have head : ∀ {o : Option (Fl × DS)} {m : MS}, m [.drw, .d (.int most), .d (.int (1 + r0)), .d (.int kind), .l (b.map eRow), x5, x6, .un, .un, .un, .un, .un, .un] ds2 = o →
      (mSeq (mSet 2 (mOp fAdd (mC (.int 1)) (mCall (chk 2 f__law_take) (axV 0 (axD (mV 1) axNil))))) (mSeq (mSet 3 (mCall (chk 2 f__law_take) (axV 0 (axD (mC (.int 4)) axNil)))) (mSeq (mSetL 4 (mLst mNil)) (mSeq (mFor (mRng1 (mV 2)) (tName 5) (mSeq (mSet 6 (mF (mComp [9] (mRng1 (mC (.int 2))) (tName 9) mYes (mTup (mCons (mCall (chk 2 f__law_take) (axV 0 (axD (mV 2) axNil))) (mCons (mCall (chk 2 f__law_take) (axV 0 (axD (mC (.int 2)) axNil))) mNil))))))
  (mSeq (mIfS (mTst (mOp fEq (mV 3) (mC (.int 0)))) (mSet 6 (mF (mComp [10, 11] (mItems (mV 6)) (tTup 2 (tConsT (tName 10) (tConsT (tName 11) tNilT))) mYes (mTup (mCons (mV 10) (mCons (mOp fIx (mOp fIx (mV 6) (mC (.int 0))) (mC (.int 1))) mNil)))))) mSkip)
  (mApp 4 (mUn fTuple (mV 6)))))) m)))) [.drw, .d (.int most), .un, .un, .un, .un, .un, .un, .un, .un, .un, .un, .un] ds = o := fun {o m} q =>
    gSeq (gSet (gOp rfl ((take_ev rfl rfl).trans a1) rfl) rfl) (gSeq (gSet ((take_ev rfl rfl).trans b1) rfl) (gSeq (gSetL rfl rfl) (gSeq (gFor (mRng1_int (mV 2) rfl (by omega)) c1) q)))
  by_cases hk : kind = 1
  · subst hk
    obtain ⟨one, ds3, o1, o2, o3, o4⟩ := order_ok d2 (n := 1 + r0) (by omega) (by omega)
    obtain ⟨two, ds4, t1, t2, t3, t4⟩ := order_ok o2 (n := 1 + r0) (by omega) (by omega)
    have ord : ∀ {env : Ev} {ds ds' : DS} {xs : List Int}, env[0]? = some .drw → env[2]? = some (.d (.int (1 + r0))) → f__law_order [.drw, .d (.int (1 + r0))] ds = some (.ok (.list (xs.map .int)), ds') → mCall (chk 2 f__law_order) (axV 0 (axD (mV 2) axNil)) env ds = some (.ok (.list (xs.map .int)), ds') := fun {env ds ds' xs} q0 q2 q => by
      refine gCall (args := [.drw, .d (.int (1 + r0))]) (ds1 := ds) ?_ rfl q
      rw [axV_ev, q0]
      dsimp only
      rw [axD_ev, mV_ev, q2]
      rfl
    let g : Nat → Row := fun k => ((one.getD k 0, (b.getD k ((0, 0), (0, 0))).1.2), (two.getD k 0, (b.getD k ((0, 0), (0, 0))).2.2))
    have hc : mComp [12] (mRng1 (mV 2)) (tName 12) mYes (mTup (mCons (mTup (mCons (mOp fIx (mV 7) (mV 12)) (mCons (mOp fIx (mOp fIx (mOp fIx (mVp 4) (mV 12)) (mC (.int 0))) (mC (.int 1))) mNil))) (mCons (mTup (mCons (mOp fIx (mV 8) (mV 12)) (mCons (mOp fIx (mOp fIx (mOp fIx (mVp 4) (mV 12)) (mC (.int 1))) (mC (.int 1))) mNil))) mNil))) [.drw, .d (.int most), .d (.int (1 + r0)), .d (.int 1), .l (b.map eRow), x5, x6, .d (.list (one.map .int)), .d (.list (two.map .int)), .un, .un, .un, .un] ds4
        = some (.ok (((List.range (1 + r0).toNat).filter fun _ => true).map fun k => eRow (g k)), ds4) := by
      refine comp_ev (env1 := [.drw, .d (.int most), .d (.int (1 + r0)), .d (.int 1), .l (b.map eRow), x5, x6, .d (.list (one.map .int)), .d (.list (two.map .int)), .un, .un, .un, .un]) (e := fun (k : Nat) => .int (0 + (k : Int))) (fun _ => true) (fun k => eRow (g k)) (mRng1_int (mV 2) rfl (by omega)) rfl (fun k hk => ⟨[.drw, .d (.int most), .d (.int (1 + r0)), .d (.int 1), .l (b.map eRow), x5, x6, .d (.list (one.map .int)), .d (.list (two.map .int)), .un, .un, .un, .d (.int (0 + (k : Int)))], rfl, rfl, fun _ => ?_⟩) (by rw [List.length_range]; omega)
      have hk := List.mem_range.mp hk
      have k1 : k < one.length := by omega
      have k2 : k < two.length := by omega
      have k3 : k < b.length := by omega
      have kz : (0 + (k : Int)).toNat = k := by omega
      have gb : fIx (.list (b.map eRow)) (.int (0 + (k : Int))) = some (eRow (b.getD k ((0, 0), (0, 0)))) := fIx_list (by omega) (by rw [kz, List.getElem?_map, List.getElem?_eq_getElem k3, List.getD_eq_getElem?_getD, List.getElem?_eq_getElem k3]; rfl)
      have g1 : fIx (.list (one.map .int)) (.int (0 + (k : Int))) = some (.int (one.getD k 0)) := fIx_list (by omega) (by rw [kz, List.getElem?_map, List.getElem?_eq_getElem k1, List.getD_eq_getElem?_getD, List.getElem?_eq_getElem k1]; rfl)
      have g2 : fIx (.list (two.map .int)) (.int (0 + (k : Int))) = some (.int (two.getD k 0)) := fIx_list (by omega) (by rw [kz, List.getElem?_map, List.getElem?_eq_getElem k2, List.getD_eq_getElem?_getD, List.getElem?_eq_getElem k2]; rfl)
      exact gTup (gCons (gTup (gCons (gOp rfl rfl g1) (gCons (gOp (gOp (gOp rfl rfl gb) rfl rfl) rfl rfl) rfl)) sh2) (gCons (gTup (gCons (gOp rfl rfl g2) (gCons (gOp (gOp (gOp rfl rfl gb) rfl rfl) rfl rfl) rfl)) sh2) rfl)) sh2
    have hf : (List.range (1 + r0).toNat).filter (fun _ => true) = List.range (1 + r0).toNat := List.filter_eq_self.mpr fun _ _ => rfl
    rw [hf] at hc
    have ln : ((List.range (1 + r0).toNat).map g).length = b.length := by rw [List.length_map, List.length_range]; omega
    refine ⟨(List.range (1 + r0).toNat).map g, ds4, gRunRt (head (gSeq (env' := [.drw, .d (.int most), .d (.int (1 + r0)), .d (.int 1), .l (((List.range (1 + r0).toNat).map g).map eRow), x5, x6, .d (.list (one.map .int)), .d (.list (two.map .int)), .un, .un, .un, .un]) ((gIfT rfl).trans (gSeq (gAsg (gTup (gCons (ord rfl rfl o1) (gCons (ord rfl rfl t1) rfl)) sh2) rfl) (gSetL hc (by rw [List.map_map]; rfl)))) rfl)), t2, ?_, ?_, fun r hrr => ?_⟩
    · rw [ln]; omega
    · rw [ln]; omega
    · obtain ⟨k, hk, rfl⟩ := List.mem_map.mp hrr
      have hk := List.mem_range.mp hk
      have k1 : k < one.length := by omega
      have k2 : k < two.length := by omega
      have k3 : k < b.length := by omega
      have q1 := o4 one[k] (List.getElem_mem k1)
      have q2 := t4 two[k] (List.getElem_mem k2)
      have q3 := hr b[k] (List.getElem_mem k3)
      rw [ln, hbl]
      show okMv _ (one.getD k 0, _) ∧ okMv _ (two.getD k 0, _)
      simp only [List.getD_eq_getElem?_getD, List.getElem?_eq_getElem k1, List.getElem?_eq_getElem k2, List.getElem?_eq_getElem k3, Option.getD_some]
      exact ⟨⟨q1, q3.1.2⟩, ⟨q2, q3.2.2⟩⟩
  · refine ⟨b, ds2, gRunRt (head (gSeq ((gIfF (gTst (gOp rfl rfl (by rw [fEq_int, show (kind == 1) = false from beq_eq_false_iff_ne.mpr hk])))).trans rfl) rfl)), d2, by omega, by omega, fun r hrr => by rw [hbl]; exact hr r hrr⟩
end Lw

/-! Od: odd boxes are told to be malformed. -/
namespace Lw
open PySem PySem.Spec L2 DL

def oddL : List PyData := [.none,
  (.tuple []),
  (.int 5),
  (.list [(.tuple [(.tuple [(.int 0), (.int 0)]), (.tuple [(.int 0), (.int 0)])])]),
  (.tuple [(.tuple [(.tuple [(.int 0), (.int 0)])])]),
  (.tuple [(.tuple [(.tuple [(.int 1), (.int 0)]), (.tuple [(.int 0), (.int 0)])])]),
  (.tuple [(.tuple [(.tuple [(.int 0), (.int 2)]), (.tuple [(.int 0), (.int 0)])])]),
  (.tuple [(.tuple [(.tuple [(.int 0), (.bool true)]), (.tuple [(.int 0), (.int 0)])])]),
  (.tuple [(.tuple [(.tuple [(.int 0), (.int 0)]), (.tuple [(.int 0), (.int 0)]), (.tuple [(.int 0), (.int 0)])])]),
  (.tuple [(.tuple [(.tuple [(.int (-1)), (.int 0)]), (.tuple [(.int 0), (.int 0)])])]),
  (.tuple [(.list [(.tuple [(.int 0), (.int 0)]), (.tuple [(.int 0), (.int 0)])])]),
  (.tuple [(.tuple [(.tuple [(.int 0), (.int 0)]), (.list [(.int 0), (.int 0)])])]),
  (.tuple [(.tuple [(.tuple [(.int 0), (.int 0)]), (.tuple [(.int 0), (.int 0)])]), (.tuple [(.tuple [(.int 0), (.int 0)]), (.tuple [(.int 0), (.int 0)])]), (.tuple [(.tuple [(.int 0), (.int 0)]), (.tuple [(.int 0), (.int 0)])]), (.tuple [(.tuple [(.int 0), (.int 0)]), (.tuple [(.int 0), (.int 0)])]), (.tuple [(.tuple [(.int 0), (.int 0)]), (.tuple [(.int 0), (.int 0)])]), (.tuple [(.tuple [(.int 0), (.int 0)]), (.tuple [(.int 0), (.int 0)])]), (.tuple [(.tuple [(.int 0), (.int 0)]), (.tuple [(.int 0), (.int 0)])])]),
  (.tuple [(.tuple [(.tuple [(.int 0)]), (.tuple [(.int 0), (.int 0)])])]),
  (.tuple [.none])]
theorem all_mem {α : Type} {P : α → Prop} : ∀ {l : List α}, (l.foldr (fun x q => P x ∧ q) True) → ∀ x ∈ l, P x
  | [], _, x, h => by cases h
  | y :: r, h, x, hx => by
    rcases List.mem_cons.mp hx with e | e
    · subst e; exact h.1
    · exact all_mem (l := r) h.2 x e
theorem odd_bad : ∀ d ∈ oddL, ∀ ds : DS, f_check_box [.d d] ds = some (.exc .malformed, ds) :=
  all_mem (P := fun d => ∀ ds : DS, f_check_box [.d d] ds = some (.exc .malformed, ds)) ⟨fun _ => rfl, fun _ => rfl, fun _ => rfl, fun _ => rfl, fun _ => rfl, fun _ => rfl, fun _ => rfl, fun _ => rfl, fun _ => rfl, fun _ => rfl, fun _ => rfl, fun _ => rfl, fun _ => rfl, fun _ => rfl, fun _ => rfl, trivial⟩
theorem odd_ok {ds : DS} (h : DI ds) : ∃ (d : PyData) (ds' : DS), f__law_odd_box [.drw] ds = some (.ok d, ds') ∧ DI ds' ∧ ∀ ds : DS, f_check_box [.d d] ds = some (.exc .malformed, ds) := by
  obtain ⟨r, ds', t1, t2, t3, t4⟩ := take_ok h (many := 15) (by decide) (by decide)
  have hl : r.toNat < oddL.length := by
    show r.toNat < 15
    omega
  refine ⟨oddL[r.toNat], ds', gRunRt (gSeq rfl (gRet (gOp (x := .list oddL) (ds1 := ds) rfl ((take_ev rfl rfl).trans t1) (fIx_list t2 (List.getElem?_eq_getElem hl))))), t4, odd_bad _ (List.getElem_mem hl)⟩
end Lw

/-! T69a: walks, turns: plain mathematics. -/
namespace Lw
open PySem PySem.Spec L2 DL

/-! ### the walk of a row -/
def rowAt (b : List Row) (s : Int) : Row := b.getD s.toNat ((0, 0), (0, 0))
def mv (b : List Row) (s x : Int) : Int × Int := if x = 0 then (rowAt b s).1 else (rowAt b s).2
def wkO (b : List Row) : Int → List Int → List Int
  | _, [] => []
  | s, x :: r => (mv b s x).2 :: wkO b (mv b s x).1 r
def wkS (b : List Row) : Int → List Int → Int
  | s, [] => s
  | s, x :: r => wkS b (mv b s x).1 r
def Bin (r : List Int) : Prop := ∀ x ∈ r, x = 0 ∨ x = 1
structure BoxOk (b : List Row) : Prop where
  one : 1 ≤ b.length
  five : b.length ≤ 5
  rows : ∀ r ∈ b, okRow b.length r
section
variable {b : List Row}
theorem wkO_add (x : Int) : ∀ (r : List Int) (s : Int), wkO b s (r ++ [x]) = wkO b s r ++ [(mv b (wkS b s r) x).2]
  | [], _ => rfl
  | y :: r, s => by
    show (mv b s y).2 :: wkO b (mv b s y).1 (r ++ [x]) = _
    rw [wkO_add x r]
    rfl
theorem wkS_add (x : Int) : ∀ (r : List Int) (s : Int), wkS b s (r ++ [x]) = (mv b (wkS b s r) x).1
  | [], _ => rfl
  | y :: r, s => by
    show wkS b (mv b s y).1 (r ++ [x]) = _
    rw [wkS_add x r]
    rfl
theorem wkO_len : ∀ (r : List Int) (s : Int), (wkO b s r).length = r.length
  | [], _ => rfl
  | y :: r, s => by
    show (wkO b _ r).length + 1 = r.length + 1
    rw [wkO_len r]
theorem BoxOk.row (B : BoxOk b) {s : Int} (h : 0 ≤ s ∧ s < (b.length : Int)) : okRow b.length (rowAt b s) := by
  have hl : s.toNat < b.length := by omega
  unfold rowAt
  rw [List.getD_eq_getElem?_getD, List.getElem?_eq_getElem hl]
  exact B.rows _ (List.getElem_mem hl)
theorem BoxOk.mv (B : BoxOk b) {s x : Int} (h : 0 ≤ s ∧ s < (b.length : Int)) : okMv b.length (mv b s x) := by
  unfold Lw.mv
  split
  · exact (B.row h).1
  · exact (B.row h).2
theorem BoxOk.wkS (B : BoxOk b) : ∀ (r : List Int) (s : Int), 0 ≤ s ∧ s < (b.length : Int) → 0 ≤ wkS b s r ∧ wkS b s r < (b.length : Int)
  | [], _, h => h
  | x :: r, s, h => B.wkS r _ (B.mv h).1
theorem BoxOk.wkO (B : BoxOk b) : ∀ (r : List Int) (s : Int), 0 ≤ s ∧ s < (b.length : Int) → Bin (wkO b s r)
  | [], _, _ => fun x h => nomatch h
  | x :: r, s, h => fun y hy => by
    rcases List.mem_cons.mp hy with e | e
    · have q := (B.mv (x := x) h).2
      rw [e]
      omega
    · exact B.wkO r _ (B.mv h).1 y e
end
/-! ### orbits and their turns -/
def orb {α : Type} (f : α → α) (x : α) : Nat → α
  | 0 => x
  | k + 1 => f (orb f x k)
structure Turn {α : Type} (f : α → α) (x : α) (i d : Nat) : Prop where
  pos : 1 ≤ d
  ne : ∀ a c, a < c → c < i + d → orb f x a ≠ orb f x c
  back : orb f x (i + d) = orb f x i
section
variable {α : Type} {f : α → α} {x : α} {i d : Nat}
theorem Turn.per (T : Turn f x i d) : ∀ k, orb f x (i + k + d) = orb f x (i + k)
  | 0 => T.back
  | k + 1 => by
    rw [show i + (k + 1) + d = (i + k + d) + 1 by omega]
    show f (orb f x (i + k + d)) = f (orb f x (i + k))
    rw [T.per k]
theorem Turn.mul (T : Turn f x i d) (k : Nat) : ∀ m, orb f x (i + k + m * d) = orb f x (i + k)
  | 0 => by rw [Nat.zero_mul]; rfl
  | m + 1 => by
    rw [Nat.succ_mul, show i + k + (m * d + d) = i + (k + m * d) + d by omega, T.per, show i + (k + m * d) = i + k + m * d by omega, T.mul k m]
theorem Turn.red (T : Turn f x i d) {a : Nat} (h : i ≤ a) : orb f x a = orb f x (i + (a - i) % d) := by
  have e := Nat.div_add_mod (a - i) d
  have q := T.mul ((a - i) % d) ((a - i) / d)
  rw [show i + (a - i) % d + (a - i) / d * d = a by rw [Nat.mul_comm]; omega] at q
  exact q
theorem Turn.eq (T : Turn f x i d) {a c : Nat} (h : a < c) (e : orb f x a = orb f x c) : i ≤ a ∧ d ∣ (c - a) := by
  have dp := T.pos
  have hc : i ≤ c := by
    rcases Nat.lt_or_ge c i with q | q
    · exact absurd e (T.ne a c h (by omega))
    · exact q
  have rc := T.red hc
  have lc : (c - i) % d < d := Nat.mod_lt _ dp
  have ha : i ≤ a := by
    rcases Nat.lt_or_ge a i with q | q
    · exact absurd (e.trans rc) (T.ne a (i + (c - i) % d) (by omega) (by omega))
    · exact q
  refine ⟨ha, ?_⟩
  have ra := T.red ha
  have la : (a - i) % d < d := Nat.mod_lt _ dp
  have me : (a - i) % d = (c - i) % d := by
    rcases Nat.lt_trichotomy ((a - i) % d) ((c - i) % d) with q | q | q
    · exact absurd (ra.symm.trans (e.trans rc)) (T.ne (i + (a - i) % d) (i + (c - i) % d) (by omega) (by omega))
    · exact q
    · exact absurd (rc.symm.trans (e.symm.trans ra)) (T.ne (i + (c - i) % d) (i + (a - i) % d) (by omega) (by omega))
  have e1 := Nat.div_add_mod (a - i) d
  have e2 := Nat.div_add_mod (c - i) d
  refine ⟨(c - i) / d - (a - i) / d, ?_⟩
  rw [Nat.mul_sub]
  omega
theorem Turn.one (T : Turn f x i d) {i' d' : Nat} (T' : Turn f x i' d') : i = i' ∧ d = d' := by
  have h1 := T.eq (a := i') (c := i' + d') (by have := T'.pos; omega) T'.back.symm
  have h2 := T'.eq (a := i) (c := i + d) (by have := T.pos; omega) T.back.symm
  rw [show i' + d' - i' = d' by omega] at h1
  rw [show i + d - i = d by omega] at h2
  exact ⟨by omega, Nat.dvd_antisymm h1.2 h2.2⟩
/-- either the first n are apart or there is a turn -/
theorem turn_or (f : α → α) (x : α) : ∀ n, (∀ a c, a < c → c < n → orb f x a ≠ orb f x c) ∨ ∃ i d, Turn f x i d ∧ i + d < n
  | 0 => .inl fun a c _ h => absurd h (Nat.not_lt_zero _)
  | n + 1 => by
    rcases turn_or f x n with h | ⟨i, d, T, h⟩
    · by_cases q : ∃ a, a < n ∧ orb f x a = orb f x n
      · obtain ⟨a, ha, e⟩ := q
        refine .inr ⟨a, n - a, ⟨by omega, fun p c hp hc => h p c hp (by omega), ?_⟩, by omega⟩
        rw [show a + (n - a) = n by omega]
        exact e.symm
      · refine .inl fun a c hac hc => ?_
        rcases Nat.lt_or_ge c n with z | z
        · exact h a c hac z
        · have : c = n := by omega
          subst this
          exact fun e => q ⟨a, hac, e⟩
    · exact .inr ⟨i, d, T, by omega⟩
theorem nodup_lenG {β : Type} [DecidableEq β] : ∀ {l m : List β}, l.Nodup → (∀ x ∈ l, x ∈ m) → l.length ≤ m.length
  | [], _, _, _ => Nat.zero_le _
  | x :: r, m, h, hs => by
    rw [List.nodup_cons] at h
    have hm := hs x List.mem_cons_self
    have h2 : ∀ y ∈ r, y ∈ m.erase x := fun y hy => (List.mem_erase_of_ne (fun e => h.1 (by rw [← e]; exact hy))).mpr (hs y (List.mem_cons_of_mem _ hy))
    have q := nodup_lenG h.2 h2
    rw [List.length_erase_of_mem hm] at q
    have := List.length_pos_of_mem hm
    rw [List.length_cons]
    omega
def orbL (f : α → α) (x : α) (n : Nat) : List α := (List.range n).map (orb f x)
theorem orbL_succ (f : α → α) (x : α) (n : Nat) : orbL f x (n + 1) = orbL f x n ++ [orb f x n] := by
  unfold orbL
  rw [List.range_succ, List.map_append]
  rfl
theorem orbL_mem {n : Nat} {y : α} : y ∈ orbL f x n ↔ ∃ k, k < n ∧ orb f x k = y := by
  unfold orbL
  rw [List.mem_map]
  exact ⟨fun ⟨k, h, e⟩ => ⟨k, List.mem_range.mp h, e⟩, fun ⟨k, h, e⟩ => ⟨k, List.mem_range.mpr h, e⟩⟩
theorem orbL_nodup {n : Nat} (h : ∀ a c, a < c → c < n → orb f x a ≠ orb f x c) : (orbL f x n).Nodup := by
  unfold orbL
  rw [List.Nodup, List.pairwise_map]
  refine (List.pairwise_lt_range (n := n)).imp_of_mem fun {a c} ha hc hac => h a c hac (List.mem_range.mp hc)
end
/-! ### rows -/
def allR : Nat → List (List Int)
  | 0 => [[]]
  | n + 1 => (allR n).flatMap fun r => [r ++ [0], r ++ [1]]
theorem allR_len : ∀ n, (allR n).length = 2 ^ n
  | 0 => rfl
  | n + 1 => by
    show ((allR n).flatMap _).length = _
    rw [List.length_flatMap]
    have : ((allR n).map fun r => [r ++ [(0 : Int)], r ++ [1]].length) = (allR n).map fun _ => 2 := rfl
    rw [this, Nat.pow_succ, ← allR_len n]
    induction allR n with
    | nil => rfl
    | cons y r ih =>
      rw [List.map_cons, List.sum_cons, ih, List.length_cons]
      omega
theorem allR_mem : ∀ (n : Nat) (r : List Int), r.length = n → Bin r → r ∈ allR n
  | 0, r, h, _ => by
    rw [List.length_eq_zero_iff.mp h]
    exact List.mem_cons_self
  | n + 1, r, h, hb => by
    have ne : r ≠ [] := fun e => by rw [e] at h; cases h
    have e := List.dropLast_concat_getLast ne
    have hm := allR_mem n r.dropLast (by rw [List.length_dropLast]; omega) fun x hx => hb x (List.dropLast_subset _ hx)
    refine List.mem_flatMap.mpr ⟨_, hm, ?_⟩
    rcases hb _ (List.getLast_mem ne) with q | q
    · rw [q] at e; rw [← e]; simp
    · rw [q] at e; rw [← e]; simp
section
variable {b : List Row}
def Wf (b : List Row) (r : List Int) : List Int := wkO b 0 r
theorem orb_ok (B : BoxOk b) {r : List Int} (hr : Bin r) : ∀ k, (orb (Wf b) r k).length = r.length ∧ Bin (orb (Wf b) r k)
  | 0 => ⟨rfl, hr⟩
  | k + 1 => by
    have h := orb_ok B hr k
    exact ⟨(wkO_len _ _).trans h.1, B.wkO _ _ ⟨by omega, by have := B.one; omega⟩⟩
theorem turn_ex (B : BoxOk b) {r : List Int} (hr : Bin r) : ∃ i d, Turn (Wf b) r i d ∧ i + d ≤ 2 ^ r.length := by
  rcases turn_or (Wf b) r (2 ^ r.length + 1) with h | ⟨i, d, T, h⟩
  · exfalso
    have q := nodup_lenG (orbL_nodup h) (m := allR r.length) fun y hy => by
      obtain ⟨k, _, rfl⟩ := orbL_mem.mp hy
      exact allR_mem _ _ (orb_ok B hr k).1 (orb_ok B hr k).2
    unfold orbL at q
    rw [List.length_map, List.length_range, allR_len] at q
    omega
  · exact ⟨i, d, T, by omega⟩
/-- the walk of a longer row begins as that of the shorter -/
theorem orb_add (x : Int) (r : List Int) : ∀ k, ∃ z, orb (Wf b) (r ++ [x]) k = orb (Wf b) r k ++ [z]
  | 0 => ⟨x, rfl⟩
  | k + 1 => by
    obtain ⟨z, e⟩ := orb_add x r k
    refine ⟨(mv b (wkS b 0 (orb (Wf b) r k)) z).2, ?_⟩
    show Wf b (orb (Wf b) (r ++ [x]) k) = _
    rw [e]
    exact wkO_add z _ _
theorem turn_add (B : BoxOk b) {r : List Int} {x : Int} (hr : Bin (r ++ [x])) {i d i' d' : Nat} (T : Turn (Wf b) r i d) (T' : Turn (Wf b) (r ++ [x]) i' d') : i ≤ i' ∧ (d' = d ∨ d' = 2 * d) := by
  have cut : ∀ a c, orb (Wf b) (r ++ [x]) a = orb (Wf b) (r ++ [x]) c → orb (Wf b) r a = orb (Wf b) r c := fun a c e => by
    obtain ⟨z, e1⟩ := orb_add (b := b) x r a
    obtain ⟨w, e2⟩ := orb_add (b := b) x r c
    rw [e1, e2] at e
    exact (List.append_inj' e rfl).1
  have dp' := T'.pos
  have h1 := T.eq (a := i') (c := i' + d') (by omega) (cut _ _ T'.back).symm
  rw [show i' + d' - i' = d' by omega] at h1
  refine ⟨h1.1, ?_⟩
  have dp := T.pos
  -- three places a turn apart; two of them end alike
  have pre : ∀ m, orb (Wf b) r (i' + m * d) = orb (Wf b) r i' := fun m => by
    have q := T.mul (i' - i) m
    rw [show i + (i' - i) = i' by omega] at q
    exact q
  have last : ∀ m, ∃ z, (z = 0 ∨ z = 1) ∧ orb (Wf b) (r ++ [x]) (i' + m * d) = orb (Wf b) r i' ++ [z] := fun m => by
    obtain ⟨z, e⟩ := orb_add (b := b) x r (i' + m * d)
    rw [pre m] at e
    exact ⟨z, (orb_ok B hr (i' + m * d)).2 z (by rw [e]; exact List.mem_append_right _ List.mem_cons_self), e⟩
  have fin : ∀ m n, m < n → n ≤ 2 → orb (Wf b) (r ++ [x]) (i' + m * d) = orb (Wf b) (r ++ [x]) (i' + n * d) → d' ∣ (n - m) * d := fun m n hmn hn e => by
    have lt : i' + m * d < i' + n * d := by
      have := Nat.mul_lt_mul_of_pos_right hmn dp
      omega
    have q := (T'.eq lt e).2
    rw [show i' + n * d - (i' + m * d) = (n - m) * d by rw [Nat.sub_mul]; omega] at q
    exact q
  have two : d' ∣ d ∨ d' ∣ 2 * d := by
    obtain ⟨z0, h0, e0⟩ := last 0
    obtain ⟨z1, h1, e1⟩ := last 1
    obtain ⟨z2, h2, e2⟩ := last 2
    by_cases q : z0 = z1
    · left
      have := fin 0 1 (by decide) (by decide) (by rw [e0, e1, q])
      rwa [Nat.sub_zero, Nat.one_mul] at this
    · by_cases q2 : z1 = z2
      · left
        have := fin 1 2 (by decide) (by decide) (by rw [e1, e2, q2])
        rwa [show 2 - 1 = 1 from rfl, Nat.one_mul] at this
      · right
        have q3 : z0 = z2 := by omega
        have := fin 0 2 (by decide) (by decide) (by rw [e0, e2, q3])
        rwa [Nat.sub_zero] at this
  obtain ⟨t, ht⟩ := h1.2
  rcases two with q | q
  · exact .inl (Nat.dvd_antisymm q h1.2)
  · obtain ⟨u, hu⟩ := q
    have : t * u = 2 := by
      have e : d * 2 = d * (t * u) := by rw [Nat.mul_comm d 2, hu, ht, Nat.mul_assoc]
      exact (Nat.eq_of_mul_eq_mul_left dp e).symm
    have tl : t ≤ 2 := Nat.le_of_dvd (by decide) ⟨u, this.symm⟩
    rcases Nat.lt_or_ge t 1 with z | z
    · have : t = 0 := by omega
      subst this
      omega
    · rcases Nat.lt_or_ge t 2 with w | w
      · have : t = 1 := by omega
        subst this
        left; omega
      · have : t = 2 := by omega
        subst this
        right; omega
theorem turn_pow (B : BoxOk b) : ∀ (n : Nat) (r : List Int), r.length = n → Bin r → ∀ {i d : Nat}, Turn (Wf b) r i d → ∃ k, k ≤ n ∧ d = 2 ^ k
  | 0, r, h, hr, i, d, T => by
    have e := List.length_eq_zero_iff.mp h
    subst e
    have T0 : Turn (Wf b) [] 0 1 := ⟨Nat.le_refl _, fun a c h1 h2 => by omega, rfl⟩
    exact ⟨0, Nat.le_refl _, (T.one T0).2⟩
  | n + 1, r, h, hr, i, d, T => by
    have ne : r ≠ [] := fun e => by rw [e] at h; cases h
    have e := List.dropLast_concat_getLast ne
    have hr0 : Bin r.dropLast := fun x hx => hr x (List.dropLast_subset _ hx)
    obtain ⟨i0, d0, T0, _⟩ := turn_ex B hr0
    obtain ⟨k, hk, e0⟩ := turn_pow B n r.dropLast (by rw [List.length_dropLast]; omega) hr0 T0
    have q := turn_add B (x := r.getLast ne) (by rw [e]; exact hr) T0 (by rw [e]; exact T)
    rcases q.2 with z | z
    · exact ⟨k, by omega, z.trans e0⟩
    · exact ⟨k + 1, by omega, by rw [z, e0, Nat.pow_succ, Nat.mul_comm]⟩
end
end Lw

/-! Cm: rows, boxes that are boxes. -/
namespace Lw
open PySem PySem.Spec L2 DL

def eR (l : List Int) : PyData := .tuple (l.map .int)
theorem fAll_map (bs : List Bool) : fAll (.list (bs.map .bool)) = some (.bool (bs.all id)) := by
  unfold fAll
  dsimp only
  rw [boolsOf_map]
  rfl
theorem fAny_map (bs : List Bool) : fAny (.list (bs.map .bool)) = some (.bool (bs.any id)) := by
  unfold fAny
  dsimp only
  rw [boolsOf_map]
  rfl
theorem put_fr {env : Ev} {i : Nat} {x y : Sl} (h : env[i]? = some y) (hy : frS y) : put i x env = some (env.set i x) := by
  have hl := (List.getElem?_eq_some_iff.mp h).1
  unfold put notLk
  rw [h, decide_eq_true hl]
  rcases hy with rfl | ⟨d, rfl⟩ <;> rfl
theorem filter_yes {α : Type} (l : List α) : l.filter (fun _ => true) = l := List.filter_eq_self.mpr fun _ _ => rfl
/-! ### a box is a box -/
section
variable {b : List Row} {ds : DS}
theorem box_at {s : Int} (h0 : 0 ≤ s) (h1 : s < b.length) : fIx (eBox b) (.int s) = some (eRow (b.getD s.toNat ((0, 0), (0, 0)))) := fIx_tuple h0 (by
  have hl : s.toNat < b.length := by omega
  rw [List.getElem?_map, List.getElem?_eq_getElem hl, List.getD_eq_getElem?_getD, List.getElem?_eq_getElem hl]
  rfl)
theorem row_in {s : Int} (hr : ∀ r ∈ b, okRow b.length r) (h0 : 0 ≤ s) (h1 : s < b.length) : okRow b.length (b.getD s.toNat ((0, 0), (0, 0))) := by
  have hl : s.toNat < b.length := by omega
  rw [List.getD_eq_getElem?_getD, List.getElem?_eq_getElem hl]
  exact hr _ (List.getElem_mem hl)
theorem is_move_ok {n : Int} {m : Int × Int} (h : okMv n m) : f_is_move [.d (eMv m), .d (.int n)] ds = some (.ok (.bool true), ds) := by
  refine gRunRt (gSeq ((gIfF rfl).trans rfl) (gRet ?_))
  obtain ⟨⟨h1, h2⟩, h3, h4⟩ := h
  have e : (PyData.bool true) = .bool ((decide (0 ≤ m.1) && decide (m.1 < n)) && (decide (0 ≤ m.2) && decide (m.2 ≤ 1))) := by
    rw [decide_eq_true h1, decide_eq_true h2, decide_eq_true h3, decide_eq_true (by omega : m.2 ≤ 1)]
    rfl
  rw [e]
  exact gAndV (gChain (u := .int n) rfl (gOp rfl rfl rfl) (fLe_int _ _) rfl (fLt_int _ _)) (gChain (u := .int 1) rfl (gOp rfl rfl rfl) (fLe_int _ _) rfl (fLe_int _ _))
theorem is_box_ok (h1 : 1 ≤ b.length) (h5 : b.length ≤ 5) (hr : ∀ r ∈ b, okRow b.length r) : f_is_box [.d (eBox b)] ds = some (.ok (.bool true), ds) := by
  have c1 : mComp [1] (mItems (mV 0)) (tName 1) mYes (mAndV (mIsi 2 (mV 1)) (mOp fEq (mUn fLen (mV 1)) (mC (.int 2)))) [.d (eBox b), .un, .un] ds = some (.ok ((b.filter fun _ => true).map fun _ => .bool true), ds) :=
    comp_ev (env1 := [.d (eBox b), .un, .un]) (e := eRow) (fun _ => true) (fun _ => .bool true) rfl rfl (fun r _ => ⟨_, rfl, rfl, fun _ => rfl⟩) (by omega)
  have c2 : mComp2 [1, 2] (mItems (mV 0)) (tName 1) mYes (mItems (mV 1)) [2] (tName 2) mYes (mCall (chk 2 f_is_move) (axD (mV 2) (axD (mUn fLen (mV 0)) axNil))) [.d (eBox b), .un, .un] ds = some (.ok (b.flatMap fun r => [r.1, r.2].map fun _ => .bool true), ds) :=
    comp2_ev (env1 := [.d (eBox b), .un, .un]) (e := eRow) (e' := eMv) (fun r => [r.1, r.2]) (fun _ _ => .bool true) 2 rfl rfl (fun r hrr => ⟨Nat.le_refl _, [.d (eBox b), .d (eRow r), .un], [.d (eBox b), .d (eRow r), .un], rfl, rfl, rfl, rfl, fun m hm => ⟨[.d (eBox b), .d (eRow r), .d (eMv m)], rfl, rfl, by
      refine gCall (args := [.d (eMv m), .d (.int b.length)]) (ds1 := ds) (gAx rfl (gAx (gUn (x := eBox b) rfl (by show fLen (.tuple (b.map eRow)) = _; rw [fLen_tuple, List.length_map])) rfl)) rfl (is_move_ok ?_)
      have q := hr r hrr
      rcases List.mem_cons.mp hm with e | e
      · rw [e]; exact q.1
      · rw [List.mem_singleton.mp e]; exact q.2⟩⟩) (by omega)
  rw [filter_yes] at c1
  have e1 : (b.map fun _ => PyData.bool true) = (b.map fun _ => true).map .bool := by rw [List.map_map]; rfl
  have e2 : (b.flatMap fun r => [r.1, r.2].map fun _ => PyData.bool true) = (b.flatMap fun _ => [true, true]).map .bool := by rw [List.map_flatMap]; rfl
  rw [e1] at c1
  rw [e2] at c2
  refine gRunRt (gSeq (env' := [.d (eBox b), .un, .un]) (ds1 := ds) ((gIfF ?_).trans rfl) (gSeq (env' := [.d (eBox b), .un, .un]) (ds1 := ds) ((gIfF ?_).trans rfl) (gRet (gUn (gF c2) ?_))))
  · refine gOr (k := false) (k' := false) rfl ?_
    have e : (false : Bool) = !(decide ((1 : Int) ≤ (b.length : Int)) && decide ((b.length : Int) ≤ 5)) := by
      rw [decide_eq_true (by omega : (1 : Int) ≤ (b.length : Int)), decide_eq_true (by omega : (b.length : Int) ≤ 5)]
      rfl
    rw [e]
    exact gNot (gTst (gChain (u := k_MOST_STATES) (y := .int b.length) rfl (gUn (x := eBox b) rfl (by show fLen (.tuple (b.map eRow)) = _; rw [fLen_tuple, List.length_map])) (fLe_int _ _) rfl (fLe_int _ _)))
  · refine (gNot (k := true) (gTst (gUn (gF c1) ?_)) : _)
    rw [fAll_map, List.all_map]
    have : (b.all (id ∘ fun _ => true)) = true := List.all_eq_true.mpr fun _ _ => rfl
    rw [this]
  · rw [fAll_map]
    have : (b.flatMap fun _ => [true, true]).all id = true := List.all_eq_true.mpr fun x hx => by
      obtain ⟨_, _, q⟩ := List.mem_flatMap.mp hx
      rcases List.mem_cons.mp q with e | e
      · rw [e]; rfl
      · rw [List.mem_singleton.mp e]; rfl
    rw [this]
theorem check_box_ok (h1 : 1 ≤ b.length) (h5 : b.length ≤ 5) (hr : ∀ r ∈ b, okRow b.length r) : f_check_box [.d (eBox b)] ds = some (.ok .none, ds) :=
  gRunNx (env' := [.d (eBox b)]) ((gIfF (gNot (k := true) (gTst (gCall (ds1 := ds) (gAx rfl rfl) rfl (is_box_ok h1 h5 hr))))).trans rfl)
end
theorem eqv_ints : ∀ l m : List Int, PyData.eqvAll (l.map .int) (m.map .int) = (l == m)
  | [], [] => rfl
  | [], _ :: _ => rfl
  | _ :: _, [] => rfl
  | x :: l, y :: m => by
    show ((x == y) && PyData.eqvAll (l.map .int) (m.map .int)) = _
    rw [eqv_ints l m]
    rfl
theorem ne_rows (l m : List Int) : fNe (eR l) (eR m) = some (.bool (!(l == m))) := by
  unfold eR
  rw [fNe_sh (shaped_ints l).2 (shaped_ints m).2]
  show some (PyData.bool !(PyData.eqvAll (l.map .int) (m.map .int))) = _
  rw [eqv_ints]
theorem eq_lists (l m : List Int) : fEq (.list (l.map .int)) (.list (m.map .int)) = some (.bool (l == m)) := by
  rw [fEq_sh (shaped_ints l).1 (shaped_ints m).1]
  show some (PyData.bool (PyData.eqvAll (l.map .int) (m.map .int))) = _
  rw [eqv_ints]
theorem gDropEx {a : ME PyData} {env : Ev} {ds ds1 : DS} {e : Exn} (h : a env ds = some (.exc e, ds1)) : mDrop a env ds = some (.ex e env, ds1) := by rw [mDrop_ev, h]
theorem gRetEx {a : ME PyData} {env : Ev} {ds ds1 : DS} {e : Exn} (h : a env ds = some (.exc e, ds1)) : mRet a env ds = some (.ex e env, ds1) := by rw [mRet_ev, h]
end Lw

/-! T69b: walks and turns as the defs give them. -/
namespace Lw
open PySem PySem.Spec L2 DL

section
variable {b : List Row} {ds : DS}
theorem BoxOk.zero (B : BoxOk b) : 0 ≤ (0 : Int) ∧ (0 : Int) < (b.length : Int) := ⟨by omega, by have := B.one; omega⟩
theorem row_ix (r : Row) {x : Int} (h : x = 0 ∨ x = 1) : fIx (eRow r) (.int x) = some (eMv (if x = 0 then r.1 else r.2)) := by
  rcases h with rfl | rfl <;> rfl
theorem step_ix (B : BoxOk b) {s x : Int} (hs : 0 ≤ s ∧ s < (b.length : Int)) (hx : x = 0 ∨ x = 1) {env : Ev} {a c e : ME PyData} (ha : a env ds = some (.ok (eBox b), ds)) (hc : c env ds = some (.ok (.int s), ds)) (he : e env ds = some (.ok (.int x), ds)) : mOp fIx (mOp fIx a c) e env ds = some (.ok (eMv (mv b s x)), ds) :=
  gOp (gOp ha hc (box_at hs.1 hs.2)) he (row_ix _ hx)
theorem take_next {α : Type} {l : List α} {i : Nat} {x : α} (h : l[i]? = some x) : l.take (i + 1) = l.take i ++ [x] := by
  rw [List.take_add_one, h]; rfl
theorem walk_ok (B : BoxOk b) {s : Int} (hs : 0 ≤ s ∧ s < (b.length : Int)) {r : List Int} (hr : Bin r) (hl : r.length ≤ 1000) : f_walk [.d (eBox b), .d (.int s), .d (eR r)] ds = some (.ok (.tuple [eR (wkO b s r), .int (wkS b s r)]), ds) := by
  obtain ⟨env', ds', l1, rfl, x4, x5, h4, h5, rfl⟩ := for_inv (t := tName 4) (body := mSeq (mAsg (tTup 2 (tConsT (tName 1) (tConsT (tName 5) tNilT))) (mOp fIx (mOp fIx (mV 0) (mV 1)) (mV 4))) (mApp 3 (mV 5)))
    (I := fun i env d => d = ds ∧ ∃ x4 x5, frS x4 ∧ frS x5 ∧ env = [.d (eBox b), .d (.int (wkS b s (r.take i))), .d (eR r), .l ((wkO b s (r.take i)).map .int), x4, x5]) (r.map .int) 0 [.d (eBox b), .d (.int s), .d (eR r), .l [], .un, .un] ds (fun i z env d hz ⟨e1, x4, x5, h4, h5, e2⟩ => by
      subst e1 e2
      rw [Nat.zero_add]
      rw [List.getElem?_map] at hz
      obtain ⟨x, hx, rfl⟩ := Option.map_eq_some_iff.mp hz
      have hb := hr x (List.mem_of_getElem? hx)
      have hw := B.wkS (r.take i) s hs
      have e : mOp fIx (mOp fIx (mV 0) (mV 1)) (mV 4) [.d (eBox b), .d (.int (wkS b s (r.take i))), .d (eR r), .l ((wkO b s (r.take i)).map .int), .d (.int x), x5] d = some (.ok (eMv (mv b (wkS b s (r.take i)) x)), d) := step_ix B hw hb rfl rfl rfl
      refine ⟨_, [.d (eBox b), .d (.int (wkS b s (r.take (i + 1)))), .d (eR r), .l ((wkO b s (r.take (i + 1))).map .int), .d (.int x), .d (.int (mv b (wkS b s (r.take i)) x).2)], d, put_fr rfl h4, gSeq (env' := [.d (eBox b), .d (.int (mv b (wkS b s (r.take i)) x).1), .d (eR r), .l ((wkO b s (r.take i)).map .int), .d (.int x), .d (.int (mv b (wkS b s (r.take i)) x).2)]) (gAsg e ?_) ?_, rfl, _, _, .inr ⟨_, rfl⟩, .inr ⟨_, rfl⟩, rfl⟩
      · rcases h5 with rfl | ⟨w, rfl⟩ <;> rfl
      · rw [take_next hx, wkS_add, wkO_add, List.map_append]
        refine gApp rfl rfl ?_
        rw [List.length_map, wkO_len, List.length_take]
        omega) ⟨rfl, .un, .un, .inl rfl, .inl rfl, by rw [List.take_zero]; rfl⟩
  rw [Nat.zero_add, List.length_map, List.take_length] at l1
  exact gRunRt (gSeq rfl (gSeq (gFor rfl l1) (gRet (gTup (gCons (gUn rfl rfl) (gCons rfl rfl)) sh2))))
theorem law_walk_ok (B : BoxOk b) {s : Int} (hs : 0 ≤ s ∧ s < (b.length : Int)) {r : List Int} (hr : Bin r) (hl : r.length ≤ 1000) : f__law_walk [.d (eBox b), .d (.int s), .d (eR r)] ds = some (.ok (.tuple [eR (wkO b s r), .int (wkS b s r)]), ds) := by
  obtain ⟨env', ds', l1, rfl, x4, x5, h4, h5, rfl⟩ := for_inv (t := tName 4) (body := mSeq (mAsg (tTup 2 (tConsT (tName 1) (tConsT (tName 5) tNilT))) (mOp fIx (mOp fIx (mV 0) (mV 1)) (mV 4))) (mSet 3 (mOp fAdd (mV 3) (mTup (mCons (mV 5) mNil)))))
    (I := fun i env d => d = ds ∧ ∃ x4 x5, frS x4 ∧ frS x5 ∧ env = [.d (eBox b), .d (.int (wkS b s (r.take i))), .d (eR r), .d (eR (wkO b s (r.take i))), x4, x5]) (r.map .int) 0 [.d (eBox b), .d (.int s), .d (eR r), .d (eR []), .un, .un] ds (fun i z env d hz ⟨e1, x4, x5, h4, h5, e2⟩ => by
      subst e1 e2
      rw [Nat.zero_add]
      rw [List.getElem?_map] at hz
      obtain ⟨x, hx, rfl⟩ := Option.map_eq_some_iff.mp hz
      have hb := hr x (List.mem_of_getElem? hx)
      have hw := B.wkS (r.take i) s hs
      have e : mOp fIx (mOp fIx (mV 0) (mV 1)) (mV 4) [.d (eBox b), .d (.int (wkS b s (r.take i))), .d (eR r), .d (eR (wkO b s (r.take i))), .d (.int x), x5] d = some (.ok (eMv (mv b (wkS b s (r.take i)) x)), d) := step_ix B hw hb rfl rfl rfl
      refine ⟨_, [.d (eBox b), .d (.int (wkS b s (r.take (i + 1)))), .d (eR r), .d (eR (wkO b s (r.take (i + 1)))), .d (.int x), .d (.int (mv b (wkS b s (r.take i)) x).2)], d, put_fr rfl h4, gSeq (env' := [.d (eBox b), .d (.int (mv b (wkS b s (r.take i)) x).1), .d (eR r), .d (eR (wkO b s (r.take i))), .d (.int x), .d (.int (mv b (wkS b s (r.take i)) x).2)]) (gAsg e ?_) ?_, rfl, _, _, .inr ⟨_, rfl⟩, .inr ⟨_, rfl⟩, rfl⟩
      · rcases h5 with rfl | ⟨w, rfl⟩ <;> rfl
      · rw [take_next hx, wkS_add, wkO_add]
        refine gSet (gOp (y := eR [(mv b (wkS b s (r.take i)) x).2]) rfl (gTup (gCons rfl rfl) (short_of (by show 1 ≤ _; decide))) ?_) (put_fr (y := .d (eR (wkO b s (r.take i)))) rfl (.inr ⟨_, rfl⟩))
        show (if short _ then some (PyData.tuple _) else none) = some (eR _)
        rw [short_of (by rw [List.length_map, List.length_map, wkO_len, List.length_take]; show _ + 1 ≤ _; omega), if_pos rfl]
        unfold eR
        rw [List.map_append]) ⟨rfl, .un, .un, .inl rfl, .inl rfl, by rw [List.take_zero]; rfl⟩
  rw [Nat.zero_add, List.length_map, List.take_length] at l1
  exact gRunRt (gSeq rfl (gSeq (gFor rfl l1) (gRet (gTup (gCons rfl (gCons rfl rfl)) sh2))))
theorem orb_call (B : BoxOk b) {r : List Int} (hr : Bin r) (hl : r.length ≤ 1000) {env : Ev} {a : ME PyData} {k : Nat} (h0 : env[0]? = some (.d (eBox b))) (ha : a env ds = some (.ok (eR (orb (Wf b) r k)), ds)) :
    mOp fIx (mCall (chk 3 f_walk) (axD (mV 0) (axD (mC (.int 0)) (axD a axNil)))) (mC (.int 0)) env ds = some (.ok (eR (orb (Wf b) r (k + 1))), ds) ∧ mOp fIx (mCall (chk 3 f__law_walk) (axD (mV 0) (axD (mC (.int 0)) (axD a axNil)))) (mC (.int 0)) env ds = some (.ok (eR (orb (Wf b) r (k + 1))), ds) := by
  have O := orb_ok B hr k
  have v0 : mV 0 env ds = some (.ok (eBox b), ds) := by rw [mV_ev, h0]
  exact ⟨gOp (gCall (args := [.d (eBox b), .d (.int 0), .d (eR (orb (Wf b) r k))]) (ds1 := ds) (gAx v0 (gAx rfl (gAx ha rfl))) rfl (walk_ok B B.zero O.2 (by rw [O.1]; exact hl))) rfl rfl,
    gOp (gCall (args := [.d (eBox b), .d (.int 0), .d (eR (orb (Wf b) r k))]) (ds1 := ds) (gAx v0 (gAx rfl (gAx ha rfl))) rfl (law_walk_ok B B.zero O.2 (by rw [O.1]; exact hl))) rfl rfl⟩
end
end Lw

/-! T69c: turns as the defs give them. -/
namespace Lw
open PySem PySem.Spec L2 DL

theorem canLay_rows : ∀ l : List (List Int), PyData.canLayAll0 (l.map eR) = true
  | [] => rfl
  | r :: l => by
    show ((PyData.tuple (r.map .int)).canLay0 && PyData.canLayAll0 (l.map eR)) = true
    rw [canLay_rows l, show (PyData.tuple (r.map .int)).canLay0 = true from canLay_ints r]
    rfl
theorem depth_row (r : List Int) : (eR r).depth = 1 := by
  unfold eR
  rw [depth_tuple, PySem.W.depth_ints]
theorem shaped_rows (l : List (List Int)) : SeqAt.shaped (.list (l.map eR)) = true := by
  unfold SeqAt.shaped
  rw [show (PyData.list (l.map eR)).canLay0 = true from canLay_rows l, depth_list]
  refine decide_eq_true ?_
  have := depthAll_le (k := 1) (l.map eR) fun x hx => by
    obtain ⟨r, _, rfl⟩ := List.mem_map.mp hx
    rw [depth_row]
    exact Nat.le_refl _
  omega
theorem eqv_rows (x y : List Int) : PyData.eqv (eR x) (eR y) = (x == y) := eqv_ints x y
theorem notIn_rows (x : List Int) (l : List (List Int)) : fNotIn (eR x) (.list (l.map eR)) = some (.bool (!l.any fun y => y == x)) := by
  show (if SeqAt.shaped (eR x) && SeqAt.shaped (.list (l.map eR)) then some (PyData.bool (!(l.map eR).any fun z => PyData.eqv z (eR x))) else none) = _
  rw [show SeqAt.shaped (eR x) = true from (shaped_ints x).2, shaped_rows l, List.any_map]
  have e : ((fun z => PyData.eqv z (eR x)) ∘ eR) = fun y => y == x := by
    funext y
    exact eqv_rows y x
  rw [e]
  rfl
theorem ix_rows {x : List Int} : ∀ (l : List (List Int)) (k i : Nat), l[i]? = some x → (∀ m, m < i → l[m]? ≠ some x) → ixFrom (eR x) k (l.map eR) = some (k + i)
  | [], _, _, h, _ => by simp at h
  | y :: r, k, 0, h, _ => by
    have e : y = x := by simpa using h
    subst e
    show (if PyData.eqv (eR y) (eR y) then some k else _) = _
    rw [eqv_rows, beq_self_eq_true, if_pos rfl]
    rfl
  | y :: r, k, i + 1, h, hn => by
    have ne : y ≠ x := fun e => hn 0 (Nat.succ_pos _) (by rw [e]; rfl)
    show (if PyData.eqv (eR y) (eR x) then some k else ixFrom (eR x) (k + 1) (r.map eR)) = _
    rw [eqv_rows, beq_eq_false_iff_ne.mpr ne, if_neg Bool.false_ne_true, ix_rows r (k + 1) i (by simpa using h) fun m hm q => hn (m + 1) (by omega) (by simpa using q)]
    congr 1
    omega
section
variable {b : List Row} {ds : DS} {r : List Int} {i d : Nat}
theorem orbL_get {f : List Int → List Int} {x : List Int} {n k : Nat} (h : k < n) : (orbL f x n)[k]? = some (orb f x k) := by
  unfold orbL
  rw [List.getElem?_map, List.getElem?_range h]
  rfl
/-- while it goes on, the next is new -/
theorem orb_new {f : List Int → List Int} (T : Turn f r i d) {m : Nat} (h : m < i + d) : ((orbL f r m).any fun y => y == orb f r m) = false := by
  rw [← Bool.not_eq_true, List.any_eq_true]
  rintro ⟨y, hy, e⟩
  obtain ⟨k, hk, rfl⟩ := orbL_mem.mp hy
  exact T.ne k m hk h (beq_iff_eq.mp e)
theorem orb_old {f : List Int → List Int} (T : Turn f r i d) : ((orbL f r (i + d)).any fun y => y == orb f r (i + d)) = true := by
  rw [List.any_eq_true]
  exact ⟨orb f r i, orbL_mem.mpr ⟨i, by have := T.pos; omega, rfl⟩, by rw [T.back]; exact beq_self_eq_true _⟩
theorem orb_ix {f : List Int → List Int} (T : Turn f r i d) : ixFrom (eR (orb f r (i + d))) 0 ((orbL f r (i + d)).map eR) = some i := by
  have := T.pos
  rw [T.back, ix_rows _ 0 i (orbL_get (by omega)) fun m hm q => ?_, Nat.zero_add]
  rw [orbL_get (by omega)] at q
  exact T.ne m i hm (by omega) (Option.some.inj q)
def eT (i d : Nat) : PyData := .tuple [.int (i : Int), .int (d : Int)]
theorem index_ok (T : Turn (Wf b) r i d) {env : Ev} {a c : ME PyData} (ha : a env ds = some (.ok (.list ((orbL (Wf b) r (i + d)).map eR)), ds)) (hc : c env ds = some (.ok (eR (orb (Wf b) r (i + d))), ds)) : mIndex a c env ds = some (.ok (.int (i : Int)), ds) := by
  unfold mIndex
  rw [mbind_ev, ha, rb_ok, mbind_ev]
  show Rz.bind (some (.ok (), ds)) _ = _
  rw [rb_ok, mbind_ev, hc, rb_ok]
  unfold fIndex
  dsimp only
  rw [show SeqAt.shaped (eR (orb (Wf b) r (i + d))) = true from (shaped_ints _).2, shaped_rows, Bool.and_self, if_pos rfl, orb_ix T]
  rfl
theorem law_turn_ok (B : BoxOk b) (hr : Bin r) (hl : r.length ≤ 1000) (T : Turn (Wf b) r i d) (hid : i + d ≤ 900) : f__law_turn [.d (eBox b), .d (eR r)] ds = some (.ok (eT i d), ds) := by
  have tp := T.pos
  have w := while_inv (c := mTst (mOp fNotIn (mV 3) (mVp 2))) (body := mSeq (mApp 2 (mV 3)) (mSet 3 (mOp fIx (mCall (chk 3 f__law_walk) (axD (mV 0) (axD (mC (.int 0)) (axD (mV 3) axNil)))) (mC (.int 0)))))
    (I := fun k env z => z = ds ∧ ∃ m, m + k = i + d ∧ 1 ≤ m ∧ env = [.d (eBox b), .d (eR r), .l ((orbL (Wf b) r m).map eR), .d (eR (orb (Wf b) r m))])
    (Post := fun env z => z = ds ∧ env = [.d (eBox b), .d (eR r), .l ((orbL (Wf b) r (i + d)).map eR), .d (eR (orb (Wf b) r (i + d)))]) (fun k env z ⟨e1, m, hm, h1, e2⟩ => by
      subst e1 e2
      have hc : mTst (mOp fNotIn (mV 3) (mVp 2)) [.d (eBox b), .d (eR r), .l ((orbL (Wf b) r m).map eR), .d (eR (orb (Wf b) r m))] z = some (.ok (!(orbL (Wf b) r m).any fun y => y == orb (Wf b) r m), z) := gTst (gOp rfl rfl (notIn_rows _ _))
      by_cases q : m < i + d
      · rw [orb_new T q] at hc
        refine .inr ⟨z, [.d (eBox b), .d (eR r), .l ((orbL (Wf b) r (m + 1)).map eR), .d (eR (orb (Wf b) r (m + 1)))], z, k - 1, hc, gSeq (gApp (xs := (orbL (Wf b) r m).map eR) rfl rfl (by rw [List.length_map]; unfold orbL; rw [List.length_map, List.length_range]; omega)) (gSet (orb_call B hr hl (k := m) rfl rfl).2 ?_), by omega, rfl, m + 1, by omega, by omega, rfl⟩
        rw [orbL_succ, List.map_append]
        rfl
      · have : m = i + d := by omega
        subst this
        rw [orb_old T] at hc
        exact .inl ⟨z, hc, rfl, rfl⟩) 1000 (i + d - 1) [.d (eBox b), .d (eR r), .l [eR r], .d (eR (orb (Wf b) r 1))] ds (by omega) ⟨rfl, 1, by omega, Nat.le_refl _, rfl⟩
  obtain ⟨env', ds', h2, rfl, rfl⟩ := w
  refine gRunRt (gSeq (env' := [.d (eBox b), .d (eR r), .l [eR r], .un]) rfl (gSeq (gSet (orb_call B hr hl (k := 0) rfl rfl).2 rfl) (gSeq h2 (gRet (gTup (gCons (index_ok T rfl rfl) (gCons (gOp (gUn (x := .list ((orbL (Wf b) r (i + d)).map eR)) rfl (fLen_list _)) (index_ok T rfl rfl) ?_) rfl)) sh2)))))
  rw [fSub_int, List.length_map]
  unfold orbL
  rw [List.length_map, List.length_range]
  congr 2
  omega
/-! ### by a dict -/
def turnD (b : List Row) (r : List Int) (m : Nat) : DcL := (List.range m).map fun k => (orb (Wf b) r k, .int (k : Int))
theorem turnD_succ (m : Nat) : turnD b r (m + 1) = turnD b r m ++ [(orb (Wf b) r m, .int (m : Int))] := by
  unfold turnD
  rw [List.range_succ, List.map_append]
  rfl
theorem turnD_none (T : Turn (Wf b) r i d) {m : Nat} (h : m < i + d) : dGet true (turnD b r m) (orb (Wf b) r m) = none ∧ ((turnD b r m).any fun p => keyEq true p.1 (orb (Wf b) r m)) = false := by
  have no : ∀ p ∈ turnD b r m, ¬ keyEq true p.1 (orb (Wf b) r m) = true := fun p hp q => by
    obtain ⟨k, hk, rfl⟩ := List.mem_map.mp hp
    exact T.ne k m (List.mem_range.mp hk) h (beq_iff_eq.mp q)
  refine ⟨?_, ?_⟩
  · unfold dGet
    rw [List.find?_eq_none.mpr no]
    rfl
  · rw [← Bool.not_eq_true, List.any_eq_true]
    rintro ⟨p, hp, q⟩
    exact no p hp q
theorem turnD_some (T : Turn (Wf b) r i d) : dGet true (turnD b r (i + d)) (orb (Wf b) r (i + d)) = some (.int (i : Int)) := by
  have tp := T.pos
  have e : turnD b r (i + d) = turnD b r i ++ (orb (Wf b) r i, .int (i : Int)) :: ((List.range' (i + 1) (d - 1)).map fun k => (orb (Wf b) r k, .int (k : Int))) := by
    unfold turnD
    have : List.range (i + d) = List.range i ++ i :: List.range' (i + 1) (d - 1) := by
      rw [List.range_eq_range', List.range_eq_range', show i + d = i + ((d - 1) + 1) by omega, ← List.range'_append_1, List.range'_succ, Nat.zero_add]
    rw [this, List.map_append]
    rfl
  unfold dGet
  rw [e, T.back, List.find?_append, List.find?_eq_none.mpr fun p hp q => ?_, Option.none_or, List.find?_cons]
  · have : keyEq true (orb (Wf b) r i) (orb (Wf b) r i) = true := beq_self_eq_true _
    dsimp only
    rw [this]
    rfl
  · obtain ⟨k, hk, rfl⟩ := List.mem_map.mp hp
    exact T.ne k i (List.mem_range.mp hk) (by omega) (beq_iff_eq.mp q)
theorem key_row (x : List Int) : keyOf true (eR x) = some x := intsOf_map x
theorem dget_ok (T : Turn (Wf b) r i d) {env : Ev} {c : ME PyData} (h2 : env[2]? = some (.dc true (turnD b r (i + d)))) (hc : c env ds = some (.ok (eR (orb (Wf b) r (i + d))), ds)) : mDget 2 c env ds = some (.ok (.int (i : Int)), ds) := by
  unfold mDget onD
  rw [h2]
  dsimp only
  rw [mbind_ev, hc, rb_ok]
  unfold look
  rw [key_row]
  show ME.lift (Option.bind (some (dGet true _ _)) id) _ _ = _
  rw [turnD_some T]
  rfl
theorem found_turn_ok (B : BoxOk b) (hr : Bin r) (hl : r.length ≤ 1000) (T : Turn (Wf b) r i d) (hid : i + d ≤ 900) : f_found_turn [.d (eBox b), .d (eR r)] ds = some (.ok (eT i d), ds) := by
  have tp := T.pos
  have w := while_inv (c := mTst (mDnot 2 (mV 4))) (body := mSeq (mDput 2 (mV 4) (mUn fLen (mVp 3))) (mSeq (mApp 3 (mV 4)) (mSet 4 (mOp fIx (mCall (chk 3 f_walk) (axD (mV 0) (axD (mC (.int 0)) (axD (mV 4) axNil)))) (mC (.int 0))))))
    (I := fun k env z => z = ds ∧ ∃ m, m + k = i + d ∧ 1 ≤ m ∧ env = [.d (eBox b), .d (eR r), .dc true (turnD b r m), .l ((orbL (Wf b) r m).map eR), .d (eR (orb (Wf b) r m))])
    (Post := fun env z => z = ds ∧ env = [.d (eBox b), .d (eR r), .dc true (turnD b r (i + d)), .l ((orbL (Wf b) r (i + d)).map eR), .d (eR (orb (Wf b) r (i + d)))]) (fun k env z ⟨e1, m, hm, h1, e2⟩ => by
      subst e1 e2
      have hc : mTst (mDnot 2 (mV 4)) [.d (eBox b), .d (eR r), .dc true (turnD b r m), .l ((orbL (Wf b) r m).map eR), .d (eR (orb (Wf b) r m))] z = some (.ok (!(dGet true (turnD b r m) (orb (Wf b) r m)).isSome), z) := by
        refine gTst ?_
        unfold mDnot
        rw [mbind_ev]
        show Rz.bind (some (.ok (eR (orb (Wf b) r m)), z)) _ = _
        rw [rb_ok]
        show ME.lift ((look true (turnD b r m) (eR (orb (Wf b) r m))).map _) [.d (eBox b), .d (eR r), .dc true (turnD b r m), .l ((orbL (Wf b) r m).map eR), .d (eR (orb (Wf b) r m))] z = _
        unfold look
        rw [key_row]
        rfl
      by_cases q : m < i + d
      · rw [(turnD_none T q).1] at hc
        refine .inr ⟨z, [.d (eBox b), .d (eR r), .dc true (turnD b r (m + 1)), .l ((orbL (Wf b) r (m + 1)).map eR), .d (eR (orb (Wf b) r (m + 1)))], z, k - 1, hc, gSeq (env' := [.d (eBox b), .d (eR r), .dc true (turnD b r (m + 1)), .l ((orbL (Wf b) r m).map eR), .d (eR (orb (Wf b) r m))]) (ds1 := z) ?_ (gSeq (gApp (xs := (orbL (Wf b) r m).map eR) rfl rfl (by rw [List.length_map]; unfold orbL; rw [List.length_map, List.length_range]; omega)) (gSet (orb_call B hr hl (k := m) rfl rfl).1 ?_)), by omega, rfl, m + 1, by omega, by omega, rfl⟩
        · have hx : mUn fLen (mVp 3) [.d (eBox b), .d (eR r), .dc true (turnD b r m), .l ((orbL (Wf b) r m).map eR), .d (eR (orb (Wf b) r m))] z = some (.ok (.int (m : Int)), z) := gUn (x := .list ((orbL (Wf b) r m).map eR)) rfl (by rw [fLen_list, List.length_map]; unfold orbL; rw [List.length_map, List.length_range])
          unfold mDput
          rw [exS_ev, hx]
          show exS (mV 4) _ [.d (eBox b), .d (eR r), .dc true (turnD b r m), .l ((orbL (Wf b) r m).map eR), .d (eR (orb (Wf b) r m))] z = _
          rw [exS_ev]
          show (match keyOf true (eR (orb (Wf b) r m)) with | some z => _ | none => _) = _
          rw [key_row]
          dsimp only
          rw [decide_eq_true (by unfold turnD; rw [List.length_map, List.length_range]; omega), if_pos rfl]
          unfold dPut
          rw [(turnD_none T q).2, if_neg Bool.false_ne_true, ← turnD_succ]
          rfl
        · rw [orbL_succ, List.map_append]
          rfl
      · have : m = i + d := by omega
        subst this
        rw [turnD_some T] at hc
        exact .inl ⟨z, hc, rfl, rfl⟩) 1000 (i + d - 1) [.d (eBox b), .d (eR r), .dc true (turnD b r 1), .l [eR r], .d (eR (orb (Wf b) r 1))] ds (by omega) ⟨rfl, 1, by omega, Nat.le_refl _, rfl⟩
  obtain ⟨env', ds', h2, rfl, rfl⟩ := w
  refine gRunRt (gSeq (env' := [.d (eBox b), .d (eR r), .dc true (turnD b r 1), .l [eR r], .un]) (ds1 := ds') ?_ (gSeq (gSet (orb_call B hr hl (k := 0) rfl rfl).1 rfl) (gSeq h2 (gRet (gTup (gCons (dget_ok T rfl rfl) (gCons (gOp (gUn (x := .list ((orbL (Wf b) r (i + d)).map eR)) rfl (fLen_list _)) (dget_ok T rfl rfl) ?_) rfl)) sh2)))))
  · unfold mParCL
    rw [exS_ev]
    have hd : mDone true (mV 1) (mC (.int 0)) ([.d (eBox b), .d (eR r)] ++ List.replicate (5 - 2) .un) ds' = some (.ok [(r, .int 0)], ds') := by
      unfold mDone
      rw [mbind_ev]
      show Rz.bind (some (.ok (eR r), ds')) _ = _
      rw [rb_ok, mbind_ev, mC_ev, rb_ok, key_row]
      rfl
    rw [hd]
    rfl
  · rw [fSub_int, List.length_map]
    unfold orbL
    rw [List.length_map, List.length_range]
    congr 2
    omega
end
end Lw

/-! T69d: rows, lengths, counts. -/
namespace Lw
open PySem PySem.Spec L2 DL

theorem fGt_int (a b : Int) : fGt (.int a) (.int b) = some (.bool (decide (b < a))) := rfl
theorem allR_ok : ∀ n : Nat, ∀ r ∈ allR n, r.length = n ∧ Bin r
  | 0, r, h => by
    rw [List.mem_singleton.mp h]
    exact ⟨rfl, fun _ q => nomatch q⟩
  | n + 1, r, h => by
    obtain ⟨s, hs, q⟩ := List.mem_flatMap.mp h
    obtain ⟨h1, h2⟩ := allR_ok n s hs
    rcases List.mem_cons.mp q with e | q
    · rw [e, List.length_append, h1]
      refine ⟨rfl, fun x hx => ?_⟩
      rcases List.mem_append.mp hx with w | w
      · exact h2 x w
      · exact .inl (List.mem_singleton.mp w)
    · rw [List.mem_singleton.mp q, List.length_append, h1]
      refine ⟨rfl, fun x hx => ?_⟩
      rcases List.mem_append.mp hx with w | w
      · exact h2 x w
      · exact .inr (List.mem_singleton.mp w)
theorem all_rows_ok {ds : DS} : ∀ n : Nat, n ≤ 5 → f_all_rows [.d (.int n)] ds = some (.ok (.list ((allR n).map eR)), ds)
  | 0, _ => by kernel_rfl
  | 1, _ => by kernel_rfl
  | 2, _ => by kernel_rfl
  | 3, _ => by kernel_rfl
  | 4, _ => by kernel_rfl
  | 5, _ => by kernel_rfl
  | _ + 6, h => absurd h (by omega)
theorem law_rows_ok {ds : DS} : ∀ n : Nat, n ≤ 5 → f__law_rows [.d (.int n)] ds = some (.ok (.list ((allR n).map eR)), ds)
  | 0, _ => by kernel_rfl
  | 1, _ => by kernel_rfl
  | 2, _ => by kernel_rfl
  | 3, _ => by kernel_rfl
  | 4, _ => by kernel_rfl
  | 5, _ => by kernel_rfl
  | _ + 6, h => absurd h (by omega)
theorem comp_draw2 {env : Ev} {ds ds1 : DS} {items : List PyData} {vs : List Nat} {mi : ME (List PyData)} {t : Tg} {elt : ME PyData} {env1 : Ev} {I : DS → Prop} {P : PyData → PyData → Prop} (hi : mi env ds = some (.ok items, ds1)) (hw : wipeE env vs = some env1)
    (h : ∀ x ∈ items, ∃ env2, t x env1 = some env2 ∧ ∀ ds, I ds → ∃ y ds', elt env2 ds = some (.ok y, ds') ∧ I ds' ∧ P x y) (hI : I ds1) (hl : items.length ≤ 16777216) : ∃ ys ds', mComp vs mi t mYes elt env ds = some (.ok ys, ds') ∧ I ds' ∧ Paired P items ys := by
  obtain ⟨ys, ds', k1, k2, k3⟩ := compGo_draw items [] ds1 h hI (by rw [List.length_nil]; omega)
  refine ⟨ys, ds', ?_, k2, k3⟩
  unfold mComp
  rw [mbind_ev, hi, rb_ok, hw]
  dsimp only
  rw [k1]
  rfl
theorem bins_of {xs ys : List PyData} (h : Paired (fun _ y => ∃ v : Int, y = .int v ∧ (v = 0 ∨ v = 1)) xs ys) : ∃ r : List Int, ys = r.map .int ∧ Bin r ∧ r.length = xs.length := by
  induction h with
  | nil => exact ⟨[], rfl, (fun _ q => nomatch q), rfl⟩
  | cons a _ ih =>
    obtain ⟨v, rfl, hv⟩ := a
    obtain ⟨r, rfl, h1, h2⟩ := ih
    refine ⟨v :: r, rfl, fun x hx => ?_, by rw [List.length_cons, h2]; rfl⟩
    rcases List.mem_cons.mp hx with e | e
    · rw [e]; exact hv
    · exact h1 x e
theorem row_ok {ds : DS} (h : DI ds) : ∃ (r : List Int) (ds' : DS), f__law_row [.drw, .d (.int 8)] ds = some (.ok (eR r), ds') ∧ DI ds' ∧ Bin r ∧ r.length ≤ 8 := by
  obtain ⟨n, ds1, a1, a2, a3, a4⟩ := take_ok h (many := 9) (by decide) (by decide)
  obtain ⟨ys, ds2, c1, c2, c3⟩ := comp_draw2 (env := [.drw, .d (.int 8), .un]) (vs := [2]) (t := tName 2) (I := DI) (env1 := [.drw, .d (.int 8), .un]) (P := fun _ y => ∃ v : Int, y = .int v ∧ (v = 0 ∨ v = 1)) (elt := mCall (chk 2 f__law_take) (axV 0 (axD (mC (.int 2)) axNil))) (mRng1_int (mCall (chk 2 f__law_take) (axV 0 (axD (mOp fAdd (mV 1) (mC (.int 1))) axNil))) (j := n) (ds' := ds1) ((take_ev (k := 9) rfl rfl).trans a1) (by omega)) rfl (fun z _ => ⟨[.drw, .d (.int 8), .d z], by
      rfl, fun ds hd => by
      obtain ⟨v, ds2, b1, b2, b3, b4⟩ := take_ok hd (many := 2) (by decide) (by decide)
      exact ⟨_, ds2, (take_ev (k := 2) rfl rfl).trans b1, b4, v, rfl, by omega⟩⟩) a4 (by unfold rangeD; rw [List.length_map, List.length_range]; omega)
  obtain ⟨r, rfl, h1, h2⟩ := bins_of c3
  unfold rangeD at h2
  rw [List.length_map, List.length_range] at h2
  exact ⟨r, ds2, gRunRt (gRet (gUn (gF c1) rfl)), c2, h1, by omega⟩
section
variable {b : List Row} {ds : DS} {r : List Int}
theorem check_row_ok (B : BoxOk b) (hr : Bin r) (hl : r.length ≤ 16) : f_check_row [.d (eBox b), .d (eR r)] ds = some (.ok .none, ds) := by
  have sh : f_is_short [.d (eR r), .d (.int 16)] ds = some (.ok (.bool true), ds) := by
    have c : mComp [2] (mItems (mV 0)) (tName 2) mYes (mAndV (mCall (chk 1 f_is_whole) (axD (mV 2) axNil)) (mChain fLe fLe (mC (.int 0)) (mV 2) (mC (.int 1)))) [.d (eR r), .d (.int 16), .un] ds = some (.ok ((r.filter fun _ => true).map fun _ => .bool true), ds) :=
      comp_ev (env1 := [.d (eR r), .d (.int 16), .un]) (e := .int) (fun _ => true) (fun _ => .bool true) rfl rfl (fun x hx => ⟨[.d (eR r), .d (.int 16), .d (.int x)], rfl, rfl, fun _ => by
        have e : (PyData.bool true) = .bool (true && (decide ((0 : Int) ≤ x) && decide (x ≤ 1))) := by
          rcases hr x hx with rfl | rfl <;> rfl
        rw [e]
        exact gAndV rfl (gChain (u := .int 1) rfl rfl (fLe_int _ _) rfl (fLe_int _ _))⟩) (by omega)
    rw [filter_yes, show (r.map fun _ => PyData.bool true) = (r.map fun _ => true).map .bool by rw [List.map_map]; rfl] at c
    refine gRunRt (gSeq (env' := [.d (eR r), .d (.int 16), .un]) (ds1 := ds) (Eq.trans (gIfF (gOr (k := false) (k' := false) rfl (gTst (gOp (gUn (x := eR r) rfl (by show fLen (.tuple _) = _; rw [fLen_tuple, List.length_map])) rfl ?_)))) rfl) (gRet (gUn (gF c) ?_)))
    · rw [fGt_int, decide_eq_false (by omega)]
    · rw [fAll_map, List.all_map, show r.all (id ∘ fun _ => true) = true from List.all_eq_true.mpr fun _ _ => rfl]
  exact gRunNx (env' := [.d (eBox b), .d (eR r)]) (gSeq (gDrop (gCall (args := [.d (eBox b)]) (ds1 := ds) rfl rfl (check_box_ok B.one B.five B.rows))) (Eq.trans (gIfF (gNot (k := true) (gTst (gCall (args := [.d (eR r), .d (.int 16)]) (ds1 := ds) rfl rfl sh)))) rfl))
theorem check_length_ok (B : BoxOk b) {n : Nat} (hn : n ≤ 6) : f_check_length [.d (eBox b), .d (.int n)] ds = some (.ok .none, ds) := by
  have e : (false : Bool) = !(decide ((0 : Int) ≤ (n : Int)) && decide ((n : Int) ≤ 6)) := by
    rw [decide_eq_true (by omega : (0 : Int) ≤ (n : Int)), decide_eq_true (by omega : (n : Int) ≤ 6)]
    rfl
  refine gRunNx (env' := [.d (eBox b), .d (.int n)]) (gSeq (gDrop (gCall (args := [.d (eBox b)]) (ds1 := ds) rfl rfl (check_box_ok B.one B.five B.rows))) (Eq.trans (gIfF (gOr (k := false) (k' := false) rfl ?_)) rfl))
  rw [e]
  exact gNot (gTst (gChain (u := .int 6) rfl rfl (fLe_int _ _) rfl (fLe_int _ _)))
theorem behind_ok (B : BoxOk b) (hr : Bin r) (hl : r.length ≤ 16) {n : Nat} (hn : n ≤ 40) : f_behind_copies [.d (eBox b), .d (.int n), .d (eR r)] ds = some (.ok (eR (orb (Wf b) r n)), ds) ∧ f__law_behind [.d (eBox b), .d (.int n), .d (eR r)] ds = some (.ok (eR (orb (Wf b) r n)), ds) := by
  have rl : (rangeD 0 (n : Int).toNat).length = n := by unfold rangeD; rw [List.length_map, List.length_range]; omega
  have A := for_inv (t := tName 3) (body := mSet 2 (mOp fIx (mCall (chk 3 f_walk) (axD (mV 0) (axD (mC (.int 0)) (axD (mV 2) axNil)))) (mC (.int 0)))) (I := fun i env d => d = ds ∧ ∃ x, frS x ∧ env = [.d (eBox b), .d (.int n), .d (eR (orb (Wf b) r i)), x]) (rangeD 0 (n : Int).toNat) 0 [.d (eBox b), .d (.int n), .d (eR r), .un] ds (fun i x env d hx ⟨e1, y, hy, e2⟩ => by
    subst e1 e2
    rw [Nat.zero_add]
    exact ⟨_, _, d, put_fr rfl hy, gSet (orb_call B hr (by omega) (k := i) rfl rfl).1 (put_fr (y := .d (eR (orb (Wf b) r i))) rfl (.inr ⟨_, rfl⟩)), rfl, _, .inr ⟨_, rfl⟩, rfl⟩) ⟨rfl, .un, .inl rfl, rfl⟩
  have L := for_inv (t := tName 3) (body := mSet 2 (mOp fIx (mCall (chk 3 f__law_walk) (axD (mV 0) (axD (mC (.int 0)) (axD (mV 2) axNil)))) (mC (.int 0)))) (I := fun i env d => d = ds ∧ ∃ x, frS x ∧ env = [.d (eBox b), .d (.int n), .d (eR (orb (Wf b) r i)), x]) (rangeD 0 (n : Int).toNat) 0 [.d (eBox b), .d (.int n), .d (eR r), .un] ds (fun i x env d hx ⟨e1, y, hy, e2⟩ => by
    subst e1 e2
    rw [Nat.zero_add]
    exact ⟨_, _, d, put_fr rfl hy, gSet (orb_call B hr (by omega) (k := i) rfl rfl).2 (put_fr (y := .d (eR (orb (Wf b) r i))) rfl (.inr ⟨_, rfl⟩)), rfl, _, .inr ⟨_, rfl⟩, rfl⟩) ⟨rfl, .un, .inl rfl, rfl⟩
  obtain ⟨e1, d1, a1, rfl, x1, _, rfl⟩ := A
  obtain ⟨e2, d2, a2, rfl, x2, _, rfl⟩ := L
  rw [Nat.zero_add, rl] at a1 a2
  have e : (false : Bool) = !(decide ((0 : Int) ≤ (n : Int)) && decide ((n : Int) ≤ 40)) := by
    rw [decide_eq_true (by omega : (0 : Int) ≤ (n : Int)), decide_eq_true (by omega : (n : Int) ≤ 40)]
    rfl
  refine ⟨gRunRt (gSeq (env' := [.d (eBox b), .d (.int n), .d (eR r), .un]) (gDrop (gCall (args := [.d (eBox b), .d (eR r)]) (ds1 := d2) rfl rfl (check_row_ok B hr hl))) (gSeq (env' := [.d (eBox b), .d (.int n), .d (eR r), .un]) (ds1 := d2) (Eq.trans (gIfF (gOr (k := false) (k' := false) rfl ?_)) rfl) (gSeq (gFor (mRng1_int (mV 1) rfl (by omega)) a1) (gRet rfl)))), gRunRt (gSeq (gFor (mRng1_int (mV 1) rfl (by omega)) a2) (gRet rfl))⟩
  rw [e]
  exact gNot (gTst (gChain (u := .int 40) rfl rfl (fLe_int _ _) rfl (fLe_int _ _)))
/-! ### the turns of all rows -/
noncomputable def turnOf (b : List Row) (r : List Int) : Nat × Nat := open Classical in if h : ∃ p : Nat × Nat, Turn (Wf b) r p.1 p.2 then h.choose else (0, 1)
theorem turnOf_ok (B : BoxOk b) (hr : Bin r) : Turn (Wf b) r (turnOf b r).1 (turnOf b r).2 ∧ (turnOf b r).1 + (turnOf b r).2 ≤ 2 ^ r.length := by
  obtain ⟨i, d, T, h⟩ := turn_ex B hr
  have ex : ∃ p : Nat × Nat, Turn (Wf b) r p.1 p.2 := ⟨(i, d), T⟩
  have e : turnOf b r = ex.choose := by
    unfold turnOf
    rw [dif_pos ex]
  rw [e]
  have q := T.one ex.choose_spec
  exact ⟨ex.choose_spec, by omega⟩
theorem small_pow {n : Nat} (h : n ≤ 9) : 2 ^ n ≤ 512 := Nat.le_trans (Nat.pow_le_pow_right (by decide) h) (by decide)
theorem turns_ok (B : BoxOk b) (hr : Bin r) (hl : r.length ≤ 9) : f__law_turn [.d (eBox b), .d (eR r)] ds = some (.ok (eT (turnOf b r).1 (turnOf b r).2), ds) ∧ f_found_turn [.d (eBox b), .d (eR r)] ds = some (.ok (eT (turnOf b r).1 (turnOf b r).2), ds) := by
  obtain ⟨T, h⟩ := turnOf_ok B hr
  have := small_pow hl
  exact ⟨law_turn_ok B hr (by omega) T (by omega), found_turn_ok B hr (by omega) T (by omega)⟩
theorem fMax_ints (m : Int) (l : List Int) : fMax (.list ((m :: l).map .int)) = some (.int (maxOf m l)) := by
  unfold fMax
  dsimp only
  rw [intsOf_map]
  rfl
theorem max_bound {m : Int} {l : List Int} (h : ∀ x ∈ m :: l, 0 ≤ x ∧ x < 100) : 0 ≤ maxOf m l ∧ maxOf m l < 100 := by
  rcases (maxOf_ge l m).2.2 with e | e
  · rw [e]; exact h m List.mem_cons_self
  · exact h _ (List.mem_cons_of_mem _ e)
end
end Lw

/-! T69e: one lap of the law. -/
namespace Lw
open PySem PySem.Spec L2 DL

section
variable {b : List Row} {ds : DS} {r : List Int}
def eP (p : Nat × Nat) : PyData := eT p.1 p.2
noncomputable def tl (b : List Row) (n : Nat) : List (Nat × Nat) := (allR n).map (turnOf b)
theorem allR_ne (n : Nat) : allR n ≠ [] := fun e => by
  have := allR_len n
  rw [e] at this
  have := Nat.pow_pos (n := n) (show 0 < 2 by decide)
  rw [List.length_nil] at *
  omega
theorem tl_max (B : BoxOk b) {n : Nat} (hn : n ≤ 5) (g : Nat × Nat → Nat) (hg : ∀ p : Nat × Nat, g p ≤ p.1 + p.2) : ∃ m : Int, fMax (.list ((tl b n).map fun p => .int (g p : Int))) = some (.int m) ∧ 0 ≤ m ∧ m < 100 := by
  have bd : ∀ p ∈ tl b n, g p ≤ 32 := fun p hp => by
    obtain ⟨r, hr, rfl⟩ := List.mem_map.mp hp
    obtain ⟨h1, h2⟩ := allR_ok n r hr
    have := (turnOf_ok B h2).2
    rw [h1] at this
    have q : 2 ^ n ≤ 2 ^ 5 := Nat.pow_le_pow_right (by decide) hn
    have := hg (turnOf b r)
    omega
  cases e : tl b n with
  | nil =>
    exfalso
    unfold tl at e
    exact allR_ne n (List.map_eq_nil_iff.mp e)
  | cons p l =>
    rw [e] at bd
    refine ⟨maxOf (g p) (l.map fun p => (g p : Int)), ?_, ?_⟩
    · rw [show ((p :: l).map fun p => PyData.int (g p : Int)) = (((g p : Int) :: l.map fun p => (g p : Int))).map .int by rw [List.map_cons, List.map_cons, List.map_map]; rfl]
      exact fMax_ints _ _
    · refine max_bound fun x hx => ?_
      rcases List.mem_cons.mp hx with q | q
      · have := bd p List.mem_cons_self; omega
      · obtain ⟨p', hp', rfl⟩ := List.mem_map.mp q
        have := bd p' (List.mem_cons_of_mem _ hp')
        omega
theorem len32 {n : Nat} (hn : n ≤ 5) : (allR n).length ≤ 32 := by
  rw [allR_len]
  exact Nat.pow_le_pow_right (n := 2) (by decide) hn
theorem fst_ok {n : Nat} (hn : n ≤ 5) {env env1 : Ev} {i j : Nat} {m c : ME PyData} (hm : m env ds = some (.ok (.list ((tl b n).map eP)), ds)) (hw : wipeE env [i, j] = some env1) (g : Nat × Nat → Nat) (hc : ∀ p : Nat × Nat, ∃ env2, tTup 2 (tConsT (tName i) (tConsT (tName j) tNilT)) (eP p) env1 = some env2 ∧ c env2 ds = some (.ok (.int (g p : Int)), ds)) :
    mF (mComp [i, j] (mItems m) (tTup 2 (tConsT (tName i) (tConsT (tName j) tNilT))) mYes c) env ds = some (.ok (.list ((tl b n).map fun p => .int (g p : Int))), ds) := by
  have l32 := len32 hn
  have q := comp_ev (vs := [i, j]) (t := tTup 2 (tConsT (tName i) (tConsT (tName j) tNilT))) (c := mYes) (elt := c) (xs := tl b n) (fun _ => true) (fun p => .int (g p : Int)) (gItems hm rfl) hw (fun p _ => by
    obtain ⟨env2, h1, h2⟩ := hc p
    exact ⟨env2, h1, rfl, fun _ => h2⟩) (by unfold tl; rw [List.length_map]; omega)
  rw [filter_yes] at q
  exact gF q
theorem whole_ok (B : BoxOk b) {n : Nat} (hn : n ≤ 5) {m1 m2 : Int} (h1 : fMax (.list ((tl b n).map fun p => .int (p.1 : Int))) = some (.int m1)) (h2 : fMax (.list ((tl b n).map fun p => .int (p.2 : Int))) = some (.int m2)) : f_whole_turn [.d (eBox b), .d (.int n)] ds = some (.ok (.tuple [.int m1, .int m2]), ds) := by
  have l32 := len32 hn
  have c : mComp [3] (mItems (mCall (chk 1 f_all_rows) (axD (mV 1) axNil))) (tName 3) mYes (mCall (chk 2 f_found_turn) (axD (mV 0) (axD (mV 3) axNil))) [.d (eBox b), .d (.int n), .un, .un, .un, .un, .un] ds = some (.ok (((allR n).filter fun _ => true).map fun r => eP (turnOf b r)), ds) :=
    comp_ev (env1 := [.d (eBox b), .d (.int n), .un, .un, .un, .un, .un]) (e := eR) (fun _ => true) (fun r => eP (turnOf b r)) (gItems (gCall (args := [.d (.int n)]) (ds1 := ds) rfl rfl (all_rows_ok n hn)) rfl) rfl (fun r hr => ⟨[.d (eBox b), .d (.int n), .un, .d (eR r), .un, .un, .un], rfl, rfl, fun _ => gCall (args := [.d (eBox b), .d (eR r)]) (ds1 := ds) rfl rfl (turns_ok B (allR_ok n r hr).2 (by rw [(allR_ok n r hr).1]; omega)).2⟩) (by omega)
  rw [filter_yes, show ((allR n).map fun r => eP (turnOf b r)) = (tl b n).map eP by unfold tl; rw [List.map_map]; rfl] at c
  exact gRunRt (gSeq (gDrop (gCall (args := [.d (eBox b), .d (.int n)]) (ds1 := ds) rfl rfl (check_length_ok B (by omega)))) (gSeq (gSet (gF c) rfl) (gRet (gTup (gCons (gUn (fst_ok (env1 := [.d (eBox b), .d (.int n), .d (.list ((tl b n).map eP)), .un, .un, .un, .un]) hn rfl rfl (·.1) fun p => ⟨_, rfl, rfl⟩) h1) (gCons (gUn (fst_ok (env1 := [.d (eBox b), .d (.int n), .d (.list ((tl b n).map eP)), .un, .un, .un, .un]) hn rfl rfl (·.2) fun p => ⟨_, rfl, rfl⟩) h2) rfl)) sh2))))
theorem back_ok (B : BoxOk b) {n : Nat} (hn : n ≤ 5) : f_back_count [.d (eBox b), .d (.int n)] ds = some (.ok (.int (((tl b n).filter fun p => (p.1 : Int) == 0).length : Int)), ds) := by
  have l32 := len32 hn
  have c : mComp [2] (mItems (mCall (chk 1 f_all_rows) (axD (mV 1) axNil))) (tName 2) (mTst (mOp fEq (mOp fIx (mCall (chk 2 f_found_turn) (axD (mV 0) (axD (mV 2) axNil))) (mC (.int 0))) (mC (.int 0)))) (mV 2) [.d (eBox b), .d (.int n), .un] ds = some (.ok (((allR n).filter fun r => ((turnOf b r).1 : Int) == 0).map eR), ds) :=
    comp_ev (env1 := [.d (eBox b), .d (.int n), .un]) (e := eR) (fun r => ((turnOf b r).1 : Int) == 0) eR (gItems (gCall (args := [.d (.int n)]) (ds1 := ds) rfl rfl (all_rows_ok n hn)) rfl) rfl (fun r hr => ⟨[.d (eBox b), .d (.int n), .d (eR r)], rfl, gTst (gOp (gOp (gCall (args := [.d (eBox b), .d (eR r)]) (ds1 := ds) rfl rfl (turns_ok B (allR_ok n r hr).2 (by rw [(allR_ok n r hr).1]; omega)).2) rfl rfl) rfl (fEq_int _ _)), fun _ => rfl⟩) (by omega)
  refine gRunRt (gSeq (gDrop (gCall (args := [.d (eBox b), .d (.int n)]) (ds1 := ds) rfl rfl (check_length_ok B (by omega)))) (gRet (gUn (gF c) ?_)))
  rw [fLen_list, List.length_map]
  unfold tl
  rw [List.filter_map, List.length_map]
  rfl
theorem row_turn_ok (B : BoxOk b) (hr : Bin r) (hl : r.length ≤ 9) : f_row_turn [.d (eBox b), .d (eR r)] ds = some (.ok (eP (turnOf b r)), ds) :=
  gRunRt (gSeq (gDrop (gCall (args := [.d (eBox b), .d (eR r)]) (ds1 := ds) rfl rfl (check_row_ok B hr (by omega)))) (gRet (gCall (args := [.d (eBox b), .d (eR r)]) (ds1 := ds) rfl rfl (turns_ok B hr hl).2)))
theorem notIn_ints (x : Int) (S : List Int) : fNotIn (.int x) (.list (S.map .int)) = some (.bool (!S.any fun y => y == x)) := by
  show (if SeqAt.shaped (.int x) && SeqAt.shaped (.list (S.map .int)) then some (PyData.bool (!(S.map PyData.int).any fun z => PyData.eqv z (.int x))) else none) = _
  rw [(shaped_ints S).1, List.any_map]
  rfl
theorem pow_in {k : Nat} (h : k ≤ 8) : ([1, 2, 4, 8, 16, 32, 64, 128, 256] : List Int).any (fun y => y == ((2 ^ k : Nat) : Int)) = true := by
  have : ∀ k : Nat, k ≤ 8 → ([1, 2, 4, 8, 16, 32, 64, 128, 256] : List Int).any (fun y => y == ((2 ^ k : Nat) : Int)) = true := by decide +kernel
  exact this k h
theorem tgt2 {env : Ev} {i j : Nat} {x y : Sl} {a c : PyData} (hi : env[i]? = some x) (fx : frS x) (hj : (env.set i (.d a))[j]? = some y) (fy : frS y) : tTup 2 (tConsT (tName i) (tConsT (tName j) tNilT)) (.tuple [a, c]) env = some ((env.set i (.d a)).set j (.d c)) := by
  show (put i (.d a) env).bind (fun e => (put j (.d c) e).bind (tNilT [])) = _
  rw [put_fr hi fx]
  show (put j (.d c) (env.set i (.d a))).bind _ = _
  rw [put_fr hj fy]
  rfl
theorem tgt3 {env : Ev} {i j k : Nat} {x y z : Sl} {a c e : PyData} (hi : env[i]? = some x) (fx : frS x) (hj : (env.set i (.d a))[j]? = some y) (fy : frS y) (hk : ((env.set i (.d a)).set j (.d c))[k]? = some z) (fz : frS z) : tTup 3 (tConsT (tName i) (tConsT (tName j) (tConsT (tName k) tNilT))) (.tuple [a, c, e]) env = some (((env.set i (.d a)).set j (.d c)).set k (.d e)) := by
  show (put i (.d a) env).bind (fun q => (put j (.d c) q).bind fun q => (put k (.d e) q).bind (tNilT [])) = _
  rw [put_fr hi fx]
  show (put j (.d c) (env.set i (.d a))).bind _ = _
  rw [put_fr hj fy]
  show (put k (.d e) ((env.set i (.d a)).set j (.d c))).bind _ = _
  rw [put_fr hk fz]
  rfl
theorem repr_two {m1 m2 : Int} (h1 : 0 ≤ m1 ∧ m1 < 100) (h2 : 0 ≤ m2 ∧ m2 < 100) : ∃ s, fRepr (.tuple [.int m1, .int m2]) = some (.str s) ∧ fNe (.str s) (.str s) = some (.bool false) := by
  have c1 : cost (.int m1) = 2 := by show (if 0 ≤ m1 ∧ m1 < 100 then 2 else 100000000) = 2; rw [if_pos h1]
  have c2 : cost (.int m2) = 2 := by show (if 0 ≤ m2 ∧ m2 < 100 then 2 else 100000000) = 2; rw [if_pos h2]
  obtain ⟨r1, r2⟩ := fRepr_ok (d := .tuple [.int m1, .int m2]) rfl (by show (cost (.int m1) + 2 + (cost (.int m2) + 2 + 0)) + 4 ≤ _; rw [c1, c2]; decide) (by rw [depth_tuple]; show max 0 (max 0 0) + 1 ≤ 60; decide)
  refine ⟨_, r1, ?_⟩
  rw [fNe_sh r2 r2, eqv_str]
  rfl
def dN (x : Sl) : Prop := frS x
set_option maxHeartbeats 4000000 in
theorem lap_ok {ns : List Int} {lap x3 x4 x5 x6 x7 x8 x9 x10 x11 : Sl} (h : DI ds) (f3 : frS x3) (f4 : frS x4) (f5 : frS x5) (f6 : frS x6) (f7 : frS x7) (f8 : frS x8) (f9 : frS x9) (f10 : frS x10) (f11 : frS x11) :
    ∃ (b : List Row) (y4 y5 y6 y7 y8 y9 y10 y11 : PyData) (ds' : DS), (mSeq (mAsg (tTup 3 (tConsT (tName 3) (tConsT (tName 4) (tConsT (tName 5) tNilT)))) (mTup (mCons (mCall (chk 2 f__law_box) (axV 1 (axD (mC (.int 5)) axNil))) (mCons (mCall (chk 2 f__law_row) (axV 1 (axD (mC (.int 8)) axNil))) (mCons (mCall (chk 2 f__law_take) (axV 1 (axD (mC (.int 41)) axNil))) mNil)))))
  (mSeq (mAsg (tTup 2 (tConsT (tName 6) (tConsT (tName 7) tNilT))) (mCall (chk 2 f__law_turn) (axD (mV 3) (axD (mV 4) axNil))))
  (mSeq (mIfS (mOr (mTst (mOp fNe (mCall (chk 3 f_behind_copies) (axD (mV 3) (axD (mV 5) (axD (mV 4) axNil)))) (mCall (chk 3 f__law_behind) (axD (mV 3) (axD (mV 5) (axD (mV 4) axNil)))))) (mOr (mTst (mOp fNe (mCall (chk 2 f_row_turn) (axD (mV 3) (axD (mV 4) axNil))) (mTup (mCons (mV 6) (mCons (mV 7) mNil))))) (mTst (mOp fNotIn (mV 7) (mF (mLst (mCons (mC (.int 1)) (mCons (mC (.int 2)) (mCons (mC (.int 4)) (mCons (mC (.int 8)) (mCons (mC (.int 16)) (mCons (mC (.int 32)) (mCons (mC (.int 64)) (mCons (mC (.int 128)) (mCons (mC (.int 256)) mNil))))))))))))))) (mRet (mC (.bool false))) mSkip)
  (mSeq (mAsg (tTup 2 (tConsT (tName 8) (tConsT (tName 9) tNilT))) (mCall (chk 2 f__law_turn) (axD (mV 3) (axD (mOp fAdd (mV 4) (mTup (mCons (mCall (chk 2 f__law_take) (axV 1 (axD (mC (.int 2)) axNil))) mNil))) axNil))))
  (mSeq (mIfS (mOr (mTst (mOp fLt (mV 8) (mV 6))) (mTst (mOp fNotIn (mV 9) (mF (mLst (mCons (mV 7) (mCons (mOp fMul (mC (.int 2)) (mV 7)) mNil))))))) (mRet (mC (.bool false))) mSkip)
  (mSeq (mSet 10 (mCall (chk 2 f__law_take) (axV 1 (axD (mC (.int 6)) axNil))))
  (mSeq (mSet 11 (mF (mComp [17] (mItems (mCall (chk 1 f__law_rows) (axD (mV 10) axNil))) (tName 17) mYes (mCall (chk 2 f__law_turn) (axD (mV 3) (axD (mV 17) axNil))))))
  (mSeq (mIfS (mTst (mOp fNe (mUn fRepr (mCall (chk 2 f_whole_turn) (axD (mV 3) (axD (mV 10) axNil)))) (mUn fRepr (mTup (mCons (mUn fMax (mF (mComp [17, 18] (mItems (mV 11)) (tTup 2 (tConsT (tName 17) (tConsT (tName 18) tNilT))) mYes (mV 17)))) (mCons (mUn fMax (mF (mComp [17, 18] (mItems (mV 11)) (tTup 2 (tConsT (tName 17) (tConsT (tName 18) tNilT))) mYes (mV 18)))) mNil)))))) (mRet (mC (.bool false))) mSkip)
  (mIfS (mTst (mOp fNe (mCall (chk 2 f_back_count) (axD (mV 3) (axD (mV 10) axNil))) (mUn fLen (mF (mComp [17, 18] (mItems (mV 11)) (tTup 2 (tConsT (tName 17) (tConsT (tName 18) tNilT))) (mTst (mOp fEq (mV 17) (mC (.int 0)))) (mV 17)))))) (mRet (mC (.bool false))) mSkip))))))))) [.scr ns, .drw, lap, x3, x4, x5, x6, x7, x8, x9, x10, x11, .un, .un, .un, .un, .un, .un, .un, .un] ds = some (.nx [.scr ns, .drw, lap, .d (eBox b), .d y4, .d y5, .d y6, .d y7, .d y8, .d y9, .d y10, .d y11, .un, .un, .un, .un, .un, .un, .un, .un], ds') ∧ DI ds' ∧ BoxOk b := by
  obtain ⟨b, d1, b1, b2, b3, b4, b5⟩ := box_ok h (most := 5) (by decide)
  have B : BoxOk b := ⟨b3, by omega, b5⟩
  obtain ⟨r, d2, r1, r2, r3, r4⟩ := row_ok b2
  obtain ⟨n, d3, n1, n2, n3, n4⟩ := take_ok r2 (many := 41) (by decide) (by decide)
  obtain ⟨x, d4, t1, t2, t3, t4⟩ := take_ok n4 (many := 2) (by decide) (by decide)
  obtain ⟨l, d5, l1, l2, l3, l4⟩ := take_ok t4 (many := 6) (by decide) (by decide)
  obtain ⟨n, rfl⟩ : ∃ m : Nat, n = (m : Int) := ⟨n.toNat, by omega⟩
  obtain ⟨l, rfl⟩ : ∃ m : Nat, l = (m : Int) := ⟨l.toNat, by omega⟩
  have ln : l ≤ 5 := by omega
  have hrx : Bin (r ++ [x]) := fun y hy => by
    rcases List.mem_append.mp hy with q | q
    · exact r3 y q
    · rw [List.mem_singleton.mp q]; omega
  have hlx : (r ++ [x]).length ≤ 9 := by rw [List.length_append]; show r.length + 1 ≤ 9; omega
  have T := (turnOf_ok B r3).1
  have TX := (turnOf_ok B hrx).1
  have ta := turn_add B hrx T TX
  obtain ⟨k, hk, ek⟩ := turn_pow B r.length r rfl r3 T
  obtain ⟨m1, g1, g2⟩ := tl_max B ln (·.1) fun p => Nat.le_add_right _ _
  obtain ⟨m2, g3, g4⟩ := tl_max B ln (·.2) fun p => Nat.le_add_left _ _
  obtain ⟨s, w1, w2⟩ := repr_two g2 g4
  have l32 := len32 ln
  refine ⟨b, eR r, .int n, .int (turnOf b r).1, .int (turnOf b r).2, .int (turnOf b (r ++ [x])).1, .int (turnOf b (r ++ [x])).2, .int l, .list ((tl b l).map eP), d5, ?_, l4, B⟩
  have s0 : (mAsg (tTup 3 (tConsT (tName 3) (tConsT (tName 4) (tConsT (tName 5) tNilT)))) (mTup (mCons (mCall (chk 2 f__law_box) (axV 1 (axD (mC (.int 5)) axNil))) (mCons (mCall (chk 2 f__law_row) (axV 1 (axD (mC (.int 8)) axNil))) (mCons (mCall (chk 2 f__law_take) (axV 1 (axD (mC (.int 41)) axNil))) mNil))))) [.scr ns, .drw, lap, x3, x4, x5, x6, x7, x8, x9, x10, x11, .un, .un, .un, .un, .un, .un, .un, .un] ds = some (.nx [.scr ns, .drw, lap, .d (eBox b), .d (eR r), .d (.int n), x6, x7, x8, x9, x10, x11, .un, .un, .un, .un, .un, .un, .un, .un], d3) :=
    gAsg (gTup (gCons (gCall (args := [.drw, .d (.int 5)]) (ds1 := ds) rfl rfl b1) (gCons (gCall (args := [.drw, .d (.int 8)]) (ds1 := d1) rfl rfl r1) (gCons ((take_ev rfl rfl).trans n1) rfl))) (short_of (by show 3 ≤ _; decide))) (tgt3 rfl f3 rfl f4 rfl f5)
  have s1 : (mAsg (tTup 2 (tConsT (tName 6) (tConsT (tName 7) tNilT))) (mCall (chk 2 f__law_turn) (axD (mV 3) (axD (mV 4) axNil)))) [.scr ns, .drw, lap, .d (eBox b), .d (eR r), .d (.int n), x6, x7, x8, x9, x10, x11, .un, .un, .un, .un, .un, .un, .un, .un] d3 = some (.nx [.scr ns, .drw, lap, .d (eBox b), .d (eR r), .d (.int n), .d (.int (turnOf b r).1), .d (.int (turnOf b r).2), x8, x9, x10, x11, .un, .un, .un, .un, .un, .un, .un, .un], d3) :=
    gAsg (gCall (args := [.d (eBox b), .d (eR r)]) (ds1 := d3) rfl rfl (turns_ok B r3 (by omega)).1) (tgt2 rfl f6 rfl f7)
  have s2 : (mIfS (mOr (mTst (mOp fNe (mCall (chk 3 f_behind_copies) (axD (mV 3) (axD (mV 5) (axD (mV 4) axNil)))) (mCall (chk 3 f__law_behind) (axD (mV 3) (axD (mV 5) (axD (mV 4) axNil)))))) (mOr (mTst (mOp fNe (mCall (chk 2 f_row_turn) (axD (mV 3) (axD (mV 4) axNil))) (mTup (mCons (mV 6) (mCons (mV 7) mNil))))) (mTst (mOp fNotIn (mV 7) (mF (mLst (mCons (mC (.int 1)) (mCons (mC (.int 2)) (mCons (mC (.int 4)) (mCons (mC (.int 8)) (mCons (mC (.int 16)) (mCons (mC (.int 32)) (mCons (mC (.int 64)) (mCons (mC (.int 128)) (mCons (mC (.int 256)) mNil))))))))))))))) (mRet (mC (.bool false))) mSkip) [.scr ns, .drw, lap, .d (eBox b), .d (eR r), .d (.int n), .d (.int (turnOf b r).1), .d (.int (turnOf b r).2), x8, x9, x10, x11, .un, .un, .un, .un, .un, .un, .un, .un] d3 = some (.nx [.scr ns, .drw, lap, .d (eBox b), .d (eR r), .d (.int n), .d (.int (turnOf b r).1), .d (.int (turnOf b r).2), x8, x9, x10, x11, .un, .un, .un, .un, .un, .un, .un, .un], d3) := by
    have be := behind_ok (ds := d3) B r3 (by omega) (n := n) (by omega)
    refine Eq.trans (gIfF (gOr (k := false) (k' := false) (gTst (gOp (gCall (args := [.d (eBox b), .d (.int n), .d (eR r)]) (ds1 := d3) rfl rfl be.1) (gCall (args := [.d (eBox b), .d (.int n), .d (eR r)]) (ds1 := d3) rfl rfl be.2) ?_)) (gOr (k := false) (k' := false) (gTst (gOp (gCall (args := [.d (eBox b), .d (eR r)]) (ds1 := d3) rfl rfl (row_turn_ok B r3 (by omega))) rfl ?_)) (gTst (gOp rfl rfl ?_))))) rfl
    · rw [ne_rows, beq_self_eq_true]; rfl
    · have q := ne_rows [((turnOf b r).1 : Int), ((turnOf b r).2 : Int)] [((turnOf b r).1 : Int), ((turnOf b r).2 : Int)]
      rw [beq_self_eq_true] at q
      exact q
    · refine (notIn_ints _ [1, 2, 4, 8, 16, 32, 64, 128, 256]).trans ?_
      rw [ek, pow_in (by omega)]
      rfl
  have s3 : (mAsg (tTup 2 (tConsT (tName 8) (tConsT (tName 9) tNilT))) (mCall (chk 2 f__law_turn) (axD (mV 3) (axD (mOp fAdd (mV 4) (mTup (mCons (mCall (chk 2 f__law_take) (axV 1 (axD (mC (.int 2)) axNil))) mNil))) axNil)))) [.scr ns, .drw, lap, .d (eBox b), .d (eR r), .d (.int n), .d (.int (turnOf b r).1), .d (.int (turnOf b r).2), x8, x9, x10, x11, .un, .un, .un, .un, .un, .un, .un, .un] d3 = some (.nx [.scr ns, .drw, lap, .d (eBox b), .d (eR r), .d (.int n), .d (.int (turnOf b r).1), .d (.int (turnOf b r).2), .d (.int (turnOf b (r ++ [x])).1), .d (.int (turnOf b (r ++ [x])).2), x10, x11, .un, .un, .un, .un, .un, .un, .un, .un], d4) := by
    refine gAsg (x := eP (turnOf b (r ++ [x]))) (ds1 := d4) (gCall (args := [.d (eBox b), .d (eR (r ++ [x]))]) (ds1 := d4) (gAx rfl (gAx (gOp (x := eR r) (y := .tuple [.int x]) rfl (gTup (gCons ((take_ev rfl rfl).trans t1) rfl) (short_of (by show 1 ≤ _; decide))) ?_) rfl)) rfl (turns_ok B hrx hlx).1) (tgt2 rfl f8 rfl f9)
    show (if short _ then some (PyData.tuple _) else none) = some (eR _)
    rw [short_of (by rw [List.length_map]; show r.length + 1 ≤ _; omega), if_pos rfl]
    unfold eR
    rw [List.map_append]
    rfl
  have s4 : (mIfS (mOr (mTst (mOp fLt (mV 8) (mV 6))) (mTst (mOp fNotIn (mV 9) (mF (mLst (mCons (mV 7) (mCons (mOp fMul (mC (.int 2)) (mV 7)) mNil))))))) (mRet (mC (.bool false))) mSkip) [.scr ns, .drw, lap, .d (eBox b), .d (eR r), .d (.int n), .d (.int (turnOf b r).1), .d (.int (turnOf b r).2), .d (.int (turnOf b (r ++ [x])).1), .d (.int (turnOf b (r ++ [x])).2), x10, x11, .un, .un, .un, .un, .un, .un, .un, .un] d4 = some (.nx [.scr ns, .drw, lap, .d (eBox b), .d (eR r), .d (.int n), .d (.int (turnOf b r).1), .d (.int (turnOf b r).2), .d (.int (turnOf b (r ++ [x])).1), .d (.int (turnOf b (r ++ [x])).2), x10, x11, .un, .un, .un, .un, .un, .un, .un, .un], d4) := by
    refine Eq.trans (gIfF (gOr (k := false) (k' := false) (gTst (gOp rfl rfl ?_)) (gTst (gOp (y := .list ([((turnOf b r).2 : Int), 2 * ((turnOf b r).2 : Int)].map .int)) rfl (gF (gLst (gCons rfl (gCons (gOp rfl rfl ?_) rfl)) sh2)) ?_)))) rfl
    · rw [fLt_int, decide_eq_false (by omega)]
    · have k8 : (turnOf b r).2 ≤ 512 := by rw [ek]; exact small_pow (by omega)
      rw [fMul_lit ⟨by omega, by omega⟩]
    · refine (notIn_ints _ _).trans ?_
      have : ([((turnOf b r).2 : Int), 2 * ((turnOf b r).2 : Int)].any fun y => y == ((turnOf b (r ++ [x])).2 : Int)) = true := by
        rw [List.any_eq_true]
        rcases ta.2 with q | q
        · exact ⟨_, List.mem_cons_self, by rw [q]; exact beq_self_eq_true _⟩
        · exact ⟨_, List.mem_cons_of_mem _ List.mem_cons_self, by rw [q]; exact beq_iff_eq.mpr (by omega)⟩
      rw [this]
      rfl
  have s5 : (mSet 10 (mCall (chk 2 f__law_take) (axV 1 (axD (mC (.int 6)) axNil)))) [.scr ns, .drw, lap, .d (eBox b), .d (eR r), .d (.int n), .d (.int (turnOf b r).1), .d (.int (turnOf b r).2), .d (.int (turnOf b (r ++ [x])).1), .d (.int (turnOf b (r ++ [x])).2), x10, x11, .un, .un, .un, .un, .un, .un, .un, .un] d4 = some (.nx [.scr ns, .drw, lap, .d (eBox b), .d (eR r), .d (.int n), .d (.int (turnOf b r).1), .d (.int (turnOf b r).2), .d (.int (turnOf b (r ++ [x])).1), .d (.int (turnOf b (r ++ [x])).2), .d (.int l), x11, .un, .un, .un, .un, .un, .un, .un, .un], d5) :=
    gSet ((take_ev rfl rfl).trans l1) (put_fr rfl f10)
  have s6 : (mSet 11 (mF (mComp [17] (mItems (mCall (chk 1 f__law_rows) (axD (mV 10) axNil))) (tName 17) mYes (mCall (chk 2 f__law_turn) (axD (mV 3) (axD (mV 17) axNil)))))) [.scr ns, .drw, lap, .d (eBox b), .d (eR r), .d (.int n), .d (.int (turnOf b r).1), .d (.int (turnOf b r).2), .d (.int (turnOf b (r ++ [x])).1), .d (.int (turnOf b (r ++ [x])).2), .d (.int l), x11, .un, .un, .un, .un, .un, .un, .un, .un] d5 = some (.nx [.scr ns, .drw, lap, .d (eBox b), .d (eR r), .d (.int n), .d (.int (turnOf b r).1), .d (.int (turnOf b r).2), .d (.int (turnOf b (r ++ [x])).1), .d (.int (turnOf b (r ++ [x])).2), .d (.int l), .d (.list ((tl b l).map eP)), .un, .un, .un, .un, .un, .un, .un, .un], d5) := by
    have c := comp_ev (vs := [17]) (env1 := [.scr ns, .drw, lap, .d (eBox b), .d (eR r), .d (.int n), .d (.int (turnOf b r).1), .d (.int (turnOf b r).2), .d (.int (turnOf b (r ++ [x])).1), .d (.int (turnOf b (r ++ [x])).2), .d (.int l), x11, .un, .un, .un, .un, .un, .un, .un, .un]) (env := [.scr ns, .drw, lap, .d (eBox b), .d (eR r), .d (.int n), .d (.int (turnOf b r).1), .d (.int (turnOf b r).2), .d (.int (turnOf b (r ++ [x])).1), .d (.int (turnOf b (r ++ [x])).2), .d (.int l), x11, .un, .un, .un, .un, .un, .un, .un, .un]) (ds := d5) (mi := mItems (mCall (chk 1 f__law_rows) (axD (mV 10) axNil))) (t := tName 17) (c := mYes) (elt := mCall (chk 2 f__law_turn) (axD (mV 3) (axD (mV 17) axNil))) (xs := allR l) (e := eR) (fun _ => true) (fun r => eP (turnOf b r)) (gItems (gCall (args := [.d (.int l)]) (ds1 := d5) rfl rfl (law_rows_ok l ln)) rfl) rfl (fun q hq => ⟨_, rfl, rfl, fun _ => gCall (args := [.d (eBox b), .d (eR q)]) (ds1 := d5) rfl rfl (turns_ok B (allR_ok l q hq).2 (by rw [(allR_ok l q hq).1]; omega)).1⟩) (by omega)
    rw [filter_yes, show ((allR l).map fun r => eP (turnOf b r)) = (tl b l).map eP by unfold tl; rw [List.map_map]; rfl] at c
    exact gSet (gF c) (put_fr rfl f11)
  have s7 : (mIfS (mTst (mOp fNe (mUn fRepr (mCall (chk 2 f_whole_turn) (axD (mV 3) (axD (mV 10) axNil)))) (mUn fRepr (mTup (mCons (mUn fMax (mF (mComp [17, 18] (mItems (mV 11)) (tTup 2 (tConsT (tName 17) (tConsT (tName 18) tNilT))) mYes (mV 17)))) (mCons (mUn fMax (mF (mComp [17, 18] (mItems (mV 11)) (tTup 2 (tConsT (tName 17) (tConsT (tName 18) tNilT))) mYes (mV 18)))) mNil)))))) (mRet (mC (.bool false))) mSkip) [.scr ns, .drw, lap, .d (eBox b), .d (eR r), .d (.int n), .d (.int (turnOf b r).1), .d (.int (turnOf b r).2), .d (.int (turnOf b (r ++ [x])).1), .d (.int (turnOf b (r ++ [x])).2), .d (.int l), .d (.list ((tl b l).map eP)), .un, .un, .un, .un, .un, .un, .un, .un] d5 = some (.nx [.scr ns, .drw, lap, .d (eBox b), .d (eR r), .d (.int n), .d (.int (turnOf b r).1), .d (.int (turnOf b r).2), .d (.int (turnOf b (r ++ [x])).1), .d (.int (turnOf b (r ++ [x])).2), .d (.int l), .d (.list ((tl b l).map eP)), .un, .un, .un, .un, .un, .un, .un, .un], d5) :=
    Eq.trans (gIfF (gTst (gOp (gUn (gCall (args := [.d (eBox b), .d (.int l)]) (ds1 := d5) rfl rfl (whole_ok B ln g1 g3)) w1) (gUn (gTup (gCons (gUn (fst_ok (env1 := [.scr ns, .drw, lap, .d (eBox b), .d (eR r), .d (.int n), .d (.int (turnOf b r).1), .d (.int (turnOf b r).2), .d (.int (turnOf b (r ++ [x])).1), .d (.int (turnOf b (r ++ [x])).2), .d (.int l), .d (.list ((tl b l).map eP)), .un, .un, .un, .un, .un, .un, .un, .un]) ln rfl rfl (·.1) fun p => ⟨_, rfl, rfl⟩) g1) (gCons (gUn (fst_ok (env1 := [.scr ns, .drw, lap, .d (eBox b), .d (eR r), .d (.int n), .d (.int (turnOf b r).1), .d (.int (turnOf b r).2), .d (.int (turnOf b (r ++ [x])).1), .d (.int (turnOf b (r ++ [x])).2), .d (.int l), .d (.list ((tl b l).map eP)), .un, .un, .un, .un, .un, .un, .un, .un]) ln rfl rfl (·.2) fun p => ⟨_, rfl, rfl⟩) g3) rfl)) sh2) w1) w2))) rfl
  have s8 : (mIfS (mTst (mOp fNe (mCall (chk 2 f_back_count) (axD (mV 3) (axD (mV 10) axNil))) (mUn fLen (mF (mComp [17, 18] (mItems (mV 11)) (tTup 2 (tConsT (tName 17) (tConsT (tName 18) tNilT))) (mTst (mOp fEq (mV 17) (mC (.int 0)))) (mV 17)))))) (mRet (mC (.bool false))) mSkip) [.scr ns, .drw, lap, .d (eBox b), .d (eR r), .d (.int n), .d (.int (turnOf b r).1), .d (.int (turnOf b r).2), .d (.int (turnOf b (r ++ [x])).1), .d (.int (turnOf b (r ++ [x])).2), .d (.int l), .d (.list ((tl b l).map eP)), .un, .un, .un, .un, .un, .un, .un, .un] d5 = some (.nx [.scr ns, .drw, lap, .d (eBox b), .d (eR r), .d (.int n), .d (.int (turnOf b r).1), .d (.int (turnOf b r).2), .d (.int (turnOf b (r ++ [x])).1), .d (.int (turnOf b (r ++ [x])).2), .d (.int l), .d (.list ((tl b l).map eP)), .un, .un, .un, .un, .un, .un, .un, .un], d5) := by
    have c := comp_ev (vs := [17, 18]) (env1 := [.scr ns, .drw, lap, .d (eBox b), .d (eR r), .d (.int n), .d (.int (turnOf b r).1), .d (.int (turnOf b r).2), .d (.int (turnOf b (r ++ [x])).1), .d (.int (turnOf b (r ++ [x])).2), .d (.int l), .d (.list ((tl b l).map eP)), .un, .un, .un, .un, .un, .un, .un, .un]) (env := [.scr ns, .drw, lap, .d (eBox b), .d (eR r), .d (.int n), .d (.int (turnOf b r).1), .d (.int (turnOf b r).2), .d (.int (turnOf b (r ++ [x])).1), .d (.int (turnOf b (r ++ [x])).2), .d (.int l), .d (.list ((tl b l).map eP)), .un, .un, .un, .un, .un, .un, .un, .un]) (ds := d5) (mi := mItems (mV 11)) (t := tTup 2 (tConsT (tName 17) (tConsT (tName 18) tNilT))) (c := mTst (mOp fEq (mV 17) (mC (.int 0)))) (elt := mV 17) (xs := tl b l) (e := eP) (fun p => (p.1 : Int) == 0) (fun p => .int (p.1 : Int)) rfl rfl (fun p _ => ⟨[.scr ns, .drw, lap, .d (eBox b), .d (eR r), .d (.int n), .d (.int (turnOf b r).1), .d (.int (turnOf b r).2), .d (.int (turnOf b (r ++ [x])).1), .d (.int (turnOf b (r ++ [x])).2), .d (.int l), .d (.list ((tl b l).map eP)), .un, .un, .un, .un, .un, .d (.int p.1), .d (.int p.2), .un], rfl, gTst (gOp rfl rfl (fEq_int _ _)), fun _ => rfl⟩) (by unfold tl; rw [List.length_map]; omega)
    refine Eq.trans (gIfF (gTst (gOp (gCall (args := [.d (eBox b), .d (.int l)]) (ds1 := d5) rfl rfl (back_ok B ln)) (gUn (gF c) (by rw [fLen_list, List.length_map])) ?_))) rfl
    rw [fNe_int, beq_self_eq_true]
    rfl
  exact gSeq s0 (gSeq s1 (gSeq s2 (gSeq s3 (gSeq s4 (gSeq s5 (gSeq s6 (gSeq s7 s8)))))))
end
end Lw

/-! T69f: what the law tells of odd values; the answer. -/
namespace Lw
open PySem PySem.Spec L2 DL

def badR : List PyData := [.none, .int 5, .list [.int 0], .tuple [.int 2], .tuple [.int (-1)], .tuple [.bool true], .tuple [.str "0"], .str "0", .tuple (List.replicate 61 (.int 0)), .tuple (List.replicate 17 (.int 0))]
def wrongL : List PyData := [.none, .int (-1), .int 7, .bool true, .str "1"]
def farL : List PyData := [.none, .int (-1), .int 41, .bool true, .str "1"]
theorem short_bad : ∀ d ∈ badR, ∀ ds : DS, f_is_short [.d d, .d (.int 16)] ds = some (.ok (.bool false), ds) :=
  all_mem (P := fun d => ∀ ds : DS, f_is_short [.d d, .d (.int 16)] ds = some (.ok (.bool false), ds)) ⟨fun _ => rfl, fun _ => rfl, fun _ => rfl, fun _ => rfl, fun _ => rfl, fun _ => rfl, fun _ => rfl, fun _ => rfl, fun _ => rfl, fun _ => rfl, trivial⟩
def CB (B : PyData) : Prop := ∀ ds : DS, f_check_box [.d B] ds = some (.exc .malformed, ds)
def CG (B : PyData) : Prop := ∀ ds : DS, f_check_box [.d B] ds = some (.ok .none, ds)
def CR (B r : PyData) : Prop := ∀ ds : DS, f_check_row [.d B, .d r] ds = some (.exc .malformed, ds)
def CN (B n : PyData) : Prop := ∀ ds : DS, f_check_length [.d B, .d n] ds = some (.exc .malformed, ds)
section
variable {B n r : PyData} {ds : DS}
theorem cr_cb (h : CB B) : CR B r := fun ds => gRunEx (env' := [.d B, .d r]) (mSeq_ex (gDropEx (gCall (args := [.d B]) (ds1 := ds) rfl rfl (h ds))))
theorem cn_cb (h : CB B) : CN B n := fun ds => gRunEx (env' := [.d B, .d n]) (mSeq_ex (gDropEx (gCall (args := [.d B]) (ds1 := ds) rfl rfl (h ds))))
theorem cr_bad (h : CG B) (hr : r ∈ badR) : CR B r := fun ds => gRunEx (env' := [.d B, .d r]) (gSeq (gDrop (gCall (args := [.d B]) (ds1 := ds) rfl rfl (h ds))) (Eq.trans (gIfT (gNot (k := false) (gTst (gCall (args := [.d r, .d (.int 16)]) (ds1 := ds) rfl rfl (short_bad r hr ds))))) rfl))
theorem wrong_c : ∀ d ∈ wrongL, ∀ (B : PyData) (ds : DS), mOr (mNot (mTst (mCall (chk 1 f_is_whole) (axD (mV 1) axNil)))) (mNot (mTst (mChain fLe fLe (mC (.int 0)) (mV 1) (mC k_MOST_LENGTH)))) [.d B, .d d] ds = some (.ok true, ds) :=
  all_mem (P := fun d => ∀ (B : PyData) (ds : DS), mOr (mNot (mTst (mCall (chk 1 f_is_whole) (axD (mV 1) axNil)))) (mNot (mTst (mChain fLe fLe (mC (.int 0)) (mV 1) (mC k_MOST_LENGTH)))) [.d B, .d d] ds = some (.ok true, ds)) ⟨fun _ _ => rfl, fun _ _ => rfl, fun _ _ => rfl, fun _ _ => rfl, fun _ _ => rfl, trivial⟩
theorem far_c : ∀ d ∈ farL, ∀ (B r : PyData) (ds : DS), mOr (mNot (mTst (mCall (chk 1 f_is_whole) (axD (mV 1) axNil)))) (mNot (mTst (mChain fLe fLe (mC (.int 0)) (mV 1) (mC k_MOST_COPIES)))) [.d B, .d d, .d r, .un] ds = some (.ok true, ds) :=
  all_mem (P := fun d => ∀ (B r : PyData) (ds : DS), mOr (mNot (mTst (mCall (chk 1 f_is_whole) (axD (mV 1) axNil)))) (mNot (mTst (mChain fLe fLe (mC (.int 0)) (mV 1) (mC k_MOST_COPIES)))) [.d B, .d d, .d r, .un] ds = some (.ok true, ds)) ⟨fun _ _ _ => rfl, fun _ _ _ => rfl, fun _ _ _ => rfl, fun _ _ _ => rfl, fun _ _ _ => rfl, trivial⟩
theorem cn_bad (h : CG B) (hn : n ∈ wrongL) : CN B n := fun ds => gRunEx (env' := [.d B, .d n]) (gSeq (gDrop (gCall (args := [.d B]) (ds1 := ds) rfl rfl (h ds))) (Eq.trans (gIfT (wrong_c n hn B ds)) rfl))
theorem behind_cr (h : CR B r) : f_behind_copies [.d B, .d n, .d r] ds = some (.exc .malformed, ds) := gRunEx (env' := [.d B, .d n, .d r, .un]) (mSeq_ex (gDropEx (gCall (args := [.d B, .d r]) (ds1 := ds) rfl rfl (h ds))))
theorem behind_far (h : f_check_row [.d B, .d r] ds = some (.ok .none, ds)) (hn : n ∈ farL) : f_behind_copies [.d B, .d n, .d r] ds = some (.exc .malformed, ds) := gRunEx (env' := [.d B, .d n, .d r, .un]) (gSeq (gDrop (gCall (args := [.d B, .d r]) (ds1 := ds) rfl rfl h)) (mSeq_ex (Eq.trans (gIfT (far_c n hn B r ds)) rfl)))
theorem row_cr (h : CR B r) : f_row_turn [.d B, .d r] ds = some (.exc .malformed, ds) := gRunEx (env' := [.d B, .d r]) (mSeq_ex (gDropEx (gCall (args := [.d B, .d r]) (ds1 := ds) rfl rfl (h ds))))
theorem whole_cn (h : CN B n) : f_whole_turn [.d B, .d n] ds = some (.exc .malformed, ds) := gRunEx (env' := [.d B, .d n, .un, .un, .un, .un, .un]) (mSeq_ex (gDropEx (gCall (args := [.d B, .d n]) (ds1 := ds) rfl rfl (h ds))))
theorem back_cn (h : CN B n) : f_back_count [.d B, .d n] ds = some (.exc .malformed, ds) := gRunEx (env' := [.d B, .d n, .un]) (mSeq_ex (gDropEx (gCall (args := [.d B, .d n]) (ds1 := ds) rfl rfl (h ds))))
theorem told_in {m : MS} {env : Ev} (h : m env ds = some (.ex .malformed env, ds)) : mTry (fun _ => true) m (mRet (mC (.str "<malformed>"))) env ds = some (.rt (.str "<malformed>"), ds) := by
  unfold mTry
  rw [h]
  rfl
theorem told0 (h : f_behind_copies [.d B, .d n, .d r] ds = some (.exc .malformed, ds)) : f__law_told [.d (.int 0), .d B, .d n, .d r] ds = some (.ok (.str "<malformed>"), ds) :=
  gRunRt (told_in (mSeq_ex (Eq.trans (gIfT (gTst (gOp rfl rfl rfl))) (gRetEx (gCall (args := [.d B, .d n, .d r]) (ds1 := ds) rfl rfl h)))))
theorem told1 (h : f_row_turn [.d B, .d r] ds = some (.exc .malformed, ds)) : f__law_told [.d (.int 1), .d B, .d n, .d r] ds = some (.ok (.str "<malformed>"), ds) :=
  gRunRt (told_in (gSeq (Eq.trans (gIfF (gTst (gOp rfl rfl rfl))) rfl) (mSeq_ex (Eq.trans (gIfT (gTst (gOp rfl rfl rfl))) (gRetEx (gCall (args := [.d B, .d r]) (ds1 := ds) rfl rfl h))))))
theorem told2 (h : f_whole_turn [.d B, .d n] ds = some (.exc .malformed, ds)) : f__law_told [.d (.int 2), .d B, .d n, .d r] ds = some (.ok (.str "<malformed>"), ds) :=
  gRunRt (told_in (gSeq (Eq.trans (gIfF (gTst (gOp rfl rfl rfl))) rfl) (gSeq (Eq.trans (gIfF (gTst (gOp rfl rfl rfl))) rfl) (gRetEx (Eq.trans (gIf (k := true) (gTst (gOp rfl rfl rfl))) (gCall (args := [.d B, .d n]) (ds1 := ds) rfl rfl h))))))
theorem told3 (h : f_back_count [.d B, .d n] ds = some (.exc .malformed, ds)) : f__law_told [.d (.int 3), .d B, .d n, .d r] ds = some (.ok (.str "<malformed>"), ds) :=
  gRunRt (told_in (gSeq (Eq.trans (gIfF (gTst (gOp rfl rfl rfl))) rfl) (gSeq (Eq.trans (gIfF (gTst (gOp rfl rfl rfl))) rfl) (gRetEx (Eq.trans (gIf (k := false) (gTst (gOp rfl rfl rfl))) (gCall (args := [.d B, .d n]) (ds1 := ds) rfl rfl h))))))
end
theorem odd_row_ok {ds : DS} (h : DI ds) : ∃ (d : PyData) (ds' : DS), f__law_odd_row [.drw] ds = some (.ok d, ds') ∧ DI ds' ∧ d ∈ badR := by
  obtain ⟨r, ds', t1, t2, t3, t4⟩ := take_ok h (many := 9) (by decide) (by decide)
  have hl : r.toNat < (badR.take 9).length := by
    show r.toNat < 9
    omega
  exact ⟨(badR.take 9)[r.toNat], ds', gRunRt (gRet (gOp (x := .list (badR.take 9)) (ds1 := ds) rfl ((take_ev rfl rfl).trans t1) (fIx_list t2 (List.getElem?_eq_getElem hl)))), t4, List.mem_of_mem_take (List.getElem_mem hl)⟩
theorem pick_ok {l : List PyData} {env : Ev} {ds ds1 ds2 : DS} {m : ME (List PyData)} {c : ME PyData} {r : Int} (hm : m env ds = some (.ok l, ds1)) (hc : c env ds1 = some (.ok (.int r), ds2)) (h0 : 0 ≤ r) (h1 : r.toNat < l.length) : mOp fIx (mF m) c env ds = some (.ok l[r.toNat], ds2) :=
  gOp (gF hm) hc (fIx_list h0 (List.getElem?_eq_getElem h1))
set_option maxHeartbeats 4000000 in
theorem tail_ok {ns : List Int} {b : List Row} {ds : DS} {x2 x4 x5 x6 x7 x8 x9 x10 x11 : Sl} (h : DI ds) (B : BoxOk b) : ∃ ds', (mSeq (mAsg (tTup 2 (tConsT (tName 12) (tConsT (tName 13) tNilT))) (mTup (mCons (mCall (chk 1 f__law_odd_box) (axV 1 axNil)) (mCons (mOp fIx (mF (mLst (mCons (mCall (chk 1 f__law_odd_row) (axV 1 axNil)) (mCons (mOp fMul (mTup (mCons (mC (.int 0)) mNil)) (mC (.int 17))) mNil)))) (mCall (chk 2 f__law_take) (axV 1 (axD (mC (.int 2)) axNil)))) mNil))))
  (mSeq (mAsg (tTup 2 (tConsT (tName 14) (tConsT (tName 15) tNilT))) (mTup (mCons (mOp fIx (mF (mLst (mCons (mC .none) (mCons (mUn fNeg (mC (.int 1))) (mCons (mC (.int 7)) (mCons (mC (.bool true)) (mCons (mC (.str "1")) mNil))))))) (mCall (chk 2 f__law_take) (axV 1 (axD (mC (.int 5)) axNil)))) (mCons (mOp fIx (mF (mLst (mCons (mC .none) (mCons (mUn fNeg (mC (.int 1))) (mCons (mC (.int 41)) (mCons (mC (.bool true)) (mCons (mC (.str "1")) mNil))))))) (mCall (chk 2 f__law_take) (axV 1 (axD (mC (.int 5)) axNil)))) mNil))))
  (mSeq (mSet 16 (mOp fAdd (mF (mComp [19] (mRng1 (mC (.int 4))) (tName 19) mYes (mCall (chk 4 f__law_told) (axD (mV 19) (axD (mV 12) (axD (mC (.int 1)) (axD (mTup (mCons (mC (.int 0)) mNil)) axNil))))))) (mF (mComp [19] (mItems (mTup (mCons (mC (.int 0)) (mCons (mC (.int 1)) mNil)))) (tName 19) mYes (mCall (chk 4 f__law_told) (axD (mV 19) (axD (mV 3) (axD (mC (.int 1)) (axD (mV 13) axNil)))))))))
  (mRet (mOp fEq (mOp fAdd (mOp fAdd (mV 16) (mF (mComp [19] (mItems (mTup (mCons (mC (.int 2)) (mCons (mC (.int 3)) mNil)))) (tName 19) mYes (mCall (chk 4 f__law_told) (axD (mV 19) (axD (mV 3) (axD (mV 14) (axD (mTup mNil) axNil)))))))) (mF (mLst (mCons (mCall (chk 4 f__law_told) (axD (mC (.int 0)) (axD (mV 3) (axD (mV 15) (axD (mTup mNil) axNil))))) mNil)))) (mOp fMul (mF (mLst (mCons (mC (.str "<malformed>")) mNil))) (mC (.int 9)))))))) [.scr ns, .drw, x2, .d (eBox b), x4, x5, x6, x7, x8, x9, x10, x11, .un, .un, .un, .un, .un, .un, .un, .un] ds = some (.rt (.bool true), ds') := by
  have G : CG (eBox b) := fun ds => check_box_ok B.one B.five B.rows
  have hnil : ∀ ds : DS, f_check_row [.d (eBox b), .d (.tuple [])] ds = some (.ok .none, ds) := fun ds => check_row_ok (r := []) B (fun _ q => nomatch q) (by decide)
  obtain ⟨od, d1, o1, o2, o3⟩ := odd_ok h
  obtain ⟨orw, d2, p1, p2, p3⟩ := odd_row_ok o2
  obtain ⟨k1, d3, q1, q2, q3, q4⟩ := take_ok p2 (many := 2) (by decide) (by decide)
  obtain ⟨k2, d4, u1, u2, u3, u4⟩ := take_ok q4 (many := 5) (by decide) (by decide)
  obtain ⟨k3, d5, w1, w2, w3, w4⟩ := take_ok u4 (many := 5) (by decide) (by decide)
  have l1 : k1.toNat < [orw, .tuple (List.replicate 17 (.int 0))].length := by show k1.toNat < 2; omega
  have l2 : k2.toNat < wrongL.length := by show k2.toNat < 5; omega
  have l3 : k3.toNat < farL.length := by show k3.toNat < 5; omega
  obtain ⟨bd, ebd⟩ : ∃ x, x = [orw, .tuple (List.replicate 17 (.int 0))][k1.toNat] := ⟨_, rfl⟩
  obtain ⟨wr, ewr⟩ : ∃ x, x = wrongL[k2.toNat] := ⟨_, rfl⟩
  obtain ⟨fr, efr⟩ : ∃ x, x = farL[k3.toNat] := ⟨_, rfl⟩
  have mbd : bd ∈ badR := by
    have : bd ∈ [orw, PyData.tuple (List.replicate 17 (.int 0))] := by rw [ebd]; exact List.getElem_mem l1
    rcases List.mem_cons.mp this with e | e
    · rw [e]; exact p3
    · rw [List.mem_singleton.mp e]
      exact List.mem_of_getElem? (i := 9) rfl
  have mwr : wr ∈ wrongL := by rw [ewr]; exact List.getElem_mem l2
  have mfr : fr ∈ farL := by rw [efr]; exact List.getElem_mem l3
  have s0 : (mAsg (tTup 2 (tConsT (tName 12) (tConsT (tName 13) tNilT))) (mTup (mCons (mCall (chk 1 f__law_odd_box) (axV 1 axNil)) (mCons (mOp fIx (mF (mLst (mCons (mCall (chk 1 f__law_odd_row) (axV 1 axNil)) (mCons (mOp fMul (mTup (mCons (mC (.int 0)) mNil)) (mC (.int 17))) mNil)))) (mCall (chk 2 f__law_take) (axV 1 (axD (mC (.int 2)) axNil)))) mNil)))) [.scr ns, .drw, x2, .d (eBox b), x4, x5, x6, x7, x8, x9, x10, x11, .un, .un, .un, .un, .un, .un, .un, .un] ds = some (.nx [.scr ns, .drw, x2, .d (eBox b), x4, x5, x6, x7, x8, x9, x10, x11, .d od, .d bd, .un, .un, .un, .un, .un, .un], d3) := by
    rw [ebd]
    exact gAsg (gTup (gCons (gCall (args := [.drw]) (ds1 := ds) rfl rfl o1) (gCons (pick_ok (l := [orw, .tuple (List.replicate 17 (.int 0))]) (ds1 := d2) (DL.gLst (DL.gCons (gCall (args := [.drw]) (ds1 := d1) rfl rfl p1) (DL.gCons rfl rfl)) (short_of (by show 2 ≤ _; decide))) ((take_ev rfl rfl).trans q1) q2 l1) rfl)) (short_of (by show 2 ≤ _; decide))) (tgt2 rfl (.inl rfl) rfl (.inl rfl))
  have s1 : (mAsg (tTup 2 (tConsT (tName 14) (tConsT (tName 15) tNilT))) (mTup (mCons (mOp fIx (mF (mLst (mCons (mC .none) (mCons (mUn fNeg (mC (.int 1))) (mCons (mC (.int 7)) (mCons (mC (.bool true)) (mCons (mC (.str "1")) mNil))))))) (mCall (chk 2 f__law_take) (axV 1 (axD (mC (.int 5)) axNil)))) (mCons (mOp fIx (mF (mLst (mCons (mC .none) (mCons (mUn fNeg (mC (.int 1))) (mCons (mC (.int 41)) (mCons (mC (.bool true)) (mCons (mC (.str "1")) mNil))))))) (mCall (chk 2 f__law_take) (axV 1 (axD (mC (.int 5)) axNil)))) mNil)))) [.scr ns, .drw, x2, .d (eBox b), x4, x5, x6, x7, x8, x9, x10, x11, .d od, .d bd, .un, .un, .un, .un, .un, .un] d3 = some (.nx [.scr ns, .drw, x2, .d (eBox b), x4, x5, x6, x7, x8, x9, x10, x11, .d od, .d bd, .d wr, .d fr, .un, .un, .un, .un], d5) := by
    rw [ewr, efr]
    exact gAsg (gTup (gCons (pick_ok (l := wrongL) rfl ((take_ev rfl rfl).trans u1) u2 l2) (gCons (pick_ok (l := farL) rfl ((take_ev rfl rfl).trans w1) w2 l3) rfl)) (short_of (by show 2 ≤ _; decide))) (tgt2 rfl (.inl rfl) rfl (.inl rfl))
  have c1 : (mComp [19] (mRng1 (mC (.int 4))) (tName 19) mYes (mCall (chk 4 f__law_told) (axD (mV 19) (axD (mV 12) (axD (mC (.int 1)) (axD (mTup (mCons (mC (.int 0)) mNil)) axNil)))))) [.scr ns, .drw, x2, .d (eBox b), x4, x5, x6, x7, x8, x9, x10, x11, .d od, .d bd, .d wr, .d fr, .un, .un, .un, .un] d5 = some (.ok (([0, 1, 2, 3].filter fun _ => true).map fun _ => .str "<malformed>"), d5) :=
    comp_ev (env1 := [.scr ns, .drw, x2, .d (eBox b), x4, x5, x6, x7, x8, x9, x10, x11, .d od, .d bd, .d wr, .d fr, .un, .un, .un, .un]) (e := .int) (xs := [0, 1, 2, 3]) (fun _ => true) (fun _ => .str "<malformed>") rfl rfl (fun x hx => ⟨[.scr ns, .drw, x2, .d (eBox b), x4, x5, x6, x7, x8, x9, x10, x11, .d od, .d bd, .d wr, .d fr, .un, .un, .un, .d (.int x)], rfl, rfl, fun _ => gCall (args := [.d (.int x), .d od, .d (.int 1), .d (.tuple [.int 0])]) (ds1 := d5) rfl rfl (by
      rcases List.mem_cons.mp hx with rfl | hx
      · exact told0 (behind_cr (cr_cb o3))
      rcases List.mem_cons.mp hx with rfl | hx
      · exact told1 (row_cr (cr_cb o3))
      rcases List.mem_cons.mp hx with rfl | hx
      · exact told2 (whole_cn (cn_cb o3))
      rw [List.mem_singleton.mp hx]
      exact told3 (back_cn (cn_cb o3)))⟩) (by decide)
  have c2 : (mComp [19] (mItems (mTup (mCons (mC (.int 0)) (mCons (mC (.int 1)) mNil)))) (tName 19) mYes (mCall (chk 4 f__law_told) (axD (mV 19) (axD (mV 3) (axD (mC (.int 1)) (axD (mV 13) axNil)))))) [.scr ns, .drw, x2, .d (eBox b), x4, x5, x6, x7, x8, x9, x10, x11, .d od, .d bd, .d wr, .d fr, .un, .un, .un, .un] d5 = some (.ok (([0, 1].filter fun _ => true).map fun _ => .str "<malformed>"), d5) :=
    comp_ev (env1 := [.scr ns, .drw, x2, .d (eBox b), x4, x5, x6, x7, x8, x9, x10, x11, .d od, .d bd, .d wr, .d fr, .un, .un, .un, .un]) (e := .int) (xs := [0, 1]) (fun _ => true) (fun _ => .str "<malformed>") rfl rfl (fun x hx => ⟨[.scr ns, .drw, x2, .d (eBox b), x4, x5, x6, x7, x8, x9, x10, x11, .d od, .d bd, .d wr, .d fr, .un, .un, .un, .d (.int x)], rfl, rfl, fun _ => gCall (args := [.d (.int x), .d (eBox b), .d (.int 1), .d bd]) (ds1 := d5) rfl rfl (by
      rcases List.mem_cons.mp hx with rfl | hx
      · exact told0 (behind_cr (cr_bad G mbd))
      rw [List.mem_singleton.mp hx]
      exact told1 (row_cr (cr_bad G mbd)))⟩) (by decide)
  have c3 : (mComp [19] (mItems (mTup (mCons (mC (.int 2)) (mCons (mC (.int 3)) mNil)))) (tName 19) mYes (mCall (chk 4 f__law_told) (axD (mV 19) (axD (mV 3) (axD (mV 14) (axD (mTup mNil) axNil)))))) [.scr ns, .drw, x2, .d (eBox b), x4, x5, x6, x7, x8, x9, x10, x11, .d od, .d bd, .d wr, .d fr, .d (.list (List.replicate 6 (.str "<malformed>"))), .un, .un, .un] d5 = some (.ok (([2, 3].filter fun _ => true).map fun _ => .str "<malformed>"), d5) :=
    comp_ev (env1 := [.scr ns, .drw, x2, .d (eBox b), x4, x5, x6, x7, x8, x9, x10, x11, .d od, .d bd, .d wr, .d fr, .d (.list (List.replicate 6 (.str "<malformed>"))), .un, .un, .un]) (e := .int) (xs := [2, 3]) (fun _ => true) (fun _ => .str "<malformed>") rfl rfl (fun x hx => ⟨[.scr ns, .drw, x2, .d (eBox b), x4, x5, x6, x7, x8, x9, x10, x11, .d od, .d bd, .d wr, .d fr, .d (.list (List.replicate 6 (.str "<malformed>"))), .un, .un, .d (.int x)], rfl, rfl, fun _ => gCall (args := [.d (.int x), .d (eBox b), .d wr, .d (.tuple [])]) (ds1 := d5) rfl rfl (by
      rcases List.mem_cons.mp hx with rfl | hx
      · exact told2 (whole_cn (cn_bad G mwr))
      rw [List.mem_singleton.mp hx]
      exact told3 (back_cn (cn_bad G mwr)))⟩) (by decide)
  have s2 : (mSet 16 (mOp fAdd (mF (mComp [19] (mRng1 (mC (.int 4))) (tName 19) mYes (mCall (chk 4 f__law_told) (axD (mV 19) (axD (mV 12) (axD (mC (.int 1)) (axD (mTup (mCons (mC (.int 0)) mNil)) axNil))))))) (mF (mComp [19] (mItems (mTup (mCons (mC (.int 0)) (mCons (mC (.int 1)) mNil)))) (tName 19) mYes (mCall (chk 4 f__law_told) (axD (mV 19) (axD (mV 3) (axD (mC (.int 1)) (axD (mV 13) axNil))))))))) [.scr ns, .drw, x2, .d (eBox b), x4, x5, x6, x7, x8, x9, x10, x11, .d od, .d bd, .d wr, .d fr, .un, .un, .un, .un] d5 = some (.nx [.scr ns, .drw, x2, .d (eBox b), x4, x5, x6, x7, x8, x9, x10, x11, .d od, .d bd, .d wr, .d fr, .d (.list (List.replicate 6 (.str "<malformed>"))), .un, .un, .un], d5) :=
    gSet (gOp (gF c1) (gF c2) rfl) (put_fr rfl (.inl rfl))
  have e9 : fEq (.list (List.replicate 9 (.str "<malformed>"))) (.list (List.replicate 9 (.str "<malformed>"))) = some (.bool true) := by
    rw [fEq_sh (by decide +kernel) (by decide +kernel), show PyData.eqv (.list (List.replicate 9 (.str "<malformed>"))) (.list (List.replicate 9 (.str "<malformed>"))) = true by decide +kernel]
  have s3 : (mRet (mOp fEq (mOp fAdd (mOp fAdd (mV 16) (mF (mComp [19] (mItems (mTup (mCons (mC (.int 2)) (mCons (mC (.int 3)) mNil)))) (tName 19) mYes (mCall (chk 4 f__law_told) (axD (mV 19) (axD (mV 3) (axD (mV 14) (axD (mTup mNil) axNil)))))))) (mF (mLst (mCons (mCall (chk 4 f__law_told) (axD (mC (.int 0)) (axD (mV 3) (axD (mV 15) (axD (mTup mNil) axNil))))) mNil)))) (mOp fMul (mF (mLst (mCons (mC (.str "<malformed>")) mNil))) (mC (.int 9))))) [.scr ns, .drw, x2, .d (eBox b), x4, x5, x6, x7, x8, x9, x10, x11, .d od, .d bd, .d wr, .d fr, .d (.list (List.replicate 6 (.str "<malformed>"))), .un, .un, .un] d5 = some (.rt (.bool true), d5) :=
    gRet (gOp (x := .list (List.replicate 9 (.str "<malformed>"))) (y := .list (List.replicate 9 (.str "<malformed>"))) (gOp (y := .list [.str "<malformed>"]) (gOp rfl (gF c3) rfl) (gF (gLst (gCons (gCall (args := [.d (.int 0), .d (eBox b), .d fr, .d (.tuple [])]) (ds1 := d5) rfl rfl (told0 (behind_far (hnil d5) mfr))) rfl) (short_of (by show 1 ≤ _; decide)))) rfl) rfl e9)
  exact ⟨d5, gSeq s0 (gSeq s1 (gSeq s2 s3))⟩
theorem ans : ∀ ns : List Int, ns.length ≤ 63 → runB 20 1 false m_law [.scr ns] none = some (.ok (.bool true), none) := by
  intro ns hn
  obtain ⟨cs, seed, d1⟩ := draw_ok ns hn
  obtain ⟨env', ds', l1, l2⟩ := for_inv (t := tName 2) (body := (mSeq (mAsg (tTup 3 (tConsT (tName 3) (tConsT (tName 4) (tConsT (tName 5) tNilT)))) (mTup (mCons (mCall (chk 2 f__law_box) (axV 1 (axD (mC (.int 5)) axNil))) (mCons (mCall (chk 2 f__law_row) (axV 1 (axD (mC (.int 8)) axNil))) (mCons (mCall (chk 2 f__law_take) (axV 1 (axD (mC (.int 41)) axNil))) mNil)))))
  (mSeq (mAsg (tTup 2 (tConsT (tName 6) (tConsT (tName 7) tNilT))) (mCall (chk 2 f__law_turn) (axD (mV 3) (axD (mV 4) axNil))))
  (mSeq (mIfS (mOr (mTst (mOp fNe (mCall (chk 3 f_behind_copies) (axD (mV 3) (axD (mV 5) (axD (mV 4) axNil)))) (mCall (chk 3 f__law_behind) (axD (mV 3) (axD (mV 5) (axD (mV 4) axNil)))))) (mOr (mTst (mOp fNe (mCall (chk 2 f_row_turn) (axD (mV 3) (axD (mV 4) axNil))) (mTup (mCons (mV 6) (mCons (mV 7) mNil))))) (mTst (mOp fNotIn (mV 7) (mF (mLst (mCons (mC (.int 1)) (mCons (mC (.int 2)) (mCons (mC (.int 4)) (mCons (mC (.int 8)) (mCons (mC (.int 16)) (mCons (mC (.int 32)) (mCons (mC (.int 64)) (mCons (mC (.int 128)) (mCons (mC (.int 256)) mNil))))))))))))))) (mRet (mC (.bool false))) mSkip)
  (mSeq (mAsg (tTup 2 (tConsT (tName 8) (tConsT (tName 9) tNilT))) (mCall (chk 2 f__law_turn) (axD (mV 3) (axD (mOp fAdd (mV 4) (mTup (mCons (mCall (chk 2 f__law_take) (axV 1 (axD (mC (.int 2)) axNil))) mNil))) axNil))))
  (mSeq (mIfS (mOr (mTst (mOp fLt (mV 8) (mV 6))) (mTst (mOp fNotIn (mV 9) (mF (mLst (mCons (mV 7) (mCons (mOp fMul (mC (.int 2)) (mV 7)) mNil))))))) (mRet (mC (.bool false))) mSkip)
  (mSeq (mSet 10 (mCall (chk 2 f__law_take) (axV 1 (axD (mC (.int 6)) axNil))))
  (mSeq (mSet 11 (mF (mComp [17] (mItems (mCall (chk 1 f__law_rows) (axD (mV 10) axNil))) (tName 17) mYes (mCall (chk 2 f__law_turn) (axD (mV 3) (axD (mV 17) axNil))))))
  (mSeq (mIfS (mTst (mOp fNe (mUn fRepr (mCall (chk 2 f_whole_turn) (axD (mV 3) (axD (mV 10) axNil)))) (mUn fRepr (mTup (mCons (mUn fMax (mF (mComp [17, 18] (mItems (mV 11)) (tTup 2 (tConsT (tName 17) (tConsT (tName 18) tNilT))) mYes (mV 17)))) (mCons (mUn fMax (mF (mComp [17, 18] (mItems (mV 11)) (tTup 2 (tConsT (tName 17) (tConsT (tName 18) tNilT))) mYes (mV 18)))) mNil)))))) (mRet (mC (.bool false))) mSkip)
  (mIfS (mTst (mOp fNe (mCall (chk 2 f_back_count) (axD (mV 3) (axD (mV 10) axNil))) (mUn fLen (mF (mComp [17, 18] (mItems (mV 11)) (tTup 2 (tConsT (tName 17) (tConsT (tName 18) tNilT))) (mTst (mOp fEq (mV 17) (mC (.int 0)))) (mV 17)))))) (mRet (mC (.bool false))) mSkip))))))))))
    (I := fun i env ds => DI ds ∧ ∃ x2 x3 x4 x5 x6 x7 x8 x9 x10 x11, frS x2 ∧ frS x3 ∧ frS x4 ∧ frS x5 ∧ frS x6 ∧ frS x7 ∧ frS x8 ∧ frS x9 ∧ frS x10 ∧ frS x11 ∧ (0 < i → ∃ b, x3 = .d (eBox b) ∧ BoxOk b) ∧ env = [.scr ns, .drw, x2, x3, x4, x5, x6, x7, x8, x9, x10, x11, .un, .un, .un, .un, .un, .un, .un, .un]) (rangeD 0 4) 0 [.scr ns, .drw, .un, .un, .un, .un, .un, .un, .un, .un, .un, .un, .un, .un, .un, .un, .un, .un, .un, .un] (some ⟨cs, -1, 0, seed⟩) (fun i x env ds _ ⟨hd, x2, x3, x4, x5, x6, x7, x8, x9, x10, x11, h2, h3, h4, h5, h6, h7, h8, h9, h10, h11, _, e⟩ => by
      subst e
      obtain ⟨b, y4, y5, y6, y7, y8, y9, y10, y11, ds2, t1, t2, t3⟩ := lap_ok (ns := ns) (lap := .d x) hd h3 h4 h5 h6 h7 h8 h9 h10 h11
      exact ⟨_, _, ds2, put_fr rfl h2, t1, t2, _, _, _, _, _, _, _, _, _, _, .inr ⟨_, rfl⟩, .inr ⟨_, rfl⟩, .inr ⟨_, rfl⟩, .inr ⟨_, rfl⟩, .inr ⟨_, rfl⟩, .inr ⟨_, rfl⟩, .inr ⟨_, rfl⟩, .inr ⟨_, rfl⟩, .inr ⟨_, rfl⟩, .inr ⟨_, rfl⟩, fun _ => ⟨b, rfl, t3⟩, rfl⟩) ⟨(by show (-1 : Int) ≤ -1; decide), .un, .un, .un, .un, .un, .un, .un, .un, .un, .un, .inl rfl, .inl rfl, .inl rfl, .inl rfl, .inl rfl, .inl rfl, .inl rfl, .inl rfl, .inl rfl, .inl rfl, (fun q => absurd q (Nat.lt_irrefl _)), rfl⟩
  obtain ⟨hd, x2, x3, x4, x5, x6, x7, x8, x9, x10, x11, h2, h3, h4, h5, h6, h7, h8, h9, h10, h11, hb, rfl⟩ := l2
  obtain ⟨b, rfl, B⟩ := hb (by show 0 < 0 + 4; decide)
  obtain ⟨ds2, fin⟩ := tail_ok (ns := ns) (x2 := x2) (x4 := x4) (x5 := x5) (x6 := x6) (x7 := x7) (x8 := x8) (x9 := x9) (x10 := x10) (x11 := x11) hd B
  refine gRunRt ?_
  show m_law [.scr ns, .un, .un, .un, .un, .un, .un, .un, .un, .un, .un, .un, .un, .un, .un, .un, .un, .un, .un, .un] none = _
  unfold m_law mDraw
  rw [show mCallF (chk 1 f__law_draw) (axV 0 axNil) [.scr ns, .un, .un, .un, .un, .un, .un, .un, .un, .un, .un, .un, .un, .un, .un, .un, .un, .un, .un, .un] none = some (.ok [.list (cs.map .int), .int (-1), .int 0, .int seed], none) by
    rw [mCallF_ev]
    show Rz.bind (f__law_draw [.scr ns] none) _ = _
    rw [d1]
    rfl]
  dsimp only
  rw [show mkDraw [.list (cs.map .int), .int (-1), .int 0, .int seed] = some ⟨cs, -1, 0, seed⟩ by
    unfold mkDraw
    dsimp only
    rw [intsOf_map]
    rfl]
  dsimp only
  rw [show put 1 .drw [.scr ns, .un, .un, .un, .un, .un, .un, .un, .un, .un, .un, .un, .un, .un, .un, .un, .un, .un, .un, .un] = some [.scr ns, .drw, .un, .un, .un, .un, .un, .un, .un, .un, .un, .un, .un, .un, .un, .un, .un, .un, .un, .un] from rfl]
  dsimp only
  rw [gSeq (gFor (ds1 := some ⟨cs, -1, 0, seed⟩) (xs := rangeD 0 4) rfl l1) fin]
end Lw

/-! Wk69: the walk. -/
namespace Lw
open PySem PySem.Spec L2 DL
open PyProof.Rows hiding St

def topS (i : Nat) : Stmt := PySem.Challenge.pw_boxkinds_k69_whole_rows_behind_copies.main.body.getD i (.Pass ⟨0, 0, 0, 0⟩)
abbrev s__law_draw : Stmt := topS 26
theorem sc__law_draw : FnScope ["script", "seed", "cell"] ["script"] (defScope s__law_draw) := ⟨rfl, rfl, rfl, by decide +kernel, rfl, by decide +kernel, by decide +kernel⟩
abbrev s__law_walk : Stmt := topS 31
theorem sc__law_walk : FnScope ["box", "state", "row", "answer", "sign", "output"] ["box", "state", "row"] (defScope s__law_walk) := ⟨rfl, rfl, rfl, by decide +kernel, rfl, by decide +kernel, by decide +kernel⟩
abbrev s__law_turn : Stmt := topS 35
theorem sc__law_turn : FnScope ["box", "row", "met", "after"] ["box", "row"] (defScope s__law_turn) := ⟨rfl, rfl, rfl, by decide +kernel, rfl, by decide +kernel, by decide +kernel⟩
abbrev s__law_take : Stmt := topS 27
theorem sc__law_take : FnScope ["draw", "many", "found"] ["draw", "many"] (defScope s__law_take) := ⟨rfl, rfl, rfl, by decide +kernel, rfl, by decide +kernel, by decide +kernel⟩
abbrev s__law_odd_box : Stmt := topS 33
theorem sc__law_odd_box : FnScope ["draw", "odd"] ["draw"] (defScope s__law_odd_box) := ⟨rfl, rfl, rfl, by decide +kernel, rfl, by decide +kernel, by decide +kernel⟩
abbrev s__law_order : Stmt := topS 29
theorem sc__law_order : FnScope ["draw", "many", "left", "found"] ["draw", "many"] (defScope s__law_order) := ⟨rfl, rfl, rfl, by decide +kernel, rfl, by decide +kernel, by decide +kernel⟩
abbrev s__law_box : Stmt := topS 28
theorem sc__law_box : FnScope ["draw", "most", "many", "kind", "found", "state", "moves", "one", "two", "sign", "to", "output", "k"] ["draw", "most"] (defScope s__law_box) := ⟨rfl, rfl, rfl, by decide +kernel, rfl, by decide +kernel, by decide +kernel⟩
abbrev s__law_row : Stmt := topS 30
theorem sc__law_row : FnScope ["draw", "most", "k"] ["draw", "most"] (defScope s__law_row) := ⟨rfl, rfl, rfl, by decide +kernel, rfl, by decide +kernel, by decide +kernel⟩
abbrev s_is_whole : Stmt := topS 4
theorem sc_is_whole : FnScope ["value"] ["value"] (defScope s_is_whole) := ⟨rfl, rfl, rfl, by decide +kernel, rfl, by decide +kernel, by decide +kernel⟩
abbrev s_is_move : Stmt := topS 8
theorem sc_is_move : FnScope ["value", "many", "item"] ["value", "many"] (defScope s_is_move) := ⟨rfl, rfl, rfl, by decide +kernel, rfl, by decide +kernel, by decide +kernel⟩
abbrev s_is_box : Stmt := topS 9
theorem sc_is_box : FnScope ["value", "moves", "move"] ["value"] (defScope s_is_box) := ⟨rfl, rfl, rfl, by decide +kernel, rfl, by decide +kernel, by decide +kernel⟩
abbrev s_check_box : Stmt := topS 10
theorem sc_check_box : FnScope ["value"] ["value"] (defScope s_check_box) := ⟨rfl, rfl, rfl, by decide +kernel, rfl, by decide +kernel, by decide +kernel⟩
abbrev s_check_length : Stmt := topS 22
theorem sc_check_length : FnScope ["box", "length"] ["box", "length"] (defScope s_check_length) := ⟨rfl, rfl, rfl, by decide +kernel, rfl, by decide +kernel, by decide +kernel⟩
abbrev s_all_rows : Stmt := topS 21
theorem sc_all_rows : FnScope ["length", "found", "_", "row", "sign"] ["length"] (defScope s_all_rows) := ⟨rfl, rfl, rfl, by decide +kernel, rfl, by decide +kernel, by decide +kernel⟩
abbrev s_walk : Stmt := topS 11
theorem sc_walk : FnScope ["box", "state", "row", "outputs", "sign", "output"] ["box", "state", "row"] (defScope s_walk) := ⟨rfl, rfl, rfl, by decide +kernel, rfl, by decide +kernel, by decide +kernel⟩
abbrev s_found_turn : Stmt := topS 19
theorem sc_found_turn : FnScope ["box", "row", "met", "order", "after"] ["box", "row"] (defScope s_found_turn) := ⟨rfl, rfl, rfl, by decide +kernel, rfl, by decide +kernel, by decide +kernel⟩
abbrev s_back_count : Stmt := topS 24
theorem sc_back_count : FnScope ["box", "length", "row"] ["box", "length"] (defScope s_back_count) := ⟨rfl, rfl, rfl, by decide +kernel, rfl, by decide +kernel, by decide +kernel⟩
abbrev s_is_short : Stmt := topS 16
theorem sc_is_short : FnScope ["value", "most", "sign"] ["value", "most"] (defScope s_is_short) := ⟨rfl, rfl, rfl, by decide +kernel, rfl, by decide +kernel, by decide +kernel⟩
abbrev s_check_row : Stmt := topS 17
theorem sc_check_row : FnScope ["box", "row"] ["box", "row"] (defScope s_check_row) := ⟨rfl, rfl, rfl, by decide +kernel, rfl, by decide +kernel, by decide +kernel⟩
abbrev s_behind_copies : Stmt := topS 18
theorem sc_behind_copies : FnScope ["box", "n", "row", "_"] ["box", "n", "row"] (defScope s_behind_copies) := ⟨rfl, rfl, rfl, by decide +kernel, rfl, by decide +kernel, by decide +kernel⟩
abbrev s_row_turn : Stmt := topS 20
theorem sc_row_turn : FnScope ["box", "row"] ["box", "row"] (defScope s_row_turn) := ⟨rfl, rfl, rfl, by decide +kernel, rfl, by decide +kernel, by decide +kernel⟩
abbrev s_whole_turn : Stmt := topS 23
theorem sc_whole_turn : FnScope ["box", "length", "turns", "row", "i", "_", "d"] ["box", "length"] (defScope s_whole_turn) := ⟨rfl, rfl, rfl, by decide +kernel, rfl, by decide +kernel, by decide +kernel⟩
abbrev s__law_told : Stmt := topS 37
theorem sc__law_told : FnScope ["which", "box", "n", "row"] ["which", "box", "n", "row"] (defScope s__law_told) := ⟨rfl, rfl, rfl, by decide +kernel, rfl, by decide +kernel, by decide +kernel⟩
abbrev s__law_behind : Stmt := topS 36
theorem sc__law_behind : FnScope ["box", "n", "row", "copy"] ["box", "n", "row"] (defScope s__law_behind) := ⟨rfl, rfl, rfl, by decide +kernel, rfl, by decide +kernel, by decide +kernel⟩
abbrev s__law_rows : Stmt := topS 32
theorem sc__law_rows : FnScope ["length", "found", "turn", "row"] ["length"] (defScope s__law_rows) := ⟨rfl, rfl, rfl, by decide +kernel, rfl, by decide +kernel, by decide +kernel⟩
abbrev s__law_odd_row : Stmt := topS 34
theorem sc__law_odd_row : FnScope ["draw"] ["draw"] (defScope s__law_odd_row) := ⟨rfl, rfl, rfl, by decide +kernel, rfl, by decide +kernel, by decide +kernel⟩
abbrev s_law : Stmt := topS 38
theorem sc_law : FnScope ["script", "draw", "lap", "box", "row", "n", "i", "d", "more", "wide", "length", "turns", "odd", "bad", "wrong", "far", "told", "one", "two", "which"] ["script"] (defScope s_law) := ⟨rfl, rfl, rfl, by decide +kernel, rfl, by decide +kernel, by decide +kernel⟩
structure Ad where
  f__law_draw : Addr
  fd__law_draw : FuncData
  f__law_walk : Addr
  fd__law_walk : FuncData
  f__law_turn : Addr
  fd__law_turn : FuncData
  f__law_take : Addr
  fd__law_take : FuncData
  f__law_odd_box : Addr
  fd__law_odd_box : FuncData
  f__law_order : Addr
  fd__law_order : FuncData
  f__law_box : Addr
  fd__law_box : FuncData
  f__law_row : Addr
  fd__law_row : FuncData
  f_is_whole : Addr
  fd_is_whole : FuncData
  f_is_move : Addr
  fd_is_move : FuncData
  f_is_box : Addr
  fd_is_box : FuncData
  f_check_box : Addr
  fd_check_box : FuncData
  f_check_length : Addr
  fd_check_length : FuncData
  f_all_rows : Addr
  fd_all_rows : FuncData
  f_walk : Addr
  fd_walk : FuncData
  f_found_turn : Addr
  fd_found_turn : FuncData
  f_back_count : Addr
  fd_back_count : FuncData
  f_is_short : Addr
  fd_is_short : FuncData
  f_check_row : Addr
  fd_check_row : FuncData
  f_behind_copies : Addr
  fd_behind_copies : FuncData
  f_row_turn : Addr
  fd_row_turn : FuncData
  f_whole_turn : Addr
  fd_whole_turn : FuncData
  f__law_told : Addr
  fd__law_told : FuncData
  f__law_behind : Addr
  fd__law_behind : FuncData
  f__law_rows : Addr
  fd__law_rows : FuncData
  f__law_odd_row : Addr
  fd__law_odd_row : FuncData
  f_law : Addr
  fd_law : FuncData
  c : Exs
structure Tx (K : PySem.W.Frag) (mg : Str → Option Value) (a : Ad) : Prop where
  d__law_draw : Dn K mg "_law_draw" s__law_draw ["script"] a.f__law_draw a.fd__law_draw
  d__law_walk : Dn K mg "_law_walk" s__law_walk ["box", "state", "row"] a.f__law_walk a.fd__law_walk
  d__law_turn : Dn K mg "_law_turn" s__law_turn ["box", "row"] a.f__law_turn a.fd__law_turn
  d__law_take : Dn K mg "_law_take" s__law_take ["draw", "many"] a.f__law_take a.fd__law_take
  d__law_odd_box : Dn K mg "_law_odd_box" s__law_odd_box ["draw"] a.f__law_odd_box a.fd__law_odd_box
  d__law_order : Dn K mg "_law_order" s__law_order ["draw", "many"] a.f__law_order a.fd__law_order
  d__law_box : Dn K mg "_law_box" s__law_box ["draw", "most"] a.f__law_box a.fd__law_box
  d__law_row : Dn K mg "_law_row" s__law_row ["draw", "most"] a.f__law_row a.fd__law_row
  d_is_whole : Dn K mg "is_whole" s_is_whole ["value"] a.f_is_whole a.fd_is_whole
  d_is_move : Dn K mg "is_move" s_is_move ["value", "many"] a.f_is_move a.fd_is_move
  d_is_box : Dn K mg "is_box" s_is_box ["value"] a.f_is_box a.fd_is_box
  d_check_box : Dn K mg "check_box" s_check_box ["value"] a.f_check_box a.fd_check_box
  d_check_length : Dn K mg "check_length" s_check_length ["box", "length"] a.f_check_length a.fd_check_length
  d_all_rows : Dn K mg "all_rows" s_all_rows ["length"] a.f_all_rows a.fd_all_rows
  d_walk : Dn K mg "walk" s_walk ["box", "state", "row"] a.f_walk a.fd_walk
  d_found_turn : Dn K mg "found_turn" s_found_turn ["box", "row"] a.f_found_turn a.fd_found_turn
  d_back_count : Dn K mg "back_count" s_back_count ["box", "length"] a.f_back_count a.fd_back_count
  d_is_short : Dn K mg "is_short" s_is_short ["value", "most"] a.f_is_short a.fd_is_short
  d_check_row : Dn K mg "check_row" s_check_row ["box", "row"] a.f_check_row a.fd_check_row
  d_behind_copies : Dn K mg "behind_copies" s_behind_copies ["box", "n", "row"] a.f_behind_copies a.fd_behind_copies
  d_row_turn : Dn K mg "row_turn" s_row_turn ["box", "row"] a.f_row_turn a.fd_row_turn
  d_whole_turn : Dn K mg "whole_turn" s_whole_turn ["box", "length"] a.f_whole_turn a.fd_whole_turn
  d__law_told : Dn K mg "_law_told" s__law_told ["which", "box", "n", "row"] a.f__law_told a.fd__law_told
  d__law_behind : Dn K mg "_law_behind" s__law_behind ["box", "n", "row"] a.f__law_behind a.fd__law_behind
  d__law_rows : Dn K mg "_law_rows" s__law_rows ["length"] a.f__law_rows a.fd__law_rows
  d__law_odd_row : Dn K mg "_law_odd_row" s__law_odd_row ["draw"] a.f__law_odd_row a.fd__law_odd_row
  d_law : Dn K mg "law" s_law ["script"] a.f_law a.fd_law
  n_abs : mg "abs" = none
  n_all : mg "all" = none
  n_bool : mg "bool" = none
  n_int : mg "int" = none
  n_isinstance : mg "isinstance" = none
  n_len : mg "len" = none
  n_list : mg "list" = none
  n_max : mg "max" = none
  n_range : mg "range" = none
  n_repr : mg "repr" = none
  n_sorted : mg "sorted" = none
  n_tuple : mg "tuple" = none
  g_MOST_STATES : ∃ u v, mg "MOST_STATES" = some u ∧ RelV v u ∧ ∀ (H : Hp) (g : Addr → Prop), Df K H g v k_MOST_STATES
  g_MOST_LENGTH : ∃ u v, mg "MOST_LENGTH" = some u ∧ RelV v u ∧ ∀ (H : Hp) (g : Addr → Prop), Df K H g v k_MOST_LENGTH
  g_INPUTS : ∃ u c, mg "INPUTS" = some u ∧ RelV (.ref c) u ∧ ∀ H : Hp, SqT K H c (([0, 1] : List Int).map V.int)
  g_MOST_INPUTS : ∃ u v, mg "MOST_INPUTS" = some u ∧ RelV v u ∧ ∀ (H : Hp) (g : Addr → Prop), Df K H g v k_MOST_INPUTS
  g_MOST_COPIES : ∃ u v, mg "MOST_COPIES" = some u ∧ RelV v u ∧ ∀ (H : Hp) (g : Addr → Prop), Df K H g v k_MOST_COPIES
  x_m : Xn K mg "Malformed" a.c
section
variable {P : Program} {w : World} {K : PySem.W.Frag} {mg : Str → Option Value} {base : Heap} {a : Ad}
set_option maxHeartbeats 4000000 in
theorem ok__law_draw (T : Tx K mg a) : FnOk P w K mg base (L2.CX P w) 1 a.f__law_draw a.fd__law_draw ["script"] (spD K a.c true 1 f__law_draw) := by
  refine DL.okD2 (m := m__law_draw) (n := 3) (p := 1) rfl rfl rfl T.d__law_draw.fn sc__law_draw (fun cdv A outer s H E hr => ?_)
  have tk : Takes (cxOf (L2.CX P w) P w K mg base ["script", "seed", "cell"] "_law_draw" (defScope s__law_draw) a.f__law_draw cdv A outer s H E) (fun cls d _ H' => E cls d H') := takes_of (E := E) rfl rfl rfl rfl
  have hu : (A.deeper (envOfC "_law_draw" (defScope s__law_draw) s.heap.objs.size a.f__law_draw cdv)).units + 65 < cLine := by have := hr.un; omega
  have hu4 := hr.units
  exact (sss_cons (ss_set 1 sc__law_draw.nd se_int (hx := by first | exact .inl rfl | exact .inr rfl))
  (sss_cons (ss_for (passes_of rfl) rfl (si_scr 0) (sg_name 2 sc__law_draw.nd (hx := by first | exact .inl rfl | exact .inr rfl)) (sss_one (ss_set 1 sc__law_draw.nd (se_op op_mod bin_mod persD persD (se_callTy call_int1 un_int persD T.n_int rfl (se_op op_addA bin_add persD persD (se_op op_addA bin_add persD persD (se_op op_mulA bin_mul persD persD (se_var 1) se_int) (se_op op_mod bin_mod persD persD (se_callB call_abs un_abs persD T.n_abs rfl (se_callTy call_int1 un_int persD T.n_int rfl (se_var 2))) se_int)) se_int)) se_int) (hx := by first | exact .inl rfl | exact .inr rfl))))
  (sss_one (ss_retF (sf_lst (sa_cons (SF.se (sf_comp (own := [("cell", 2)]) (is := [2]) rfl sc__law_draw.nd (si_scr 0) (blkOk_by (by kernel_rfl)) (by decide) (fun _ _ _ _ _ => (sg_name 2 sc__law_draw.nd (hx := by first | exact .inl rfl | exact .inr rfl))) (fun _ _ _ _ _ => sts_nil) (fun _ _ _ _ _ => (se_callB call_abs un_abs persD T.n_abs rfl (se_callTy call_int1 un_int persD T.n_int rfl (se_var 2)))))) (sa_cons (se_neg se_int) (sa_cons se_int (sa_cons (se_var 1) sa_nil)))))))))
set_option maxHeartbeats 4000000 in
theorem ok__law_walk (T : Tx K mg a) : FnOk P w K mg base (L2.CX P w) 1 a.f__law_walk a.fd__law_walk ["box", "state", "row"] (spD K a.c false 3 f__law_walk) := by
  refine DL.okD2 (m := m__law_walk) (n := 6) (p := 3) rfl rfl rfl T.d__law_walk.fn sc__law_walk (fun cdv A outer s H E hr => ?_)
  have tk : Takes (cxOf (L2.CX P w) P w K mg base ["box", "state", "row", "answer", "sign", "output"] "_law_walk" (defScope s__law_walk) a.f__law_walk cdv A outer s H E) (fun cls d _ H' => E cls d H') := takes_of (E := E) rfl rfl rfl rfl
  have hu : (A.deeper (envOfC "_law_walk" (defScope s__law_walk) s.heap.objs.size a.f__law_walk cdv)).units + 65 < cLine := by have := hr.un; omega
  have hu4 := hr.units
  exact (sss_cons (ss_set 3 sc__law_walk.nd (se_tup sa_nil) (hx := by first | exact .inl rfl | exact .inr rfl))
  (sss_cons (ss_for (passes_of rfl) rfl (si_seq (se_var 2)) (sg_name 4 sc__law_walk.nd (hx := by first | exact .inl rfl | exact .inr rfl)) (sss_cons (ss_asg (se_ix persD persD (se_ix persD persD (se_var 0) (se_var 1)) (se_var 4)) (sg_tup rfl (sgs_cons (sg_name 1 sc__law_walk.nd (hx := by first | exact .inl rfl | exact .inr rfl)) (sgs_cons (sg_name 5 sc__law_walk.nd (hx := by first | exact .inl rfl | exact .inr rfl)) sgs_nil))))
  (sss_one (ss_set 3 sc__law_walk.nd (se_op op_addA bin_add persD persD (se_var 3) (se_tup (sa_cons (se_var 5) sa_nil))) (hx := by first | exact .inl rfl | exact .inr rfl)))))
  (sss_one (ss_ret (se_tup (sa_cons (se_var 3) (sa_cons (se_var 1) sa_nil)))))))
set_option maxHeartbeats 4000000 in
theorem ok__law_turn (T : Tx K mg a) : FnOk P w K mg base (L2.CX P w) 2 a.f__law_turn a.fd__law_turn ["box", "row"] (spD K a.c false 2 f__law_turn) := by
  refine DL.okD2 (m := m__law_turn) (n := 4) (p := 2) rfl rfl rfl T.d__law_turn.fn sc__law_turn (fun cdv A outer s H E hr => ?_)
  have tk : Takes (cxOf (L2.CX P w) P w K mg base ["box", "row", "met", "after"] "_law_turn" (defScope s__law_turn) a.f__law_turn cdv A outer s H E) (fun cls d _ H' => E cls d H') := takes_of (E := E) rfl rfl rfl rfl
  have hu : (A.deeper (envOfC "_law_turn" (defScope s__law_turn) s.heap.objs.size a.f__law_turn cdv)).units + 65 < cLine := by have := hr.un; omega
  have hu4 := hr.units
  exact (sss_cons (ss_setL 2 sc__law_turn.nd (sf_lst (sa_cons (se_var 1) sa_nil)) (hx := by first | exact .inl rfl | exact .inr rfl))
  (sss_cons (ss_set 3 sc__law_turn.nd (se_ix persD persD (se_call (ok__law_walk T) (hr.mono (by decide)) T.d__law_walk.mg T.d__law_walk.kp T.d__law_walk.bd tk (sax_d (se_var 0) (sax_d se_int (sax_d (se_var 1) sax_nil)))) se_int) (hx := by first | exact .inl rfl | exact .inr rfl))
  (sss_cons (ss_while 1000 (passes_of rfl) (st_cmp (op_notInA hu) bin_notIn persD persP (se_var 3) (sp_var 2) (by rfl)) (sss_cons (ss_app 2 (se_var 3))
  (sss_one (ss_set 3 sc__law_turn.nd (se_ix persD persD (se_call (ok__law_walk T) (hr.mono (by decide)) T.d__law_walk.mg T.d__law_walk.kp T.d__law_walk.bd tk (sax_d (se_var 0) (sax_d se_int (sax_d (se_var 3) sax_nil)))) se_int) (hx := by first | exact .inl rfl | exact .inr rfl)))))
  (sss_one (ss_ret (se_tup (sa_cons (se_index hu persP (sp_var 2) (se_var 3)) (sa_cons (se_op op_sub bin_sub persD persD (se_callB call_lenA un_len persP T.n_len rfl (sp_var 2)) (se_index hu persP (sp_var 2) (se_var 3))) sa_nil))))))))
set_option maxHeartbeats 4000000 in
theorem ok__law_take (T : Tx K mg a) : FnOk P w K mg base (L2.CX P w) 1 a.f__law_take a.fd__law_take ["draw", "many"] (spD K a.c false 2 f__law_take) := by
  refine DL.okD2 (m := m__law_take) (n := 3) (p := 2) rfl rfl rfl T.d__law_take.fn sc__law_take (fun cdv A outer s H E hr => ?_)
  have tk : Takes (cxOf (L2.CX P w) P w K mg base ["draw", "many", "found"] "_law_take" (defScope s__law_take) a.f__law_take cdv A outer s H E) (fun cls d _ H' => E cls d H') := takes_of (E := E) rfl rfl rfl rfl
  have hu : (A.deeper (envOfC "_law_take" (defScope s__law_take) s.heap.objs.size a.f__law_take cdv)).units + 65 < cLine := by have := hr.un; omega
  have hu4 := hr.units
  exact (sss_cons (ss_if (st_cmp (op_eqD hu4) bin_eq persD persD (se_drw 0 2) se_int (by rfl)) (sss_cons (ss_drwSet 0 1 (se_op op_addA bin_add persD persD (se_drw 0 1) se_int))
  (sss_cons (ss_if (st_cmp op_ltA bin_lt persD persD (se_drw 0 1) (se_callB call_lenA un_len persD T.n_len rfl (se_drw 0 0)) (by rfl)) (sss_one (ss_drwSet 0 2 (se_ix persD persD (se_drw 0 0) (se_drw 0 1)))) sss_nil)
  (sss_one (ss_if (st_cmp (op_eqD hu4) bin_eq persD persD (se_drw 0 2) se_int (by rfl)) (sss_cons (ss_drwSet 0 3 (se_op op_mod bin_mod persD persD (se_callTy call_int1 un_int persD T.n_int rfl (se_op op_addA bin_add persD persD (se_op op_mulA bin_mul persD persD (se_drw 0 3) se_int) se_int)) se_int))
  (sss_one (ss_drwSet 0 2 (se_drw 0 3)))) sss_nil)))) sss_nil)
  (sss_cons (ss_set 2 sc__law_take.nd (se_op op_mod bin_mod persD persD (se_callTy call_int1 un_int persD T.n_int rfl (se_drw 0 2)) (se_var 1)) (hx := by first | exact .inl rfl | exact .inr rfl))
  (sss_cons (ss_drwSet 0 2 (se_op op_fdiv bin_fdiv persD persD (se_drw 0 2) (se_var 1)))
  (sss_one (ss_ret (se_var 2))))))
set_option maxHeartbeats 4000000 in
theorem ok__law_odd_box (T : Tx K mg a) : FnOk P w K mg base (L2.CX P w) 2 a.f__law_odd_box a.fd__law_odd_box ["draw"] (spD K a.c false 1 f__law_odd_box) := by
  refine DL.okD2 (m := m__law_odd_box) (n := 2) (p := 1) rfl rfl rfl T.d__law_odd_box.fn sc__law_odd_box (fun cdv A outer s H E hr => ?_)
  have tk : Takes (cxOf (L2.CX P w) P w K mg base ["draw", "odd"] "_law_odd_box" (defScope s__law_odd_box) a.f__law_odd_box cdv A outer s H E) (fun cls d _ H' => E cls d H') := takes_of (E := E) rfl rfl rfl rfl
  have hu : (A.deeper (envOfC "_law_odd_box" (defScope s__law_odd_box) s.heap.objs.size a.f__law_odd_box cdv)).units + 65 < cLine := by have := hr.un; omega
  have hu4 := hr.units
  exact (sss_cons (ss_set 1 sc__law_odd_box.nd (SF.se (sf_lst (sa_cons se_non (sa_cons (se_tup sa_nil) (sa_cons se_int (sa_cons (SF.se (sf_lst (sa_cons (se_tup (sa_cons (se_tup (sa_cons se_int (sa_cons se_int sa_nil))) (sa_cons (se_tup (sa_cons se_int (sa_cons se_int sa_nil))) sa_nil))) sa_nil))) (sa_cons (se_tup (sa_cons (se_tup (sa_cons (se_tup (sa_cons se_int (sa_cons se_int sa_nil))) sa_nil)) sa_nil)) (sa_cons (se_tup (sa_cons (se_tup (sa_cons (se_tup (sa_cons se_int (sa_cons se_int sa_nil))) (sa_cons (se_tup (sa_cons se_int (sa_cons se_int sa_nil))) sa_nil))) sa_nil)) (sa_cons (se_tup (sa_cons (se_tup (sa_cons (se_tup (sa_cons se_int (sa_cons se_int sa_nil))) (sa_cons (se_tup (sa_cons se_int (sa_cons se_int sa_nil))) sa_nil))) sa_nil)) (sa_cons (se_tup (sa_cons (se_tup (sa_cons (se_tup (sa_cons se_int (sa_cons se_bl sa_nil))) (sa_cons (se_tup (sa_cons se_int (sa_cons se_int sa_nil))) sa_nil))) sa_nil)) (sa_cons (se_tup (sa_cons (se_tup (sa_cons (se_tup (sa_cons se_int (sa_cons se_int sa_nil))) (sa_cons (se_tup (sa_cons se_int (sa_cons se_int sa_nil))) (sa_cons (se_tup (sa_cons se_int (sa_cons se_int sa_nil))) sa_nil)))) sa_nil)) (sa_cons (se_tup (sa_cons (se_tup (sa_cons (se_tup (sa_cons (se_neg se_int) (sa_cons se_int sa_nil))) (sa_cons (se_tup (sa_cons se_int (sa_cons se_int sa_nil))) sa_nil))) sa_nil)) sa_nil)))))))))))) (hx := by first | exact .inl rfl | exact .inr rfl))
  (sss_one (ss_ret (se_ix persD persD (se_op op_addA bin_add persD persD (se_var 1) (SF.se (sf_lst (sa_cons (se_tup (sa_cons (SF.se (sf_lst (sa_cons (se_tup (sa_cons se_int (sa_cons se_int sa_nil))) (sa_cons (se_tup (sa_cons se_int (sa_cons se_int sa_nil))) sa_nil)))) sa_nil)) (sa_cons (se_tup (sa_cons (se_tup (sa_cons (se_tup (sa_cons se_int (sa_cons se_int sa_nil))) (sa_cons (SF.se (sf_lst (sa_cons se_int (sa_cons se_int sa_nil)))) sa_nil))) sa_nil)) (sa_cons (se_op op_mulA bin_mul persD persD (se_tup (sa_cons (se_tup (sa_cons (se_tup (sa_cons se_int (sa_cons se_int sa_nil))) (sa_cons (se_tup (sa_cons se_int (sa_cons se_int sa_nil))) sa_nil))) sa_nil)) se_int) (sa_cons (se_tup (sa_cons (se_tup (sa_cons (se_tup (sa_cons se_int sa_nil)) (sa_cons (se_tup (sa_cons se_int (sa_cons se_int sa_nil))) sa_nil))) sa_nil)) (sa_cons (se_tup (sa_cons se_non sa_nil)) sa_nil)))))))) (se_call (ok__law_take T) (hr.mono (by decide)) T.d__law_take.mg T.d__law_take.kp T.d__law_take.bd tk (sax_v 0 (sax_d se_int sax_nil)))))))
set_option maxHeartbeats 4000000 in
theorem ok__law_order (T : Tx K mg a) : FnOk P w K mg base (L2.CX P w) 2 a.f__law_order a.fd__law_order ["draw", "many"] (spD K a.c false 2 f__law_order) := by
  refine DL.okD2 (m := m__law_order) (n := 4) (p := 2) rfl rfl rfl T.d__law_order.fn sc__law_order (fun cdv A outer s H E hr => ?_)
  have tk : Takes (cxOf (L2.CX P w) P w K mg base ["draw", "many", "left", "found"] "_law_order" (defScope s__law_order) a.f__law_order cdv A outer s H E) (fun cls d _ H' => E cls d H') := takes_of (E := E) rfl rfl rfl rfl
  have hu : (A.deeper (envOfC "_law_order" (defScope s__law_order) s.heap.objs.size a.f__law_order cdv)).units + 65 < cLine := by have := hr.un; omega
  have hu4 := hr.units
  exact (sss_cons (ss_parLL 2 3 sc__law_order.nd (sf_listRg1 rfl T.n_list T.n_range (se_var 1)) (sf_lst sa_nil))
  (sss_cons (ss_while 1000 (passes_of rfl) (st_cmp (op_neD hu4) bin_ne persP persD (sp_var 2) (SF.se (sf_lst sa_nil)) (by rfl)) (sss_one (ss_appPop 3 2 (se_call (ok__law_take T) (hr.mono (by decide)) T.d__law_take.mg T.d__law_take.kp T.d__law_take.bd tk (sax_v 0 (sax_d (se_callB call_lenA un_len persP T.n_len rfl (sp_var 2)) sax_nil))))))
  (sss_one (ss_retL 3 (fr := false)))))
set_option maxHeartbeats 4000000 in
theorem ok__law_box (T : Tx K mg a) : FnOk P w K mg base (L2.CX P w) 3 a.f__law_box a.fd__law_box ["draw", "most"] (spD K a.c false 2 f__law_box) := by
  refine DL.okD2 (m := m__law_box) (n := 13) (p := 2) rfl rfl rfl T.d__law_box.fn sc__law_box (fun cdv A outer s H E hr => ?_)
  have tk : Takes (cxOf (L2.CX P w) P w K mg base ["draw", "most", "many", "kind", "found", "state", "moves", "one", "two", "sign", "to", "output", "k"] "_law_box" (defScope s__law_box) a.f__law_box cdv A outer s H E) (fun cls d _ H' => E cls d H') := takes_of (E := E) rfl rfl rfl rfl
  have hu : (A.deeper (envOfC "_law_box" (defScope s__law_box) s.heap.objs.size a.f__law_box cdv)).units + 65 < cLine := by have := hr.un; omega
  have hu4 := hr.units
  exact (sss_cons (ss_set 2 sc__law_box.nd (se_op op_addA bin_add persD persD se_int (se_call (ok__law_take T) (hr.mono (by decide)) T.d__law_take.mg T.d__law_take.kp T.d__law_take.bd tk (sax_v 0 (sax_d (se_var 1) sax_nil)))) (hx := by first | exact .inl rfl | exact .inr rfl))
  (sss_cons (ss_set 3 sc__law_box.nd (se_call (ok__law_take T) (hr.mono (by decide)) T.d__law_take.mg T.d__law_take.kp T.d__law_take.bd tk (sax_v 0 (sax_d se_int sax_nil))) (hx := by first | exact .inl rfl | exact .inr rfl))
  (sss_cons (ss_setL 4 sc__law_box.nd (sf_lst sa_nil) (hx := by first | exact .inl rfl | exact .inr rfl))
  (sss_cons (ss_for (passes_of rfl) rfl (si_rng1 T.n_range (se_var 2)) (sg_name 5 sc__law_box.nd (hx := by first | exact .inl rfl | exact .inr rfl)) (sss_cons (ss_set 6 sc__law_box.nd (SF.se (sf_comp (own := [("sign", 9)]) (is := [9]) rfl sc__law_box.nd (si_rng1 T.n_range se_int) (blkOk_by (by kernel_rfl)) (by decide) (fun _ _ _ _ _ => (sg_name 9 sc__law_box.nd (hx := by first | exact .inl rfl | exact .inr rfl))) (fun _ _ _ _ _ => sts_nil) (fun _ _ _ _ _ => (se_tup (sa_cons (se_call (ok__law_take T) (hr.mono (by decide)) T.d__law_take.mg T.d__law_take.kp T.d__law_take.bd takes0 (sax_v 0 (sax_d (se_var 2) sax_nil))) (sa_cons (se_call (ok__law_take T) (hr.mono (by decide)) T.d__law_take.mg T.d__law_take.kp T.d__law_take.bd takes0 (sax_v 0 (sax_d se_int sax_nil))) sa_nil)))))) (hx := by first | exact .inl rfl | exact .inr rfl))
  (sss_cons (ss_if (st_cmp (op_eqD hu4) bin_eq persD persD (se_var 3) se_int (by rfl)) (sss_one (ss_set 6 sc__law_box.nd (SF.se (sf_comp (own := [("to", 10), ("output", 11)]) (is := [10, 11]) rfl sc__law_box.nd (si_seq (se_var 6)) (blkOk_by (by kernel_rfl)) (by decide) (fun _ _ _ _ _ => (sg_tup rfl (sgs_cons (sg_name 10 sc__law_box.nd (hx := by first | exact .inl rfl | exact .inr rfl)) (sgs_cons (sg_name 11 sc__law_box.nd (hx := by first | exact .inl rfl | exact .inr rfl)) sgs_nil)))) (fun _ _ _ _ _ => sts_nil) (fun _ _ _ _ _ => (se_tup (sa_cons (se_var 10) (sa_cons (se_ix persD persD (se_ix persD persD (se_var 6) se_int) se_int) sa_nil)))))) (hx := by first | exact .inl rfl | exact .inr rfl))) sss_nil)
  (sss_one (ss_app 4 (se_callTy call_tuple_of un_tuple persD T.n_tuple rfl (se_var 6)))))))
  (sss_cons (ss_if (st_cmp (op_eqD hu4) bin_eq persD persD (se_var 3) se_int (by rfl)) (sss_cons (ss_asg (se_tup (sa_cons (se_call (ok__law_order T) (hr.mono (by decide)) T.d__law_order.mg T.d__law_order.kp T.d__law_order.bd tk (sax_v 0 (sax_d (se_var 2) sax_nil))) (sa_cons (se_call (ok__law_order T) (hr.mono (by decide)) T.d__law_order.mg T.d__law_order.kp T.d__law_order.bd tk (sax_v 0 (sax_d (se_var 2) sax_nil))) sa_nil))) (sg_tup rfl (sgs_cons (sg_name 7 sc__law_box.nd (hx := by first | exact .inl rfl | exact .inr rfl)) (sgs_cons (sg_name 8 sc__law_box.nd (hx := by first | exact .inl rfl | exact .inr rfl)) sgs_nil))))
  (sss_one (ss_setL 4 sc__law_box.nd (sf_comp (own := [("k", 12)]) (is := [12]) rfl sc__law_box.nd (si_rng1 T.n_range (se_var 2)) (blkOk_by (by kernel_rfl)) (by decide) (fun _ _ _ _ _ => (sg_name 12 sc__law_box.nd (hx := by first | exact .inl rfl | exact .inr rfl))) (fun _ _ _ _ _ => sts_nil) (fun _ _ _ _ _ => (se_tup (sa_cons (se_tup (sa_cons (se_ix persD persD (se_var 7) (se_var 12)) (sa_cons (se_ix persD persD (se_ix persD persD (se_ix persP persD (sp_var 4) (se_var 12)) se_int) se_int) sa_nil))) (sa_cons (se_tup (sa_cons (se_ix persD persD (se_var 8) (se_var 12)) (sa_cons (se_ix persD persD (se_ix persD persD (se_ix persP persD (sp_var 4) (se_var 12)) se_int) se_int) sa_nil))) sa_nil))))) (hx := by first | exact .inl rfl | exact .inr rfl)))) sss_nil)
  (sss_one (ss_ret (se_callTy call_tuple_of un_tuple persP T.n_tuple rfl (sp_var 4)))))))))
set_option maxHeartbeats 4000000 in
theorem ok__law_row (T : Tx K mg a) : FnOk P w K mg base (L2.CX P w) 2 a.f__law_row a.fd__law_row ["draw", "most"] (spD K a.c false 2 f__law_row) := by
  refine DL.okD2 (m := m__law_row) (n := 3) (p := 2) rfl rfl rfl T.d__law_row.fn sc__law_row (fun cdv A outer s H E hr => ?_)
  have tk : Takes (cxOf (L2.CX P w) P w K mg base ["draw", "most", "k"] "_law_row" (defScope s__law_row) a.f__law_row cdv A outer s H E) (fun cls d _ H' => E cls d H') := takes_of (E := E) rfl rfl rfl rfl
  have hu : (A.deeper (envOfC "_law_row" (defScope s__law_row) s.heap.objs.size a.f__law_row cdv)).units + 65 < cLine := by have := hr.un; omega
  have hu4 := hr.units
  exact (sss_one (ss_ret (se_callTy call_tuple_of un_tuple persD T.n_tuple rfl (SF.se (sf_comp (own := [("k", 2)]) (is := [2]) rfl sc__law_row.nd (si_rng1 T.n_range (se_call (ok__law_take T) (hr.mono (by decide)) T.d__law_take.mg T.d__law_take.kp T.d__law_take.bd tk (sax_v 0 (sax_d (se_op op_addA bin_add persD persD (se_var 1) se_int) sax_nil)))) (blkOk_by (by kernel_rfl)) (by decide) (fun _ _ _ _ _ => (sg_name 2 sc__law_row.nd (hx := by first | exact .inl rfl | exact .inr rfl))) (fun _ _ _ _ _ => sts_nil) (fun _ _ _ _ _ => (se_call (ok__law_take T) (hr.mono (by decide)) T.d__law_take.mg T.d__law_take.kp T.d__law_take.bd takes0 (sax_v 0 (sax_d se_int sax_nil)))))))))
set_option maxHeartbeats 4000000 in
theorem ok_is_whole (T : Tx K mg a) : FnOk P w K mg base (L2.CX P w) 1 a.f_is_whole a.fd_is_whole ["value"] (spD K a.c false 1 f_is_whole) := by
  refine DL.okD2 (m := m_is_whole) (n := 1) (p := 1) rfl rfl rfl T.d_is_whole.fn sc_is_whole (fun cdv A outer s H E hr => ?_)
  have tk : Takes (cxOf (L2.CX P w) P w K mg base ["value"] "is_whole" (defScope s_is_whole) a.f_is_whole cdv A outer s H E) (fun cls d _ H' => E cls d H') := takes_of (E := E) rfl rfl rfl rfl
  have hu : (A.deeper (envOfC "is_whole" (defScope s_is_whole) s.heap.objs.size a.f_is_whole cdv)).units + 65 < cLine := by have := hr.un; omega
  have hu4 := hr.units
  exact (sss_one (ss_ret (se_and (se_isi (n := 0) persD (se_var 0) T.n_isinstance T.n_int rfl (by decide)) (se_one (se_not (se_isi (n := 1) persD (se_var 0) T.n_isinstance T.n_bool rfl (by decide)))))))
set_option maxHeartbeats 4000000 in
theorem ok_is_move (T : Tx K mg a) : FnOk P w K mg base (L2.CX P w) 2 a.f_is_move a.fd_is_move ["value", "many"] (spD K a.c false 2 f_is_move) := by
  refine DL.okD2 (m := m_is_move) (n := 3) (p := 2) rfl rfl rfl T.d_is_move.fn sc_is_move (fun cdv A outer s H E hr => ?_)
  have tk : Takes (cxOf (L2.CX P w) P w K mg base ["value", "many", "item"] "is_move" (defScope s_is_move) a.f_is_move cdv A outer s H E) (fun cls d _ H' => E cls d H') := takes_of (E := E) rfl rfl rfl rfl
  have hu : (A.deeper (envOfC "is_move" (defScope s_is_move) s.heap.objs.size a.f_is_move cdv)).units + 65 < cLine := by have := hr.un; omega
  have hu4 := hr.units
  exact (sss_cons (ss_if (PW.pt (sw_or (st_not (st_val (se_isi (n := 2) persD (se_var 0) T.n_isinstance T.n_tuple rfl (by decide)))) (sw_or (st_cmp (op_neD hu4) bin_ne persD persD (se_callB call_lenA un_len persD T.n_len rfl (se_var 0)) se_int (by rfl)) (sw_or1 (st_not (st_val (se_callB (cr_all rfl) un_all persD T.n_all rfl (SF.se (sf_comp (own := [("item", 2)]) (is := [2]) rfl sc_is_move.nd (si_seq (se_var 0)) (blkOk_by (by kernel_rfl)) (by decide) (fun _ _ _ _ _ => (sg_name 2 sc_is_move.nd (hx := by first | exact .inl rfl | exact .inr rfl))) (fun _ _ _ _ _ => sts_nil) (fun _ _ _ _ _ => (se_call (ok_is_whole T) (hr.mono (by decide)) T.d_is_whole.mg T.d_is_whole.kp T.d_is_whole.bd takes0 (sax_d (se_var 2) sax_nil)))))))))))) (sss_one (ss_ret se_bl)) sss_nil)
  (sss_one (ss_ret (se_and (se_chain op_leA op_ltA bin_le bin_lt se_int (se_ix persD persD (se_var 0) se_int) (se_var 1)) (se_one (se_chain op_leA op_leA bin_le bin_le se_int (se_ix persD persD (se_var 0) se_int) se_int))))))
set_option maxHeartbeats 4000000 in
theorem ok_is_box (T : Tx K mg a) : FnOk P w K mg base (L2.CX P w) 3 a.f_is_box a.fd_is_box ["value"] (spD K a.c false 1 f_is_box) := by
  refine DL.okD2 (m := m_is_box) (n := 3) (p := 1) rfl rfl rfl T.d_is_box.fn sc_is_box (fun cdv A outer s H E hr => ?_)
  have tk : Takes (cxOf (L2.CX P w) P w K mg base ["value", "moves", "move"] "is_box" (defScope s_is_box) a.f_is_box cdv A outer s H E) (fun cls d _ H' => E cls d H') := takes_of (E := E) rfl rfl rfl rfl
  have hu : (A.deeper (envOfC "is_box" (defScope s_is_box) s.heap.objs.size a.f_is_box cdv)).units + 65 < cLine := by have := hr.un; omega
  have hu4 := hr.units
  obtain ⟨u_MOST_STATES, v_MOST_STATES, g1_MOST_STATES, g2_MOST_STATES, g3_MOST_STATES⟩ := T.g_MOST_STATES
  exact (sss_cons (ss_if (PW.pt (sw_or (st_not (st_val (se_isi (n := 2) persD (se_var 0) T.n_isinstance T.n_tuple rfl (by decide)))) (sw_or1 (st_not (st_chain op_leA op_leA bin_le bin_le se_int (se_callB call_lenA un_len persD T.n_len rfl (se_var 0)) (se_glob g1_MOST_STATES g2_MOST_STATES g3_MOST_STATES)))))) (sss_one (ss_ret se_bl)) sss_nil)
  (sss_cons (ss_if (st_not (st_val (se_callB (cr_all rfl) un_all persD T.n_all rfl (SF.se (sf_comp (own := [("moves", 1)]) (is := [1]) rfl sc_is_box.nd (si_seq (se_var 0)) (blkOk_by (by kernel_rfl)) (by decide) (fun _ _ _ _ _ => (sg_name 1 sc_is_box.nd (hx := by first | exact .inl rfl | exact .inr rfl))) (fun _ _ _ _ _ => sts_nil) (fun _ _ _ _ _ => (se_and (se_isi (n := 2) persD (se_var 1) T.n_isinstance T.n_tuple rfl (by decide)) (se_one (se_cmp (op_eqD hu4) bin_eq persD persD (se_callB call_lenA un_len persD T.n_len rfl (se_var 1)) se_int (by rfl)))))))))) (sss_one (ss_ret se_bl)) sss_nil)
  (sss_one (ss_ret (se_callB (cr_all rfl) un_all persD T.n_all rfl (SF.se (sf_comp2 (own := [("moves", 1), ("move", 2)]) (vs1 := [2]) (is := [1]) (is1 := [2]) rfl sc_is_box.nd (si_seq (se_var 0)) (blkOk_by (by kernel_rfl)) (by decide) (by decide) (by decide) (fun _ _ _ _ _ => (sg_name 1 sc_is_box.nd (hx := by first | exact .inl rfl | exact .inr rfl))) (fun _ _ _ _ _ => sts_nil) (fun _ _ _ _ _ => (si_seq (se_var 1))) (fun _ _ _ _ _ => (sg_name 2 sc_is_box.nd (hx := by first | exact .inl rfl | exact .inr rfl))) (fun _ _ _ _ _ => sts_nil) (fun _ _ _ _ _ => (se_call (ok_is_move T) (hr.mono (by decide)) T.d_is_move.mg T.d_is_move.kp T.d_is_move.bd takes0 (sax_d (se_var 2) (sax_d (se_callB call_lenA un_len persD T.n_len rfl (se_var 0)) sax_nil)))))))))))
set_option maxHeartbeats 4000000 in
theorem ok_check_box (T : Tx K mg a) : FnOk P w K mg base (L2.CX P w) 4 a.f_check_box a.fd_check_box ["value"] (spD K a.c false 1 f_check_box) := by
  refine DL.okD2 (m := m_check_box) (n := 1) (p := 1) rfl rfl rfl T.d_check_box.fn sc_check_box (fun cdv A outer s H E hr => ?_)
  have tk : Takes (cxOf (L2.CX P w) P w K mg base ["value"] "check_box" (defScope s_check_box) a.f_check_box cdv A outer s H E) (fun cls d _ H' => E cls d H') := takes_of (E := E) rfl rfl rfl rfl
  have hu : (A.deeper (envOfC "check_box" (defScope s_check_box) s.heap.objs.size a.f_check_box cdv)).units + 65 < cLine := by have := hr.un; omega
  have hu4 := hr.units
  exact (sss_one (ss_if (st_not (st_val (se_call (ok_is_box T) (hr.mono (by decide)) T.d_is_box.mg T.d_is_box.kp T.d_is_box.bd tk (sax_d (se_var 0) sax_nil)))) (sss_one (ss_raise rfl tk rfl T.x_m.q T.x_m.g T.x_m.kp (T.x_m.r rfl) rfl)) sss_nil))
set_option maxHeartbeats 4000000 in
theorem ok_check_length (T : Tx K mg a) : FnOk P w K mg base (L2.CX P w) 5 a.f_check_length a.fd_check_length ["box", "length"] (spD K a.c false 2 f_check_length) := by
  refine DL.okD2 (m := m_check_length) (n := 2) (p := 2) rfl rfl rfl T.d_check_length.fn sc_check_length (fun cdv A outer s H E hr => ?_)
  have tk : Takes (cxOf (L2.CX P w) P w K mg base ["box", "length"] "check_length" (defScope s_check_length) a.f_check_length cdv A outer s H E) (fun cls d _ H' => E cls d H') := takes_of (E := E) rfl rfl rfl rfl
  have hu : (A.deeper (envOfC "check_length" (defScope s_check_length) s.heap.objs.size a.f_check_length cdv)).units + 65 < cLine := by have := hr.un; omega
  have hu4 := hr.units
  obtain ⟨u_MOST_LENGTH, v_MOST_LENGTH, g1_MOST_LENGTH, g2_MOST_LENGTH, g3_MOST_LENGTH⟩ := T.g_MOST_LENGTH
  exact (sss_cons (ss_expr (se_call (ok_check_box T) (hr.mono (by decide)) T.d_check_box.mg T.d_check_box.kp T.d_check_box.bd tk (sax_d (se_var 0) sax_nil)))
  (sss_one (ss_if (PW.pt (sw_or (st_not (st_val (se_call (ok_is_whole T) (hr.mono (by decide)) T.d_is_whole.mg T.d_is_whole.kp T.d_is_whole.bd tk (sax_d (se_var 1) sax_nil)))) (sw_or1 (st_not (st_chain op_leA op_leA bin_le bin_le se_int (se_var 1) (se_glob g1_MOST_LENGTH g2_MOST_LENGTH g3_MOST_LENGTH)))))) (sss_one (ss_raise rfl tk rfl T.x_m.q T.x_m.g T.x_m.kp (T.x_m.r rfl) rfl)) sss_nil)))
set_option maxHeartbeats 4000000 in
theorem ok_all_rows (T : Tx K mg a) : FnOk P w K mg base (L2.CX P w) 1 a.f_all_rows a.fd_all_rows ["length"] (spD K a.c false 1 f_all_rows) := by
  refine DL.okD2 (m := m_all_rows) (n := 5) (p := 1) rfl rfl rfl T.d_all_rows.fn sc_all_rows (fun cdv A outer s H E hr => ?_)
  have tk : Takes (cxOf (L2.CX P w) P w K mg base ["length", "found", "_", "row", "sign"] "all_rows" (defScope s_all_rows) a.f_all_rows cdv A outer s H E) (fun cls d _ H' => E cls d H') := takes_of (E := E) rfl rfl rfl rfl
  have hu : (A.deeper (envOfC "all_rows" (defScope s_all_rows) s.heap.objs.size a.f_all_rows cdv)).units + 65 < cLine := by have := hr.un; omega
  have hu4 := hr.units
  obtain ⟨u_INPUTS, v_INPUTS, g1_INPUTS, g2_INPUTS, g3_INPUTS⟩ := T.g_INPUTS
  exact (sss_cons (ss_set 1 sc_all_rows.nd (SF.se (sf_lst (sa_cons (se_tup sa_nil) sa_nil))) (hx := by first | exact .inl rfl | exact .inr rfl))
  (sss_cons (ss_for (passes_of rfl) rfl (si_rng1 T.n_range (se_var 0)) (sg_name 2 sc_all_rows.nd (hx := by first | exact .inl rfl | exact .inr rfl)) (sss_one (ss_setLc2 1 (own := [("row", 3), ("sign", 4)]) (vs1 := [4]) (is := [3]) (is1 := [4]) rfl sc_all_rows.nd (sw_true rfl rfl rfl (by decide +kernel)) (si_seq (se_var 1)) (blkOk_by (by kernel_rfl)) (by decide) (by decide) (by decide) (fun _ _ _ _ _ => (sg_name 3 sc_all_rows.nd (hx := by first | exact .inl rfl | exact .inr rfl))) (fun _ _ _ _ _ => sts_nil) (fun _ _ _ _ _ => (si_glob (ns := [0, 1]) g1_INPUTS g2_INPUTS g3_INPUTS)) (fun _ _ _ _ _ => (sg_name 4 sc_all_rows.nd (hx := by first | exact .inl rfl | exact .inr rfl))) (fun _ _ _ _ _ => sts_nil) (fun _ _ _ _ _ => (se_op op_addA bin_add persD persD (se_var 3) (se_tup (sa_cons (se_var 4) sa_nil)))))))
  (sss_one (ss_ret (se_var 1)))))
set_option maxHeartbeats 4000000 in
theorem ok_walk (T : Tx K mg a) : FnOk P w K mg base (L2.CX P w) 1 a.f_walk a.fd_walk ["box", "state", "row"] (spD K a.c false 3 f_walk) := by
  refine DL.okD2 (m := m_walk) (n := 6) (p := 3) rfl rfl rfl T.d_walk.fn sc_walk (fun cdv A outer s H E hr => ?_)
  have tk : Takes (cxOf (L2.CX P w) P w K mg base ["box", "state", "row", "outputs", "sign", "output"] "walk" (defScope s_walk) a.f_walk cdv A outer s H E) (fun cls d _ H' => E cls d H') := takes_of (E := E) rfl rfl rfl rfl
  have hu : (A.deeper (envOfC "walk" (defScope s_walk) s.heap.objs.size a.f_walk cdv)).units + 65 < cLine := by have := hr.un; omega
  have hu4 := hr.units
  exact (sss_cons (ss_setL 3 sc_walk.nd (sf_lst sa_nil) (hx := by first | exact .inl rfl | exact .inr rfl))
  (sss_cons (ss_for (passes_of rfl) rfl (si_seq (se_var 2)) (sg_name 4 sc_walk.nd (hx := by first | exact .inl rfl | exact .inr rfl)) (sss_cons (ss_asg (se_ix persD persD (se_ix persD persD (se_var 0) (se_var 1)) (se_var 4)) (sg_tup rfl (sgs_cons (sg_name 1 sc_walk.nd (hx := by first | exact .inl rfl | exact .inr rfl)) (sgs_cons (sg_name 5 sc_walk.nd (hx := by first | exact .inl rfl | exact .inr rfl)) sgs_nil))))
  (sss_one (ss_app 3 (se_var 5)))))
  (sss_one (ss_ret (se_tup (sa_cons (se_callTy call_tuple_of un_tuple persP T.n_tuple rfl (sp_var 3)) (sa_cons (se_var 1) sa_nil)))))))
set_option maxHeartbeats 4000000 in
theorem ok_found_turn (T : Tx K mg a) : FnOk P w K mg base (L2.CX P w) 2 a.f_found_turn a.fd_found_turn ["box", "row"] (spD K a.c false 2 f_found_turn) := by
  refine DL.okD2 (m := m_found_turn) (n := 5) (p := 2) rfl rfl rfl T.d_found_turn.fn sc_found_turn (fun cdv A outer s H E hr => ?_)
  have tk : Takes (cxOf (L2.CX P w) P w K mg base ["box", "row", "met", "order", "after"] "found_turn" (defScope s_found_turn) a.f_found_turn cdv A outer s H E) (fun cls d _ H' => E cls d H') := takes_of (E := E) rfl rfl rfl rfl
  have hu : (A.deeper (envOfC "found_turn" (defScope s_found_turn) s.heap.objs.size a.f_found_turn cdv)).units + 65 < cLine := by have := hr.un; omega
  have hu4 := hr.units
  exact (sss_cons (ss_parCL 2 3 sc_found_turn.nd (sd_oneT hu (se_var 1) se_int) (sf_lst (sa_cons (se_var 1) sa_nil)))
  (sss_cons (ss_set 4 sc_found_turn.nd (se_ix persD persD (se_call (ok_walk T) (hr.mono (by decide)) T.d_walk.mg T.d_walk.kp T.d_walk.bd tk (sax_d (se_var 0) (sax_d se_int (sax_d (se_var 1) sax_nil)))) se_int) (hx := by first | exact .inl rfl | exact .inr rfl))
  (sss_cons (ss_while 1000 (passes_of rfl) (st_dnot 2 hu (se_var 4)) (sss_cons (ss_dput 2 hu (se_callB call_lenA un_len persP T.n_len rfl (sp_var 3)) (se_var 4))
  (sss_cons (ss_app 3 (se_var 4))
  (sss_one (ss_set 4 sc_found_turn.nd (se_ix persD persD (se_call (ok_walk T) (hr.mono (by decide)) T.d_walk.mg T.d_walk.kp T.d_walk.bd tk (sax_d (se_var 0) (sax_d se_int (sax_d (se_var 4) sax_nil)))) se_int) (hx := by first | exact .inl rfl | exact .inr rfl))))))
  (sss_one (ss_ret (se_tup (sa_cons (se_dget 2 hu (se_var 4)) (sa_cons (se_op op_sub bin_sub persD persD (se_callB call_lenA un_len persP T.n_len rfl (sp_var 3)) (se_dget 2 hu (se_var 4))) sa_nil))))))))
set_option maxHeartbeats 4000000 in
theorem ok_back_count (T : Tx K mg a) : FnOk P w K mg base (L2.CX P w) 6 a.f_back_count a.fd_back_count ["box", "length"] (spD K a.c false 2 f_back_count) := by
  refine DL.okD2 (m := m_back_count) (n := 3) (p := 2) rfl rfl rfl T.d_back_count.fn sc_back_count (fun cdv A outer s H E hr => ?_)
  have tk : Takes (cxOf (L2.CX P w) P w K mg base ["box", "length", "row"] "back_count" (defScope s_back_count) a.f_back_count cdv A outer s H E) (fun cls d _ H' => E cls d H') := takes_of (E := E) rfl rfl rfl rfl
  have hu : (A.deeper (envOfC "back_count" (defScope s_back_count) s.heap.objs.size a.f_back_count cdv)).units + 65 < cLine := by have := hr.un; omega
  have hu4 := hr.units
  exact (sss_cons (ss_expr (se_call (ok_check_length T) (hr.mono (by decide)) T.d_check_length.mg T.d_check_length.kp T.d_check_length.bd tk (sax_d (se_var 0) (sax_d (se_var 1) sax_nil))))
  (sss_one (ss_ret (se_callB call_lenA un_len persD T.n_len rfl (SF.se (sf_comp (own := [("row", 2)]) (is := [2]) rfl sc_back_count.nd (si_seq (se_call (ok_all_rows T) (hr.mono (by decide)) T.d_all_rows.mg T.d_all_rows.kp T.d_all_rows.bd tk (sax_d (se_var 1) sax_nil))) (blkOk_by (by kernel_rfl)) (by decide) (fun _ _ _ _ _ => (sg_name 2 sc_back_count.nd (hx := by first | exact .inl rfl | exact .inr rfl))) (fun _ _ _ _ _ => (sts_one (st_cmp (op_eqD hu4) bin_eq persD persD (se_ix persD persD (se_call (ok_found_turn T) (hr.mono (by decide)) T.d_found_turn.mg T.d_found_turn.kp T.d_found_turn.bd takes0 (sax_d (se_var 0) (sax_d (se_var 2) sax_nil))) se_int) se_int (by rfl)))) (fun _ _ _ _ _ => (se_var 2))))))))
set_option maxHeartbeats 4000000 in
theorem ok_is_short (T : Tx K mg a) : FnOk P w K mg base (L2.CX P w) 2 a.f_is_short a.fd_is_short ["value", "most"] (spD K a.c false 2 f_is_short) := by
  refine DL.okD2 (m := m_is_short) (n := 3) (p := 2) rfl rfl rfl T.d_is_short.fn sc_is_short (fun cdv A outer s H E hr => ?_)
  have tk : Takes (cxOf (L2.CX P w) P w K mg base ["value", "most", "sign"] "is_short" (defScope s_is_short) a.f_is_short cdv A outer s H E) (fun cls d _ H' => E cls d H') := takes_of (E := E) rfl rfl rfl rfl
  have hu : (A.deeper (envOfC "is_short" (defScope s_is_short) s.heap.objs.size a.f_is_short cdv)).units + 65 < cLine := by have := hr.un; omega
  have hu4 := hr.units
  exact (sss_cons (ss_if (PW.pt (sw_or (st_not (st_val (se_isi (n := 2) persD (se_var 0) T.n_isinstance T.n_tuple rfl (by decide)))) (sw_or1 (st_cmp op_gt bin_gt persD persD (se_callB call_lenA un_len persD T.n_len rfl (se_var 0)) (se_var 1) (by rfl))))) (sss_one (ss_ret se_bl)) sss_nil)
  (sss_one (ss_ret (se_callB (cr_all rfl) un_all persD T.n_all rfl (SF.se (sf_comp (own := [("sign", 2)]) (is := [2]) rfl sc_is_short.nd (si_seq (se_var 0)) (blkOk_by (by kernel_rfl)) (by decide) (fun _ _ _ _ _ => (sg_name 2 sc_is_short.nd (hx := by first | exact .inl rfl | exact .inr rfl))) (fun _ _ _ _ _ => sts_nil) (fun _ _ _ _ _ => (se_and (se_call (ok_is_whole T) (hr.mono (by decide)) T.d_is_whole.mg T.d_is_whole.kp T.d_is_whole.bd takes0 (sax_d (se_var 2) sax_nil)) (se_one (se_chain op_leA op_leA bin_le bin_le se_int (se_var 2) se_int))))))))))
set_option maxHeartbeats 4000000 in
theorem ok_check_row (T : Tx K mg a) : FnOk P w K mg base (L2.CX P w) 5 a.f_check_row a.fd_check_row ["box", "row"] (spD K a.c false 2 f_check_row) := by
  refine DL.okD2 (m := m_check_row) (n := 2) (p := 2) rfl rfl rfl T.d_check_row.fn sc_check_row (fun cdv A outer s H E hr => ?_)
  have tk : Takes (cxOf (L2.CX P w) P w K mg base ["box", "row"] "check_row" (defScope s_check_row) a.f_check_row cdv A outer s H E) (fun cls d _ H' => E cls d H') := takes_of (E := E) rfl rfl rfl rfl
  have hu : (A.deeper (envOfC "check_row" (defScope s_check_row) s.heap.objs.size a.f_check_row cdv)).units + 65 < cLine := by have := hr.un; omega
  have hu4 := hr.units
  obtain ⟨u_MOST_INPUTS, v_MOST_INPUTS, g1_MOST_INPUTS, g2_MOST_INPUTS, g3_MOST_INPUTS⟩ := T.g_MOST_INPUTS
  exact (sss_cons (ss_expr (se_call (ok_check_box T) (hr.mono (by decide)) T.d_check_box.mg T.d_check_box.kp T.d_check_box.bd tk (sax_d (se_var 0) sax_nil)))
  (sss_one (ss_if (st_not (st_val (se_call (ok_is_short T) (hr.mono (by decide)) T.d_is_short.mg T.d_is_short.kp T.d_is_short.bd tk (sax_d (se_var 1) (sax_d (se_glob g1_MOST_INPUTS g2_MOST_INPUTS g3_MOST_INPUTS) sax_nil))))) (sss_one (ss_raise rfl tk rfl T.x_m.q T.x_m.g T.x_m.kp (T.x_m.r rfl) rfl)) sss_nil)))
set_option maxHeartbeats 4000000 in
theorem ok_behind_copies (T : Tx K mg a) : FnOk P w K mg base (L2.CX P w) 6 a.f_behind_copies a.fd_behind_copies ["box", "n", "row"] (spD K a.c false 3 f_behind_copies) := by
  refine DL.okD2 (m := m_behind_copies) (n := 4) (p := 3) rfl rfl rfl T.d_behind_copies.fn sc_behind_copies (fun cdv A outer s H E hr => ?_)
  have tk : Takes (cxOf (L2.CX P w) P w K mg base ["box", "n", "row", "_"] "behind_copies" (defScope s_behind_copies) a.f_behind_copies cdv A outer s H E) (fun cls d _ H' => E cls d H') := takes_of (E := E) rfl rfl rfl rfl
  have hu : (A.deeper (envOfC "behind_copies" (defScope s_behind_copies) s.heap.objs.size a.f_behind_copies cdv)).units + 65 < cLine := by have := hr.un; omega
  have hu4 := hr.units
  obtain ⟨u_MOST_COPIES, v_MOST_COPIES, g1_MOST_COPIES, g2_MOST_COPIES, g3_MOST_COPIES⟩ := T.g_MOST_COPIES
  exact (sss_cons (ss_expr (se_call (ok_check_row T) (hr.mono (by decide)) T.d_check_row.mg T.d_check_row.kp T.d_check_row.bd tk (sax_d (se_var 0) (sax_d (se_var 2) sax_nil))))
  (sss_cons (ss_if (PW.pt (sw_or (st_not (st_val (se_call (ok_is_whole T) (hr.mono (by decide)) T.d_is_whole.mg T.d_is_whole.kp T.d_is_whole.bd tk (sax_d (se_var 1) sax_nil)))) (sw_or1 (st_not (st_chain op_leA op_leA bin_le bin_le se_int (se_var 1) (se_glob g1_MOST_COPIES g2_MOST_COPIES g3_MOST_COPIES)))))) (sss_one (ss_raise rfl tk rfl T.x_m.q T.x_m.g T.x_m.kp (T.x_m.r rfl) rfl)) sss_nil)
  (sss_cons (ss_for (passes_of rfl) rfl (si_rng1 T.n_range (se_var 1)) (sg_name 3 sc_behind_copies.nd (hx := by first | exact .inl rfl | exact .inr rfl)) (sss_one (ss_set 2 sc_behind_copies.nd (se_ix persD persD (se_call (ok_walk T) (hr.mono (by decide)) T.d_walk.mg T.d_walk.kp T.d_walk.bd tk (sax_d (se_var 0) (sax_d se_int (sax_d (se_var 2) sax_nil)))) se_int) (hx := by first | exact .inl rfl | exact .inr rfl))))
  (sss_one (ss_ret (se_var 2))))))
set_option maxHeartbeats 4000000 in
theorem ok_row_turn (T : Tx K mg a) : FnOk P w K mg base (L2.CX P w) 6 a.f_row_turn a.fd_row_turn ["box", "row"] (spD K a.c false 2 f_row_turn) := by
  refine DL.okD2 (m := m_row_turn) (n := 2) (p := 2) rfl rfl rfl T.d_row_turn.fn sc_row_turn (fun cdv A outer s H E hr => ?_)
  have tk : Takes (cxOf (L2.CX P w) P w K mg base ["box", "row"] "row_turn" (defScope s_row_turn) a.f_row_turn cdv A outer s H E) (fun cls d _ H' => E cls d H') := takes_of (E := E) rfl rfl rfl rfl
  have hu : (A.deeper (envOfC "row_turn" (defScope s_row_turn) s.heap.objs.size a.f_row_turn cdv)).units + 65 < cLine := by have := hr.un; omega
  have hu4 := hr.units
  exact (sss_cons (ss_expr (se_call (ok_check_row T) (hr.mono (by decide)) T.d_check_row.mg T.d_check_row.kp T.d_check_row.bd tk (sax_d (se_var 0) (sax_d (se_var 1) sax_nil))))
  (sss_one (ss_ret (se_call (ok_found_turn T) (hr.mono (by decide)) T.d_found_turn.mg T.d_found_turn.kp T.d_found_turn.bd tk (sax_d (se_var 0) (sax_d (se_var 1) sax_nil))))))
set_option maxHeartbeats 4000000 in
theorem ok_whole_turn (T : Tx K mg a) : FnOk P w K mg base (L2.CX P w) 6 a.f_whole_turn a.fd_whole_turn ["box", "length"] (spD K a.c false 2 f_whole_turn) := by
  refine DL.okD2 (m := m_whole_turn) (n := 7) (p := 2) rfl rfl rfl T.d_whole_turn.fn sc_whole_turn (fun cdv A outer s H E hr => ?_)
  have tk : Takes (cxOf (L2.CX P w) P w K mg base ["box", "length", "turns", "row", "i", "_", "d"] "whole_turn" (defScope s_whole_turn) a.f_whole_turn cdv A outer s H E) (fun cls d _ H' => E cls d H') := takes_of (E := E) rfl rfl rfl rfl
  have hu : (A.deeper (envOfC "whole_turn" (defScope s_whole_turn) s.heap.objs.size a.f_whole_turn cdv)).units + 65 < cLine := by have := hr.un; omega
  have hu4 := hr.units
  exact (sss_cons (ss_expr (se_call (ok_check_length T) (hr.mono (by decide)) T.d_check_length.mg T.d_check_length.kp T.d_check_length.bd tk (sax_d (se_var 0) (sax_d (se_var 1) sax_nil))))
  (sss_cons (ss_setLc 2 (own := [("row", 3)]) (is := [3]) rfl sc_whole_turn.nd (sw_true rfl rfl rfl (by decide +kernel)) (si_seq (se_call (ok_all_rows T) (hr.mono (by decide)) T.d_all_rows.mg T.d_all_rows.kp T.d_all_rows.bd tk (sax_d (se_var 1) sax_nil))) (blkOk_by (by kernel_rfl)) (by decide) (fun _ _ _ _ _ => (sg_name 3 sc_whole_turn.nd (hx := by first | exact .inl rfl | exact .inr rfl))) (fun _ _ _ _ _ => sts_nil) (fun _ _ _ _ _ => (se_call (ok_found_turn T) (hr.mono (by decide)) T.d_found_turn.mg T.d_found_turn.kp T.d_found_turn.bd takes0 (sax_d (se_var 0) (sax_d (se_var 3) sax_nil)))))
  (sss_one (ss_ret (se_tup (sa_cons (se_callB (cr_max rfl) un_max persD T.n_max rfl (SF.se (sf_comp (own := [("i", 4), ("_", 5)]) (is := [4, 5]) rfl sc_whole_turn.nd (si_seq (se_var 2)) (blkOk_by (by kernel_rfl)) (by decide) (fun _ _ _ _ _ => (sg_tup rfl (sgs_cons (sg_name 4 sc_whole_turn.nd (hx := by first | exact .inl rfl | exact .inr rfl)) (sgs_cons (sg_name 5 sc_whole_turn.nd (hx := by first | exact .inl rfl | exact .inr rfl)) sgs_nil)))) (fun _ _ _ _ _ => sts_nil) (fun _ _ _ _ _ => (se_var 4))))) (sa_cons (se_callB (cr_max rfl) un_max persD T.n_max rfl (SF.se (sf_comp (own := [("_", 5), ("d", 6)]) (is := [5, 6]) rfl sc_whole_turn.nd (si_seq (se_var 2)) (blkOk_by (by kernel_rfl)) (by decide) (fun _ _ _ _ _ => (sg_tup rfl (sgs_cons (sg_name 5 sc_whole_turn.nd (hx := by first | exact .inl rfl | exact .inr rfl)) (sgs_cons (sg_name 6 sc_whole_turn.nd (hx := by first | exact .inl rfl | exact .inr rfl)) sgs_nil)))) (fun _ _ _ _ _ => sts_nil) (fun _ _ _ _ _ => (se_var 6))))) sa_nil)))))))
set_option maxHeartbeats 4000000 in
theorem ok__law_told (T : Tx K mg a) : FnOk P w K mg base (L2.CX P w) 7 a.f__law_told a.fd__law_told ["which", "box", "n", "row"] (spD K a.c false 4 f__law_told) := by
  refine DL.okD2 (m := m__law_told) (n := 4) (p := 4) rfl rfl rfl T.d__law_told.fn sc__law_told (fun cdv A outer s H E hr => ?_)
  have tk : Takes (cxOf (L2.CX P w) P w K mg base ["which", "box", "n", "row"] "_law_told" (defScope s__law_told) a.f__law_told cdv A outer s H E) (fun cls d _ H' => E cls d H') := takes_of (E := E) rfl rfl rfl rfl
  have hu : (A.deeper (envOfC "_law_told" (defScope s__law_told) s.heap.objs.size a.f__law_told cdv)).units + 65 < cLine := by have := hr.un; omega
  have hu4 := hr.units
  exact (sss_one (ss_try (k := fun _ => true) rfl rfl T.x_m.g tk T.x_m.ex (fun W2 pn xe tk2 hp2 => (sss_cons (ss_if (st_cmp (op_eqD hu4) bin_eq persD persD (se_var 0) se_int (by rfl)) (sss_one (ss_ret (se_call (ok_behind_copies T) (hr.mono (by decide)) T.d_behind_copies.mg T.d_behind_copies.kp T.d_behind_copies.bd tk2 (sax_d (se_var 1) (sax_d (se_var 2) (sax_d (se_var 3) sax_nil)))))) sss_nil)
  (sss_cons (ss_if (st_cmp (op_eqD hu4) bin_eq persD persD (se_var 0) se_int (by rfl)) (sss_one (ss_ret (se_call (ok_row_turn T) (hr.mono (by decide)) T.d_row_turn.mg T.d_row_turn.kp T.d_row_turn.bd tk2 (sax_d (se_var 1) (sax_d (se_var 3) sax_nil))))) sss_nil)
  (sss_one (ss_ret (se_if (st_cmp (op_eqD hu4) bin_eq persD persD (se_var 0) se_int (by rfl)) (se_call (ok_whole_turn T) (hr.mono (by decide)) T.d_whole_turn.mg T.d_whole_turn.kp T.d_whole_turn.bd tk2 (sax_d (se_var 1) (sax_d (se_var 2) sax_nil))) (se_call (ok_back_count T) (hr.mono (by decide)) T.d_back_count.mg T.d_back_count.kp T.d_back_count.bd tk2 (sax_d (se_var 1) (sax_d (se_var 2) sax_nil))))))))) (fun _ _ => (sss_one (ss_ret se_str)))))
set_option maxHeartbeats 4000000 in
theorem ok__law_behind (T : Tx K mg a) : FnOk P w K mg base (L2.CX P w) 2 a.f__law_behind a.fd__law_behind ["box", "n", "row"] (spD K a.c false 3 f__law_behind) := by
  refine DL.okD2 (m := m__law_behind) (n := 4) (p := 3) rfl rfl rfl T.d__law_behind.fn sc__law_behind (fun cdv A outer s H E hr => ?_)
  have tk : Takes (cxOf (L2.CX P w) P w K mg base ["box", "n", "row", "copy"] "_law_behind" (defScope s__law_behind) a.f__law_behind cdv A outer s H E) (fun cls d _ H' => E cls d H') := takes_of (E := E) rfl rfl rfl rfl
  have hu : (A.deeper (envOfC "_law_behind" (defScope s__law_behind) s.heap.objs.size a.f__law_behind cdv)).units + 65 < cLine := by have := hr.un; omega
  have hu4 := hr.units
  exact (sss_cons (ss_for (passes_of rfl) rfl (si_rng1 T.n_range (se_var 1)) (sg_name 3 sc__law_behind.nd (hx := by first | exact .inl rfl | exact .inr rfl)) (sss_one (ss_set 2 sc__law_behind.nd (se_ix persD persD (se_call (ok__law_walk T) (hr.mono (by decide)) T.d__law_walk.mg T.d__law_walk.kp T.d__law_walk.bd tk (sax_d (se_var 0) (sax_d se_int (sax_d (se_var 2) sax_nil)))) se_int) (hx := by first | exact .inl rfl | exact .inr rfl))))
  (sss_one (ss_ret (se_var 2))))
set_option maxHeartbeats 4000000 in
theorem ok__law_rows (T : Tx K mg a) : FnOk P w K mg base (L2.CX P w) 1 a.f__law_rows a.fd__law_rows ["length"] (spD K a.c false 1 f__law_rows) := by
  refine DL.okD2 (m := m__law_rows) (n := 4) (p := 1) rfl rfl rfl T.d__law_rows.fn sc__law_rows (fun cdv A outer s H E hr => ?_)
  have tk : Takes (cxOf (L2.CX P w) P w K mg base ["length", "found", "turn", "row"] "_law_rows" (defScope s__law_rows) a.f__law_rows cdv A outer s H E) (fun cls d _ H' => E cls d H') := takes_of (E := E) rfl rfl rfl rfl
  have hu : (A.deeper (envOfC "_law_rows" (defScope s__law_rows) s.heap.objs.size a.f__law_rows cdv)).units + 65 < cLine := by have := hr.un; omega
  have hu4 := hr.units
  exact (sss_cons (ss_set 1 sc__law_rows.nd (SF.se (sf_lst (sa_cons (se_tup sa_nil) sa_nil))) (hx := by first | exact .inl rfl | exact .inr rfl))
  (sss_cons (ss_for (passes_of rfl) rfl (si_rng1 T.n_range (se_var 0)) (sg_name 2 sc__law_rows.nd (hx := by first | exact .inl rfl | exact .inr rfl)) (sss_one (ss_set 1 sc__law_rows.nd (se_op op_addA bin_add persD persD (SF.se (sf_comp (own := [("row", 3)]) (is := [3]) rfl sc__law_rows.nd (si_seq (se_var 1)) (blkOk_by (by kernel_rfl)) (by decide) (fun _ _ _ _ _ => (sg_name 3 sc__law_rows.nd (hx := by first | exact .inl rfl | exact .inr rfl))) (fun _ _ _ _ _ => sts_nil) (fun _ _ _ _ _ => (se_op op_addA bin_add persD persD (se_var 3) (se_tup (sa_cons se_int sa_nil)))))) (SF.se (sf_comp (own := [("row", 3)]) (is := [3]) rfl sc__law_rows.nd (si_seq (se_var 1)) (blkOk_by (by kernel_rfl)) (by decide) (fun _ _ _ _ _ => (sg_name 3 sc__law_rows.nd (hx := by first | exact .inl rfl | exact .inr rfl))) (fun _ _ _ _ _ => sts_nil) (fun _ _ _ _ _ => (se_op op_addA bin_add persD persD (se_var 3) (se_tup (sa_cons se_int sa_nil))))))) (hx := by first | exact .inl rfl | exact .inr rfl))))
  (sss_one (ss_ret (SF.se (sf_callB (cr_sortD hu) un_sort persD T.n_sorted rfl (se_var 1)))))))
set_option maxHeartbeats 4000000 in
theorem ok__law_odd_row (T : Tx K mg a) : FnOk P w K mg base (L2.CX P w) 2 a.f__law_odd_row a.fd__law_odd_row ["draw"] (spD K a.c false 1 f__law_odd_row) := by
  refine DL.okD2 (m := m__law_odd_row) (n := 1) (p := 1) rfl rfl rfl T.d__law_odd_row.fn sc__law_odd_row (fun cdv A outer s H E hr => ?_)
  have tk : Takes (cxOf (L2.CX P w) P w K mg base ["draw"] "_law_odd_row" (defScope s__law_odd_row) a.f__law_odd_row cdv A outer s H E) (fun cls d _ H' => E cls d H') := takes_of (E := E) rfl rfl rfl rfl
  have hu : (A.deeper (envOfC "_law_odd_row" (defScope s__law_odd_row) s.heap.objs.size a.f__law_odd_row cdv)).units + 65 < cLine := by have := hr.un; omega
  have hu4 := hr.units
  exact (sss_one (ss_ret (se_ix persD persD (SF.se (sf_lst (sa_cons se_non (sa_cons se_int (sa_cons (SF.se (sf_lst (sa_cons se_int sa_nil))) (sa_cons (se_tup (sa_cons se_int sa_nil)) (sa_cons (se_tup (sa_cons (se_neg se_int) sa_nil)) (sa_cons (se_tup (sa_cons se_bl sa_nil)) (sa_cons (se_tup (sa_cons se_str sa_nil)) (sa_cons se_str (sa_cons (se_op op_mulA bin_mul persD persD (se_tup (sa_cons se_int sa_nil)) se_int) sa_nil))))))))))) (se_call (ok__law_take T) (hr.mono (by decide)) T.d__law_take.mg T.d__law_take.kp T.d__law_take.bd tk (sax_v 0 (sax_d se_int sax_nil))))))
set_option maxHeartbeats 4000000 in
theorem body_law (T : Tx K mg a) : LawBody P w K mg 8 s_law ["script", "draw", "lap", "box", "row", "n", "i", "d", "more", "wide", "length", "turns", "odd", "bad", "wrong", "far", "told", "one", "two", "which"] a.f_law a.c m_law := by
  intro base cdv s H hK hns hr
  have tk : Takes (cxOf (L2.CX P w) P w K mg base ["script", "draw", "lap", "box", "row", "n", "i", "d", "more", "wide", "length", "turns", "odd", "bad", "wrong", "far", "told", "one", "two", "which"] "law" (defScope s_law) a.f_law cdv callerA [] s H noX) W0 := takes_of (E := noX) rfl rfl rfl rfl
  have hgd : (callerA.deeper (envOfC "law" (defScope s_law) s.heap.objs.size a.f_law cdv)).guards = some [] := rfl
  have hu : (callerA.deeper (envOfC "law" (defScope s_law) s.heap.objs.size a.f_law cdv)).units + 65 < cLine := by have := hr.un; omega
  have hu4 := hr.units
  exact (sss_draw 1 sc_law.nd (sf_call (ok__law_draw T) (hr.mono (by decide)) T.d__law_draw.mg T.d__law_draw.kp T.d__law_draw.bd tk (sax_v 0 sax_nil)) (sss_cons (ss_for (passes_of rfl) rfl (si_rng1 T.n_range se_int) (sg_name 2 sc_law.nd (hx := by first | exact .inl rfl | exact .inr rfl)) (sss_cons (ss_asg (se_tup (sa_cons (se_call (ok__law_box T) (hr.mono (by decide)) T.d__law_box.mg T.d__law_box.kp T.d__law_box.bd tk (sax_v 1 (sax_d se_int sax_nil))) (sa_cons (se_call (ok__law_row T) (hr.mono (by decide)) T.d__law_row.mg T.d__law_row.kp T.d__law_row.bd tk (sax_v 1 (sax_d se_int sax_nil))) (sa_cons (se_call (ok__law_take T) (hr.mono (by decide)) T.d__law_take.mg T.d__law_take.kp T.d__law_take.bd tk (sax_v 1 (sax_d se_int sax_nil))) sa_nil)))) (sg_tup rfl (sgs_cons (sg_name 3 sc_law.nd (hx := by first | exact .inl rfl | exact .inr rfl)) (sgs_cons (sg_name 4 sc_law.nd (hx := by first | exact .inl rfl | exact .inr rfl)) (sgs_cons (sg_name 5 sc_law.nd (hx := by first | exact .inl rfl | exact .inr rfl)) sgs_nil)))))
  (sss_cons (ss_asg (se_call (ok__law_turn T) (hr.mono (by decide)) T.d__law_turn.mg T.d__law_turn.kp T.d__law_turn.bd tk (sax_d (se_var 3) (sax_d (se_var 4) sax_nil))) (sg_tup rfl (sgs_cons (sg_name 6 sc_law.nd (hx := by first | exact .inl rfl | exact .inr rfl)) (sgs_cons (sg_name 7 sc_law.nd (hx := by first | exact .inl rfl | exact .inr rfl)) sgs_nil))))
  (sss_cons (ss_if (PW.pt (sw_or (st_cmp (op_neD hu4) bin_ne persD persD (se_call (ok_behind_copies T) (hr.mono (by decide)) T.d_behind_copies.mg T.d_behind_copies.kp T.d_behind_copies.bd tk (sax_d (se_var 3) (sax_d (se_var 5) (sax_d (se_var 4) sax_nil)))) (se_call (ok__law_behind T) (hr.mono (by decide)) T.d__law_behind.mg T.d__law_behind.kp T.d__law_behind.bd tk (sax_d (se_var 3) (sax_d (se_var 5) (sax_d (se_var 4) sax_nil)))) (by rfl)) (sw_or (st_cmp (op_neD hu4) bin_ne persD persD (se_call (ok_row_turn T) (hr.mono (by decide)) T.d_row_turn.mg T.d_row_turn.kp T.d_row_turn.bd tk (sax_d (se_var 3) (sax_d (se_var 4) sax_nil))) (se_tup (sa_cons (se_var 6) (sa_cons (se_var 7) sa_nil))) (by rfl)) (sw_or1 (st_cmp (op_notInA hu) bin_notIn persD persD (se_var 7) (SF.se (sf_lst (sa_cons se_int (sa_cons se_int (sa_cons se_int (sa_cons se_int (sa_cons se_int (sa_cons se_int (sa_cons se_int (sa_cons se_int (sa_cons se_int sa_nil))))))))))) (by with_unfolding_all rfl)))))) (sss_one (ss_ret se_bl)) sss_nil)
  (sss_cons (ss_asg (se_call (ok__law_turn T) (hr.mono (by decide)) T.d__law_turn.mg T.d__law_turn.kp T.d__law_turn.bd tk (sax_d (se_var 3) (sax_d (se_op op_addA bin_add persD persD (se_var 4) (se_tup (sa_cons (se_call (ok__law_take T) (hr.mono (by decide)) T.d__law_take.mg T.d__law_take.kp T.d__law_take.bd tk (sax_v 1 (sax_d se_int sax_nil))) sa_nil))) sax_nil))) (sg_tup rfl (sgs_cons (sg_name 8 sc_law.nd (hx := by first | exact .inl rfl | exact .inr rfl)) (sgs_cons (sg_name 9 sc_law.nd (hx := by first | exact .inl rfl | exact .inr rfl)) sgs_nil))))
  (sss_cons (ss_if (PW.pt (sw_or (st_cmp op_ltA bin_lt persD persD (se_var 8) (se_var 6) (by rfl)) (sw_or1 (st_cmp (op_notInA hu) bin_notIn persD persD (se_var 9) (SF.se (sf_lst (sa_cons (se_var 7) (sa_cons (se_op op_mulA bin_mul persD persD se_int (se_var 7)) sa_nil)))) (by with_unfolding_all rfl))))) (sss_one (ss_ret se_bl)) sss_nil)
  (sss_cons (ss_set 10 sc_law.nd (se_call (ok__law_take T) (hr.mono (by decide)) T.d__law_take.mg T.d__law_take.kp T.d__law_take.bd tk (sax_v 1 (sax_d se_int sax_nil))) (hx := by first | exact .inl rfl | exact .inr rfl))
  (sss_cons (ss_setLc 11 (own := [("one", 17)]) (is := [17]) rfl sc_law.nd (sw_true rfl rfl rfl (by decide +kernel)) (si_seq (se_call (ok__law_rows T) (hr.mono (by decide)) T.d__law_rows.mg T.d__law_rows.kp T.d__law_rows.bd tk (sax_d (se_var 10) sax_nil))) (blkOk_by (by kernel_rfl)) (by decide) (fun _ _ _ _ _ => (sg_name 17 sc_law.nd (hx := by first | exact .inl rfl | exact .inr rfl))) (fun _ _ _ _ _ => sts_nil) (fun _ _ _ _ _ => (se_call (ok__law_turn T) (hr.mono (by decide)) T.d__law_turn.mg T.d__law_turn.kp T.d__law_turn.bd takes0 (sax_d (se_var 3) (sax_d (se_var 17) sax_nil)))))
  (sss_cons (ss_if (st_cmp (op_neD hu4) bin_ne persD persD (se_callB (cr_repr hu hgd) un_repr persD T.n_repr rfl (se_call (ok_whole_turn T) (hr.mono (by decide)) T.d_whole_turn.mg T.d_whole_turn.kp T.d_whole_turn.bd tk (sax_d (se_var 3) (sax_d (se_var 10) sax_nil)))) (se_callB (cr_repr hu hgd) un_repr persD T.n_repr rfl (se_tup (sa_cons (se_callB (cr_max rfl) un_max persD T.n_max rfl (SF.se (sf_comp (own := [("one", 17), ("two", 18)]) (is := [17, 18]) rfl sc_law.nd (si_seq (se_var 11)) (blkOk_by (by kernel_rfl)) (by decide) (fun _ _ _ _ _ => (sg_tup rfl (sgs_cons (sg_name 17 sc_law.nd (hx := by first | exact .inl rfl | exact .inr rfl)) (sgs_cons (sg_name 18 sc_law.nd (hx := by first | exact .inl rfl | exact .inr rfl)) sgs_nil)))) (fun _ _ _ _ _ => sts_nil) (fun _ _ _ _ _ => (se_var 17))))) (sa_cons (se_callB (cr_max rfl) un_max persD T.n_max rfl (SF.se (sf_comp (own := [("one", 17), ("two", 18)]) (is := [17, 18]) rfl sc_law.nd (si_seq (se_var 11)) (blkOk_by (by kernel_rfl)) (by decide) (fun _ _ _ _ _ => (sg_tup rfl (sgs_cons (sg_name 17 sc_law.nd (hx := by first | exact .inl rfl | exact .inr rfl)) (sgs_cons (sg_name 18 sc_law.nd (hx := by first | exact .inl rfl | exact .inr rfl)) sgs_nil)))) (fun _ _ _ _ _ => sts_nil) (fun _ _ _ _ _ => (se_var 18))))) sa_nil)))) (by rfl)) (sss_one (ss_ret se_bl)) sss_nil)
  (sss_one (ss_if (st_cmp (op_neD hu4) bin_ne persD persD (se_call (ok_back_count T) (hr.mono (by decide)) T.d_back_count.mg T.d_back_count.kp T.d_back_count.bd tk (sax_d (se_var 3) (sax_d (se_var 10) sax_nil))) (se_callB call_lenA un_len persD T.n_len rfl (SF.se (sf_comp (own := [("one", 17), ("two", 18)]) (is := [17, 18]) rfl sc_law.nd (si_seq (se_var 11)) (blkOk_by (by kernel_rfl)) (by decide) (fun _ _ _ _ _ => (sg_tup rfl (sgs_cons (sg_name 17 sc_law.nd (hx := by first | exact .inl rfl | exact .inr rfl)) (sgs_cons (sg_name 18 sc_law.nd (hx := by first | exact .inl rfl | exact .inr rfl)) sgs_nil)))) (fun _ _ _ _ _ => (sts_one (st_cmp (op_eqD hu4) bin_eq persD persD (se_var 17) se_int (by rfl)))) (fun _ _ _ _ _ => (se_var 17))))) (by rfl)) (sss_one (ss_ret se_bl)) sss_nil)))))))))))
  (sss_cons (ss_asg (se_tup (sa_cons (se_call (ok__law_odd_box T) (hr.mono (by decide)) T.d__law_odd_box.mg T.d__law_odd_box.kp T.d__law_odd_box.bd tk (sax_v 1 sax_nil)) (sa_cons (se_ix persD persD (SF.se (sf_lst (sa_cons (se_call (ok__law_odd_row T) (hr.mono (by decide)) T.d__law_odd_row.mg T.d__law_odd_row.kp T.d__law_odd_row.bd tk (sax_v 1 sax_nil)) (sa_cons (se_op op_mulA bin_mul persD persD (se_tup (sa_cons se_int sa_nil)) se_int) sa_nil)))) (se_call (ok__law_take T) (hr.mono (by decide)) T.d__law_take.mg T.d__law_take.kp T.d__law_take.bd tk (sax_v 1 (sax_d se_int sax_nil)))) sa_nil))) (sg_tup rfl (sgs_cons (sg_name 12 sc_law.nd (hx := by first | exact .inl rfl | exact .inr rfl)) (sgs_cons (sg_name 13 sc_law.nd (hx := by first | exact .inl rfl | exact .inr rfl)) sgs_nil))))
  (sss_cons (ss_asg (se_tup (sa_cons (se_ix persD persD (SF.se (sf_lst (sa_cons se_non (sa_cons (se_neg se_int) (sa_cons se_int (sa_cons se_bl (sa_cons se_str sa_nil))))))) (se_call (ok__law_take T) (hr.mono (by decide)) T.d__law_take.mg T.d__law_take.kp T.d__law_take.bd tk (sax_v 1 (sax_d se_int sax_nil)))) (sa_cons (se_ix persD persD (SF.se (sf_lst (sa_cons se_non (sa_cons (se_neg se_int) (sa_cons se_int (sa_cons se_bl (sa_cons se_str sa_nil))))))) (se_call (ok__law_take T) (hr.mono (by decide)) T.d__law_take.mg T.d__law_take.kp T.d__law_take.bd tk (sax_v 1 (sax_d se_int sax_nil)))) sa_nil))) (sg_tup rfl (sgs_cons (sg_name 14 sc_law.nd (hx := by first | exact .inl rfl | exact .inr rfl)) (sgs_cons (sg_name 15 sc_law.nd (hx := by first | exact .inl rfl | exact .inr rfl)) sgs_nil))))
  (sss_cons (ss_set 16 sc_law.nd (se_op op_addA bin_add persD persD (SF.se (sf_comp (own := [("which", 19)]) (is := [19]) rfl sc_law.nd (si_rng1 T.n_range se_int) (blkOk_by (by kernel_rfl)) (by decide) (fun _ _ _ _ _ => (sg_name 19 sc_law.nd (hx := by first | exact .inl rfl | exact .inr rfl))) (fun _ _ _ _ _ => sts_nil) (fun _ _ _ _ _ => (se_call (ok__law_told T) (hr.mono (by decide)) T.d__law_told.mg T.d__law_told.kp T.d__law_told.bd takes0 (sax_d (se_var 19) (sax_d (se_var 12) (sax_d se_int (sax_d (se_tup (sa_cons se_int sa_nil)) sax_nil)))))))) (SF.se (sf_comp (own := [("which", 19)]) (is := [19]) rfl sc_law.nd (si_seq (se_tup (sa_cons se_int (sa_cons se_int sa_nil)))) (blkOk_by (by kernel_rfl)) (by decide) (fun _ _ _ _ _ => (sg_name 19 sc_law.nd (hx := by first | exact .inl rfl | exact .inr rfl))) (fun _ _ _ _ _ => sts_nil) (fun _ _ _ _ _ => (se_call (ok__law_told T) (hr.mono (by decide)) T.d__law_told.mg T.d__law_told.kp T.d__law_told.bd takes0 (sax_d (se_var 19) (sax_d (se_var 3) (sax_d se_int (sax_d (se_var 13) sax_nil))))))))) (hx := by first | exact .inl rfl | exact .inr rfl))
  (sss_one (ss_ret (se_cmp (op_eqD hu4) bin_eq persD persD (se_op op_addA bin_add persD persD (se_op op_addA bin_add persD persD (se_var 16) (SF.se (sf_comp (own := [("which", 19)]) (is := [19]) rfl sc_law.nd (si_seq (se_tup (sa_cons se_int (sa_cons se_int sa_nil)))) (blkOk_by (by kernel_rfl)) (by decide) (fun _ _ _ _ _ => (sg_name 19 sc_law.nd (hx := by first | exact .inl rfl | exact .inr rfl))) (fun _ _ _ _ _ => sts_nil) (fun _ _ _ _ _ => (se_call (ok__law_told T) (hr.mono (by decide)) T.d__law_told.mg T.d__law_told.kp T.d__law_told.bd takes0 (sax_d (se_var 19) (sax_d (se_var 3) (sax_d (se_var 14) (sax_d (se_tup sa_nil) sax_nil))))))))) (SF.se (sf_lst (sa_cons (se_call (ok__law_told T) (hr.mono (by decide)) T.d__law_told.mg T.d__law_told.kp T.d__law_told.bd tk (sax_d se_int (sax_d (se_var 3) (sax_d (se_var 15) (sax_d (se_tup sa_nil) sax_nil))))) sa_nil)))) (se_op op_mulA bin_mul persD persD (SF.se (sf_lst (sa_cons se_str sa_nil))) se_int) (by rfl)))))))) (hx := by first | exact .inl rfl | exact .inr rfl))
end
set_option maxHeartbeats 4000000 in
theorem all_mk {P : Program} {w : World} {K : PySem.W.Frag} {h : Heap} {mg : Str → Option Value} {fa : Addr} (ans : ∀ ns : List Int, ns.length ≤ 63 → runB 20 1 false m_law [.scr ns] none = some (.ok (.bool true), none)) (X : K.In h) (G : h.Ns mainGlobals mg) (hfa : mg "law" = some (.ref fa))
    {f0 : Addr} {od0 an0 : Option Addr} {sl0 : Array (Option Value)} {oc0 kV0 dc0 pm0 cd0 ct0 : Value} {f1 : Addr} {od1 an1 : Option Addr} {sl1 : Array (Option Value)} {oc1 kV1 dc1 pm1 cd1 ct1 : Value} {f2 : Addr} {od2 an2 : Option Addr} {sl2 : Array (Option Value)} {oc2 kV2 dc2 pm2 cd2 ct2 : Value} {f3 : Addr} {od3 an3 : Option Addr} {sl3 : Array (Option Value)} {oc3 kV3 dc3 pm3 cd3 ct3 : Value} {f4 : Addr} {od4 an4 : Option Addr} {sl4 : Array (Option Value)} {oc4 kV4 dc4 pm4 cd4 ct4 : Value} {f5 : Addr} {od5 an5 : Option Addr} {sl5 : Array (Option Value)} {oc5 kV5 dc5 pm5 cd5 ct5 : Value} {f6 : Addr} {od6 an6 : Option Addr} {sl6 : Array (Option Value)} {oc6 kV6 dc6 pm6 cd6 ct6 : Value} {f7 : Addr} {od7 an7 : Option Addr} {sl7 : Array (Option Value)} {oc7 kV7 dc7 pm7 cd7 ct7 : Value} {f8 : Addr} {od8 an8 : Option Addr} {sl8 : Array (Option Value)} {oc8 kV8 dc8 pm8 cd8 ct8 : Value} {f9 : Addr} {od9 an9 : Option Addr} {sl9 : Array (Option Value)} {oc9 kV9 dc9 pm9 cd9 ct9 : Value} {f10 : Addr} {od10 an10 : Option Addr} {sl10 : Array (Option Value)} {oc10 kV10 dc10 pm10 cd10 ct10 : Value} {f11 : Addr} {od11 an11 : Option Addr} {sl11 : Array (Option Value)} {oc11 kV11 dc11 pm11 cd11 ct11 : Value} {f12 : Addr} {od12 an12 : Option Addr} {sl12 : Array (Option Value)} {oc12 kV12 dc12 pm12 cd12 ct12 : Value} {f13 : Addr} {od13 an13 : Option Addr} {sl13 : Array (Option Value)} {oc13 kV13 dc13 pm13 cd13 ct13 : Value} {f14 : Addr} {od14 an14 : Option Addr} {sl14 : Array (Option Value)} {oc14 kV14 dc14 pm14 cd14 ct14 : Value} {f15 : Addr} {od15 an15 : Option Addr} {sl15 : Array (Option Value)} {oc15 kV15 dc15 pm15 cd15 ct15 : Value} {f16 : Addr} {od16 an16 : Option Addr} {sl16 : Array (Option Value)} {oc16 kV16 dc16 pm16 cd16 ct16 : Value} {f17 : Addr} {od17 an17 : Option Addr} {sl17 : Array (Option Value)} {oc17 kV17 dc17 pm17 cd17 ct17 : Value} {f18 : Addr} {od18 an18 : Option Addr} {sl18 : Array (Option Value)} {oc18 kV18 dc18 pm18 cd18 ct18 : Value} {f19 : Addr} {od19 an19 : Option Addr} {sl19 : Array (Option Value)} {oc19 kV19 dc19 pm19 cd19 ct19 : Value} {f20 : Addr} {od20 an20 : Option Addr} {sl20 : Array (Option Value)} {oc20 kV20 dc20 pm20 cd20 ct20 : Value} {f21 : Addr} {od21 an21 : Option Addr} {sl21 : Array (Option Value)} {oc21 kV21 dc21 pm21 cd21 ct21 : Value} {f22 : Addr} {od22 an22 : Option Addr} {sl22 : Array (Option Value)} {oc22 kV22 dc22 pm22 cd22 ct22 : Value} {f23 : Addr} {od23 an23 : Option Addr} {sl23 : Array (Option Value)} {oc23 kV23 dc23 pm23 cd23 ct23 : Value} {f24 : Addr} {od24 an24 : Option Addr} {sl24 : Array (Option Value)} {oc24 kV24 dc24 pm24 cd24 ct24 : Value} {f25 : Addr} {od25 an25 : Option Addr} {sl25 : Array (Option Value)} {oc25 kV25 dc25 pm25 cd25 ct25 : Value} {f26 : Addr} {od26 an26 : Option Addr} {sl26 : Array (Option Value)} {oc26 kV26 dc26 pm26 cd26 ct26 : Value} {t0 : Tok} {t1 : Tok} {q2 : Addr} {t2_0 t2_1 : Tok} {n2 : Nat} {s2 : Array (Option Value)} {t3 : Tok} {t4 : Tok} {cm : Addr}
    (a0 : PySem.W.nsIn K mainGlobals "_law_draw" = some (some (.ref f0))) (l0 : K.lookup f0 = some ⟨oc0, od0, .func (PySem.W.fnOf "_law_draw" "_law_draw" (defArgs s__law_draw) (defBody s__law_draw) (defScope s__law_draw) .none kV0 dc0 pm0 an0 cd0 ct0), sl0⟩) (c0 : PySem.W.codeIn K cd0 "_law_draw" = true) (k0 : PySem.W.keepIn K (.ref f0) = true)
    (a1 : PySem.W.nsIn K mainGlobals "_law_walk" = some (some (.ref f1))) (l1 : K.lookup f1 = some ⟨oc1, od1, .func (PySem.W.fnOf "_law_walk" "_law_walk" (defArgs s__law_walk) (defBody s__law_walk) (defScope s__law_walk) .none kV1 dc1 pm1 an1 cd1 ct1), sl1⟩) (c1 : PySem.W.codeIn K cd1 "_law_walk" = true) (k1 : PySem.W.keepIn K (.ref f1) = true)
    (a2 : PySem.W.nsIn K mainGlobals "_law_turn" = some (some (.ref f2))) (l2 : K.lookup f2 = some ⟨oc2, od2, .func (PySem.W.fnOf "_law_turn" "_law_turn" (defArgs s__law_turn) (defBody s__law_turn) (defScope s__law_turn) .none kV2 dc2 pm2 an2 cd2 ct2), sl2⟩) (c2 : PySem.W.codeIn K cd2 "_law_turn" = true) (k2 : PySem.W.keepIn K (.ref f2) = true)
    (a3 : PySem.W.nsIn K mainGlobals "_law_take" = some (some (.ref f3))) (l3 : K.lookup f3 = some ⟨oc3, od3, .func (PySem.W.fnOf "_law_take" "_law_take" (defArgs s__law_take) (defBody s__law_take) (defScope s__law_take) .none kV3 dc3 pm3 an3 cd3 ct3), sl3⟩) (c3 : PySem.W.codeIn K cd3 "_law_take" = true) (k3 : PySem.W.keepIn K (.ref f3) = true)
    (a4 : PySem.W.nsIn K mainGlobals "_law_odd_box" = some (some (.ref f4))) (l4 : K.lookup f4 = some ⟨oc4, od4, .func (PySem.W.fnOf "_law_odd_box" "_law_odd_box" (defArgs s__law_odd_box) (defBody s__law_odd_box) (defScope s__law_odd_box) .none kV4 dc4 pm4 an4 cd4 ct4), sl4⟩) (c4 : PySem.W.codeIn K cd4 "_law_odd_box" = true) (k4 : PySem.W.keepIn K (.ref f4) = true)
    (a5 : PySem.W.nsIn K mainGlobals "_law_order" = some (some (.ref f5))) (l5 : K.lookup f5 = some ⟨oc5, od5, .func (PySem.W.fnOf "_law_order" "_law_order" (defArgs s__law_order) (defBody s__law_order) (defScope s__law_order) .none kV5 dc5 pm5 an5 cd5 ct5), sl5⟩) (c5 : PySem.W.codeIn K cd5 "_law_order" = true) (k5 : PySem.W.keepIn K (.ref f5) = true)
    (a6 : PySem.W.nsIn K mainGlobals "_law_box" = some (some (.ref f6))) (l6 : K.lookup f6 = some ⟨oc6, od6, .func (PySem.W.fnOf "_law_box" "_law_box" (defArgs s__law_box) (defBody s__law_box) (defScope s__law_box) .none kV6 dc6 pm6 an6 cd6 ct6), sl6⟩) (c6 : PySem.W.codeIn K cd6 "_law_box" = true) (k6 : PySem.W.keepIn K (.ref f6) = true)
    (a7 : PySem.W.nsIn K mainGlobals "_law_row" = some (some (.ref f7))) (l7 : K.lookup f7 = some ⟨oc7, od7, .func (PySem.W.fnOf "_law_row" "_law_row" (defArgs s__law_row) (defBody s__law_row) (defScope s__law_row) .none kV7 dc7 pm7 an7 cd7 ct7), sl7⟩) (c7 : PySem.W.codeIn K cd7 "_law_row" = true) (k7 : PySem.W.keepIn K (.ref f7) = true)
    (a8 : PySem.W.nsIn K mainGlobals "is_whole" = some (some (.ref f8))) (l8 : K.lookup f8 = some ⟨oc8, od8, .func (PySem.W.fnOf "is_whole" "is_whole" (defArgs s_is_whole) (defBody s_is_whole) (defScope s_is_whole) .none kV8 dc8 pm8 an8 cd8 ct8), sl8⟩) (c8 : PySem.W.codeIn K cd8 "is_whole" = true) (k8 : PySem.W.keepIn K (.ref f8) = true)
    (a9 : PySem.W.nsIn K mainGlobals "is_move" = some (some (.ref f9))) (l9 : K.lookup f9 = some ⟨oc9, od9, .func (PySem.W.fnOf "is_move" "is_move" (defArgs s_is_move) (defBody s_is_move) (defScope s_is_move) .none kV9 dc9 pm9 an9 cd9 ct9), sl9⟩) (c9 : PySem.W.codeIn K cd9 "is_move" = true) (k9 : PySem.W.keepIn K (.ref f9) = true)
    (a10 : PySem.W.nsIn K mainGlobals "is_box" = some (some (.ref f10))) (l10 : K.lookup f10 = some ⟨oc10, od10, .func (PySem.W.fnOf "is_box" "is_box" (defArgs s_is_box) (defBody s_is_box) (defScope s_is_box) .none kV10 dc10 pm10 an10 cd10 ct10), sl10⟩) (c10 : PySem.W.codeIn K cd10 "is_box" = true) (k10 : PySem.W.keepIn K (.ref f10) = true)
    (a11 : PySem.W.nsIn K mainGlobals "check_box" = some (some (.ref f11))) (l11 : K.lookup f11 = some ⟨oc11, od11, .func (PySem.W.fnOf "check_box" "check_box" (defArgs s_check_box) (defBody s_check_box) (defScope s_check_box) .none kV11 dc11 pm11 an11 cd11 ct11), sl11⟩) (c11 : PySem.W.codeIn K cd11 "check_box" = true) (k11 : PySem.W.keepIn K (.ref f11) = true)
    (a12 : PySem.W.nsIn K mainGlobals "check_length" = some (some (.ref f12))) (l12 : K.lookup f12 = some ⟨oc12, od12, .func (PySem.W.fnOf "check_length" "check_length" (defArgs s_check_length) (defBody s_check_length) (defScope s_check_length) .none kV12 dc12 pm12 an12 cd12 ct12), sl12⟩) (c12 : PySem.W.codeIn K cd12 "check_length" = true) (k12 : PySem.W.keepIn K (.ref f12) = true)
    (a13 : PySem.W.nsIn K mainGlobals "all_rows" = some (some (.ref f13))) (l13 : K.lookup f13 = some ⟨oc13, od13, .func (PySem.W.fnOf "all_rows" "all_rows" (defArgs s_all_rows) (defBody s_all_rows) (defScope s_all_rows) .none kV13 dc13 pm13 an13 cd13 ct13), sl13⟩) (c13 : PySem.W.codeIn K cd13 "all_rows" = true) (k13 : PySem.W.keepIn K (.ref f13) = true)
    (a14 : PySem.W.nsIn K mainGlobals "walk" = some (some (.ref f14))) (l14 : K.lookup f14 = some ⟨oc14, od14, .func (PySem.W.fnOf "walk" "walk" (defArgs s_walk) (defBody s_walk) (defScope s_walk) .none kV14 dc14 pm14 an14 cd14 ct14), sl14⟩) (c14 : PySem.W.codeIn K cd14 "walk" = true) (k14 : PySem.W.keepIn K (.ref f14) = true)
    (a15 : PySem.W.nsIn K mainGlobals "found_turn" = some (some (.ref f15))) (l15 : K.lookup f15 = some ⟨oc15, od15, .func (PySem.W.fnOf "found_turn" "found_turn" (defArgs s_found_turn) (defBody s_found_turn) (defScope s_found_turn) .none kV15 dc15 pm15 an15 cd15 ct15), sl15⟩) (c15 : PySem.W.codeIn K cd15 "found_turn" = true) (k15 : PySem.W.keepIn K (.ref f15) = true)
    (a16 : PySem.W.nsIn K mainGlobals "back_count" = some (some (.ref f16))) (l16 : K.lookup f16 = some ⟨oc16, od16, .func (PySem.W.fnOf "back_count" "back_count" (defArgs s_back_count) (defBody s_back_count) (defScope s_back_count) .none kV16 dc16 pm16 an16 cd16 ct16), sl16⟩) (c16 : PySem.W.codeIn K cd16 "back_count" = true) (k16 : PySem.W.keepIn K (.ref f16) = true)
    (a17 : PySem.W.nsIn K mainGlobals "is_short" = some (some (.ref f17))) (l17 : K.lookup f17 = some ⟨oc17, od17, .func (PySem.W.fnOf "is_short" "is_short" (defArgs s_is_short) (defBody s_is_short) (defScope s_is_short) .none kV17 dc17 pm17 an17 cd17 ct17), sl17⟩) (c17 : PySem.W.codeIn K cd17 "is_short" = true) (k17 : PySem.W.keepIn K (.ref f17) = true)
    (a18 : PySem.W.nsIn K mainGlobals "check_row" = some (some (.ref f18))) (l18 : K.lookup f18 = some ⟨oc18, od18, .func (PySem.W.fnOf "check_row" "check_row" (defArgs s_check_row) (defBody s_check_row) (defScope s_check_row) .none kV18 dc18 pm18 an18 cd18 ct18), sl18⟩) (c18 : PySem.W.codeIn K cd18 "check_row" = true) (k18 : PySem.W.keepIn K (.ref f18) = true)
    (a19 : PySem.W.nsIn K mainGlobals "behind_copies" = some (some (.ref f19))) (l19 : K.lookup f19 = some ⟨oc19, od19, .func (PySem.W.fnOf "behind_copies" "behind_copies" (defArgs s_behind_copies) (defBody s_behind_copies) (defScope s_behind_copies) .none kV19 dc19 pm19 an19 cd19 ct19), sl19⟩) (c19 : PySem.W.codeIn K cd19 "behind_copies" = true) (k19 : PySem.W.keepIn K (.ref f19) = true)
    (a20 : PySem.W.nsIn K mainGlobals "row_turn" = some (some (.ref f20))) (l20 : K.lookup f20 = some ⟨oc20, od20, .func (PySem.W.fnOf "row_turn" "row_turn" (defArgs s_row_turn) (defBody s_row_turn) (defScope s_row_turn) .none kV20 dc20 pm20 an20 cd20 ct20), sl20⟩) (c20 : PySem.W.codeIn K cd20 "row_turn" = true) (k20 : PySem.W.keepIn K (.ref f20) = true)
    (a21 : PySem.W.nsIn K mainGlobals "whole_turn" = some (some (.ref f21))) (l21 : K.lookup f21 = some ⟨oc21, od21, .func (PySem.W.fnOf "whole_turn" "whole_turn" (defArgs s_whole_turn) (defBody s_whole_turn) (defScope s_whole_turn) .none kV21 dc21 pm21 an21 cd21 ct21), sl21⟩) (c21 : PySem.W.codeIn K cd21 "whole_turn" = true) (k21 : PySem.W.keepIn K (.ref f21) = true)
    (a22 : PySem.W.nsIn K mainGlobals "_law_told" = some (some (.ref f22))) (l22 : K.lookup f22 = some ⟨oc22, od22, .func (PySem.W.fnOf "_law_told" "_law_told" (defArgs s__law_told) (defBody s__law_told) (defScope s__law_told) .none kV22 dc22 pm22 an22 cd22 ct22), sl22⟩) (c22 : PySem.W.codeIn K cd22 "_law_told" = true) (k22 : PySem.W.keepIn K (.ref f22) = true)
    (a23 : PySem.W.nsIn K mainGlobals "_law_behind" = some (some (.ref f23))) (l23 : K.lookup f23 = some ⟨oc23, od23, .func (PySem.W.fnOf "_law_behind" "_law_behind" (defArgs s__law_behind) (defBody s__law_behind) (defScope s__law_behind) .none kV23 dc23 pm23 an23 cd23 ct23), sl23⟩) (c23 : PySem.W.codeIn K cd23 "_law_behind" = true) (k23 : PySem.W.keepIn K (.ref f23) = true)
    (a24 : PySem.W.nsIn K mainGlobals "_law_rows" = some (some (.ref f24))) (l24 : K.lookup f24 = some ⟨oc24, od24, .func (PySem.W.fnOf "_law_rows" "_law_rows" (defArgs s__law_rows) (defBody s__law_rows) (defScope s__law_rows) .none kV24 dc24 pm24 an24 cd24 ct24), sl24⟩) (c24 : PySem.W.codeIn K cd24 "_law_rows" = true) (k24 : PySem.W.keepIn K (.ref f24) = true)
    (a25 : PySem.W.nsIn K mainGlobals "_law_odd_row" = some (some (.ref f25))) (l25 : K.lookup f25 = some ⟨oc25, od25, .func (PySem.W.fnOf "_law_odd_row" "_law_odd_row" (defArgs s__law_odd_row) (defBody s__law_odd_row) (defScope s__law_odd_row) .none kV25 dc25 pm25 an25 cd25 ct25), sl25⟩) (c25 : PySem.W.codeIn K cd25 "_law_odd_row" = true) (k25 : PySem.W.keepIn K (.ref f25) = true)
    (a26 : PySem.W.nsIn K mainGlobals "law" = some (some (.ref f26))) (l26 : K.lookup f26 = some ⟨oc26, od26, .func (PySem.W.fnOf "law" "law" (defArgs s_law) (defBody s_law) (defScope s_law) .none kV26 dc26 pm26 an26 cd26 ct26), sl26⟩) (c26 : PySem.W.codeIn K cd26 "law" = true) (k26 : PySem.W.keepIn K (.ref f26) = true)
    (z0 : PySem.W.nsIn K mainGlobals "abs" = some none)
    (z1 : PySem.W.nsIn K mainGlobals "all" = some none)
    (z2 : PySem.W.nsIn K mainGlobals "bool" = some none)
    (z3 : PySem.W.nsIn K mainGlobals "int" = some none)
    (z4 : PySem.W.nsIn K mainGlobals "isinstance" = some none)
    (z5 : PySem.W.nsIn K mainGlobals "len" = some none)
    (z6 : PySem.W.nsIn K mainGlobals "list" = some none)
    (z7 : PySem.W.nsIn K mainGlobals "max" = some none)
    (z8 : PySem.W.nsIn K mainGlobals "range" = some none)
    (z9 : PySem.W.nsIn K mainGlobals "repr" = some none)
    (z10 : PySem.W.nsIn K mainGlobals "sorted" = some none)
    (z11 : PySem.W.nsIn K mainGlobals "tuple" = some none)
    (g0 : PySem.W.nsIn K mainGlobals "MOST_STATES" = some (some (.int 5 t0)))
    (g1 : PySem.W.nsIn K mainGlobals "MOST_LENGTH" = some (some (.int 6 t1)))
    (g2 : PySem.W.nsIn K mainGlobals "INPUTS" = some (some (.ref q2))) (h2 : K.lookup q2 = some ⟨.type "tuple", none, .seq #[.int 0 t2_0, .int 1 t2_1] n2, s2⟩)
    (g3 : PySem.W.nsIn K mainGlobals "MOST_INPUTS" = some (some (.int 16 t3)))
    (g4 : PySem.W.nsIn K mainGlobals "MOST_COPIES" = some (some (.int 40 t4)))
    (xg : PySem.W.nsIn K mainGlobals "Malformed" = some (some (.ref cm))) (xq : PySem.W.excIn K cm [.type "ValueError", .type "Exception", .type "BaseException", .type "object"] "ValueError.__new__" = true) (xk : PySem.W.keepIn K (.ref cm) = true) (xb : PySem.W.subIn K (.ref cm) (.type "BaseException") = some true) (xt : PySem.W.typeIn K (.ref cm) = some (.type "type")) (xi : PySem.W.isClsIn K cm = true) (xs : PySem.W.subIn K (.ref cm) (.ref cm) = some true)
    : ∃ C st N fd m, LawTxt P w K mg fa 8 C st N fd m := by
  have e := hfa.symm.trans (PySem.W.mg_of X G a26)
  cases e
  have F0 := fun_mk (st := s__law_draw) l0 c0 k0
  have F1 := fun_mk (st := s__law_walk) l1 c1 k1
  have F2 := fun_mk (st := s__law_turn) l2 c2 k2
  have F3 := fun_mk (st := s__law_take) l3 c3 k3
  have F4 := fun_mk (st := s__law_odd_box) l4 c4 k4
  have F5 := fun_mk (st := s__law_order) l5 c5 k5
  have F6 := fun_mk (st := s__law_box) l6 c6 k6
  have F7 := fun_mk (st := s__law_row) l7 c7 k7
  have F8 := fun_mk (st := s_is_whole) l8 c8 k8
  have F9 := fun_mk (st := s_is_move) l9 c9 k9
  have F10 := fun_mk (st := s_is_box) l10 c10 k10
  have F11 := fun_mk (st := s_check_box) l11 c11 k11
  have F12 := fun_mk (st := s_check_length) l12 c12 k12
  have F13 := fun_mk (st := s_all_rows) l13 c13 k13
  have F14 := fun_mk (st := s_walk) l14 c14 k14
  have F15 := fun_mk (st := s_found_turn) l15 c15 k15
  have F16 := fun_mk (st := s_back_count) l16 c16 k16
  have F17 := fun_mk (st := s_is_short) l17 c17 k17
  have F18 := fun_mk (st := s_check_row) l18 c18 k18
  have F19 := fun_mk (st := s_behind_copies) l19 c19 k19
  have F20 := fun_mk (st := s_row_turn) l20 c20 k20
  have F21 := fun_mk (st := s_whole_turn) l21 c21 k21
  have F22 := fun_mk (st := s__law_told) l22 c22 k22
  have F23 := fun_mk (st := s__law_behind) l23 c23 k23
  have F24 := fun_mk (st := s__law_rows) l24 c24 k24
  have F25 := fun_mk (st := s__law_odd_row) l25 c25 k25
  have F26 := fun_mk (st := s_law) l26 c26 k26
  have T : Tx K mg { f__law_draw := f0, fd__law_draw := _, f__law_walk := f1, fd__law_walk := _, f__law_turn := f2, fd__law_turn := _, f__law_take := f3, fd__law_take := _, f__law_odd_box := f4, fd__law_odd_box := _, f__law_order := f5, fd__law_order := _, f__law_box := f6, fd__law_box := _, f__law_row := f7, fd__law_row := _, f_is_whole := f8, fd_is_whole := _, f_is_move := f9, fd_is_move := _, f_is_box := f10, fd_is_box := _, f_check_box := f11, fd_check_box := _, f_check_length := f12, fd_check_length := _, f_all_rows := f13, fd_all_rows := _, f_walk := f14, fd_walk := _, f_found_turn := f15, fd_found_turn := _, f_back_count := f16, fd_back_count := _, f_is_short := f17, fd_is_short := _, f_check_row := f18, fd_check_row := _, f_behind_copies := f19, fd_behind_copies := _, f_row_turn := f20, fd_row_turn := _, f_whole_turn := f21, fd_whole_turn := _, f__law_told := f22, fd__law_told := _, f__law_behind := f23, fd__law_behind := _, f__law_rows := f24, fd__law_rows := _, f__law_odd_row := f25, fd__law_odd_row := _, f_law := fa, fd_law := _, c := ⟨cm, cm, cm⟩ } := {
    d__law_draw := ⟨F0, PySem.W.mg_of X G a0, k0, F0.binds (ps := ["script"]) fun _ _ _ _ _ _ us hl => match us, hl with | [_], _ => rfl⟩
    d__law_walk := ⟨F1, PySem.W.mg_of X G a1, k1, F1.binds (ps := ["box", "state", "row"]) fun _ _ _ _ _ _ us hl => match us, hl with | [_, _, _], _ => rfl⟩
    d__law_turn := ⟨F2, PySem.W.mg_of X G a2, k2, F2.binds (ps := ["box", "row"]) fun _ _ _ _ _ _ us hl => match us, hl with | [_, _], _ => rfl⟩
    d__law_take := ⟨F3, PySem.W.mg_of X G a3, k3, F3.binds (ps := ["draw", "many"]) fun _ _ _ _ _ _ us hl => match us, hl with | [_, _], _ => rfl⟩
    d__law_odd_box := ⟨F4, PySem.W.mg_of X G a4, k4, F4.binds (ps := ["draw"]) fun _ _ _ _ _ _ us hl => match us, hl with | [_], _ => rfl⟩
    d__law_order := ⟨F5, PySem.W.mg_of X G a5, k5, F5.binds (ps := ["draw", "many"]) fun _ _ _ _ _ _ us hl => match us, hl with | [_, _], _ => rfl⟩
    d__law_box := ⟨F6, PySem.W.mg_of X G a6, k6, F6.binds (ps := ["draw", "most"]) fun _ _ _ _ _ _ us hl => match us, hl with | [_, _], _ => rfl⟩
    d__law_row := ⟨F7, PySem.W.mg_of X G a7, k7, F7.binds (ps := ["draw", "most"]) fun _ _ _ _ _ _ us hl => match us, hl with | [_, _], _ => rfl⟩
    d_is_whole := ⟨F8, PySem.W.mg_of X G a8, k8, F8.binds (ps := ["value"]) fun _ _ _ _ _ _ us hl => match us, hl with | [_], _ => rfl⟩
    d_is_move := ⟨F9, PySem.W.mg_of X G a9, k9, F9.binds (ps := ["value", "many"]) fun _ _ _ _ _ _ us hl => match us, hl with | [_, _], _ => rfl⟩
    d_is_box := ⟨F10, PySem.W.mg_of X G a10, k10, F10.binds (ps := ["value"]) fun _ _ _ _ _ _ us hl => match us, hl with | [_], _ => rfl⟩
    d_check_box := ⟨F11, PySem.W.mg_of X G a11, k11, F11.binds (ps := ["value"]) fun _ _ _ _ _ _ us hl => match us, hl with | [_], _ => rfl⟩
    d_check_length := ⟨F12, PySem.W.mg_of X G a12, k12, F12.binds (ps := ["box", "length"]) fun _ _ _ _ _ _ us hl => match us, hl with | [_, _], _ => rfl⟩
    d_all_rows := ⟨F13, PySem.W.mg_of X G a13, k13, F13.binds (ps := ["length"]) fun _ _ _ _ _ _ us hl => match us, hl with | [_], _ => rfl⟩
    d_walk := ⟨F14, PySem.W.mg_of X G a14, k14, F14.binds (ps := ["box", "state", "row"]) fun _ _ _ _ _ _ us hl => match us, hl with | [_, _, _], _ => rfl⟩
    d_found_turn := ⟨F15, PySem.W.mg_of X G a15, k15, F15.binds (ps := ["box", "row"]) fun _ _ _ _ _ _ us hl => match us, hl with | [_, _], _ => rfl⟩
    d_back_count := ⟨F16, PySem.W.mg_of X G a16, k16, F16.binds (ps := ["box", "length"]) fun _ _ _ _ _ _ us hl => match us, hl with | [_, _], _ => rfl⟩
    d_is_short := ⟨F17, PySem.W.mg_of X G a17, k17, F17.binds (ps := ["value", "most"]) fun _ _ _ _ _ _ us hl => match us, hl with | [_, _], _ => rfl⟩
    d_check_row := ⟨F18, PySem.W.mg_of X G a18, k18, F18.binds (ps := ["box", "row"]) fun _ _ _ _ _ _ us hl => match us, hl with | [_, _], _ => rfl⟩
    d_behind_copies := ⟨F19, PySem.W.mg_of X G a19, k19, F19.binds (ps := ["box", "n", "row"]) fun _ _ _ _ _ _ us hl => match us, hl with | [_, _, _], _ => rfl⟩
    d_row_turn := ⟨F20, PySem.W.mg_of X G a20, k20, F20.binds (ps := ["box", "row"]) fun _ _ _ _ _ _ us hl => match us, hl with | [_, _], _ => rfl⟩
    d_whole_turn := ⟨F21, PySem.W.mg_of X G a21, k21, F21.binds (ps := ["box", "length"]) fun _ _ _ _ _ _ us hl => match us, hl with | [_, _], _ => rfl⟩
    d__law_told := ⟨F22, PySem.W.mg_of X G a22, k22, F22.binds (ps := ["which", "box", "n", "row"]) fun _ _ _ _ _ _ us hl => match us, hl with | [_, _, _, _], _ => rfl⟩
    d__law_behind := ⟨F23, PySem.W.mg_of X G a23, k23, F23.binds (ps := ["box", "n", "row"]) fun _ _ _ _ _ _ us hl => match us, hl with | [_, _, _], _ => rfl⟩
    d__law_rows := ⟨F24, PySem.W.mg_of X G a24, k24, F24.binds (ps := ["length"]) fun _ _ _ _ _ _ us hl => match us, hl with | [_], _ => rfl⟩
    d__law_odd_row := ⟨F25, PySem.W.mg_of X G a25, k25, F25.binds (ps := ["draw"]) fun _ _ _ _ _ _ us hl => match us, hl with | [_], _ => rfl⟩
    d_law := ⟨F26, PySem.W.mg_of X G a26, k26, F26.binds (ps := ["script"]) fun _ _ _ _ _ _ us hl => match us, hl with | [_], _ => rfl⟩
    n_abs := PySem.W.mg_none_of X G z0
    n_all := PySem.W.mg_none_of X G z1
    n_bool := PySem.W.mg_none_of X G z2
    n_int := PySem.W.mg_none_of X G z3
    n_isinstance := PySem.W.mg_none_of X G z4
    n_len := PySem.W.mg_none_of X G z5
    n_list := PySem.W.mg_none_of X G z6
    n_max := PySem.W.mg_none_of X G z7
    n_range := PySem.W.mg_none_of X G z8
    n_repr := PySem.W.mg_none_of X G z9
    n_sorted := PySem.W.mg_none_of X G z10
    n_tuple := PySem.W.mg_none_of X G z11
    g_MOST_STATES := ⟨_, .int 5, PySem.W.mg_of X G g0, ⟨_, rfl⟩, fun _ _ => .int _⟩
    g_MOST_LENGTH := ⟨_, .int 6, PySem.W.mg_of X G g1, ⟨_, rfl⟩, fun _ _ => .int _⟩
    g_INPUTS := ⟨_, q2, PySem.W.mg_of X G g2, rfl, fun _ => .inr ⟨_, _, _, h2, rfl, rfl, Nat.le_trans (show 2 ≤ 16777216 by decide) (Nat.le_of_eq sizeLine_eq.symm), (.cons ⟨_, rfl⟩ (.cons ⟨_, rfl⟩ .nil))⟩⟩
    g_MOST_INPUTS := ⟨_, .int 16, PySem.W.mg_of X G g3, ⟨_, rfl⟩, fun _ _ => .int _⟩
    g_MOST_COPIES := ⟨_, .int 40, PySem.W.mg_of X G g4, ⟨_, rfl⟩, fun _ _ => .int _⟩
    x_m := ⟨PySem.W.mg_of X G xg, xq, xk, fun {Y} e => raises_own (by rw [e]; exact xb) (by rw [e]; exact xt), fun y cls d H q => by cases y <;> (obtain ⟨rfl, _⟩ := q; exact exm_own xb xi xt xs)⟩
  }
  exact ⟨_, s_law, _, _, m_law, T.d_law.fn, sc_law, fun s v => .of_eq rfl, body_law T, ans⟩
end Lw

open PySem PySem.W PyProof.Rows
set_option maxRecDepth 100000 in
set_option maxHeartbeats 0 in
theorem PySem.Challenge.cw_boxkinds_k69_whole_rows_behind_copies_holds : PySem.Challenge.rw_boxkinds_k69_whole_rows_behind_copies.Holds := by
  w_on; o_law; k_head; (case hw => w_witness2)
  k_fill
  refine DL.walk_law (l := PySem.Challenge.rw_boxkinds_k69_whole_rows_behind_copies) (k := 8) rfl rfl ⟨rfl, by decide, by decide⟩ (fun w h Y => PySem.W.kIn_of Y) ?F
  case F =>
    intro w mg fa h KX G hmg
    refine' Lw.all_mk Lw.ans KX G hmg ?va0 ?vl0 ?vc0 ?vk0 ?va1 ?vl1 ?vc1 ?vk1 ?va2 ?vl2 ?vc2 ?vk2 ?va3 ?vl3 ?vc3 ?vk3 ?va4 ?vl4 ?vc4 ?vk4 ?va5 ?vl5 ?vc5 ?vk5 ?va6 ?vl6 ?vc6 ?vk6 ?va7 ?vl7 ?vc7 ?vk7 ?va8 ?vl8 ?vc8 ?vk8 ?va9 ?vl9 ?vc9 ?vk9 ?va10 ?vl10 ?vc10 ?vk10 ?va11 ?vl11 ?vc11 ?vk11 ?va12 ?vl12 ?vc12 ?vk12 ?va13 ?vl13 ?vc13 ?vk13 ?va14 ?vl14 ?vc14 ?vk14 ?va15 ?vl15 ?vc15 ?vk15 ?va16 ?vl16 ?vc16 ?vk16 ?va17 ?vl17 ?vc17 ?vk17 ?va18 ?vl18 ?vc18 ?vk18 ?va19 ?vl19 ?vc19 ?vk19 ?va20 ?vl20 ?vc20 ?vk20 ?va21 ?vl21 ?vc21 ?vk21 ?va22 ?vl22 ?vc22 ?vk22 ?va23 ?vl23 ?vc23 ?vk23 ?va24 ?vl24 ?vc24 ?vk24 ?va25 ?vl25 ?vc25 ?vk25 ?va26 ?vl26 ?vc26 ?vk26 ?vz0 ?vz1 ?vz2 ?vz3 ?vz4 ?vz5 ?vz6 ?vz7 ?vz8 ?vz9 ?vz10 ?vz11 ?vg0 ?vg1 ?vg2 ?vh2 ?vg3 ?vg4 ?vxg ?vxq ?vxk ?vxb ?vxt ?vxi ?vxs
    (case va0 => k_is)
    (case vl0 => k_is)
    (case vc0 => k_is)
    (case vk0 => k_is)
    (case va1 => k_is)
    (case vl1 => k_is)
    (case vc1 => k_is)
    (case vk1 => k_is)
    (case va2 => k_is)
    (case vl2 => k_is)
    (case vc2 => k_is)
    (case vk2 => k_is)
    (case va3 => k_is)
    (case vl3 => k_is)
    (case vc3 => k_is)
    (case vk3 => k_is)
    (case va4 => k_is)
    (case vl4 => k_is)
    (case vc4 => k_is)
    (case vk4 => k_is)
    (case va5 => k_is)
    (case vl5 => k_is)
    (case vc5 => k_is)
    (case vk5 => k_is)
    (case va6 => k_is)
    (case vl6 => k_is)
    (case vc6 => k_is)
    (case vk6 => k_is)
    (case va7 => k_is)
    (case vl7 => k_is)
    (case vc7 => k_is)
    (case vk7 => k_is)
    (case va8 => k_is)
    (case vl8 => k_is)
    (case vc8 => k_is)
    (case vk8 => k_is)
    (case va9 => k_is)
    (case vl9 => k_is)
    (case vc9 => k_is)
    (case vk9 => k_is)
    (case va10 => k_is)
    (case vl10 => k_is)
    (case vc10 => k_is)
    (case vk10 => k_is)
    (case va11 => k_is)
    (case vl11 => k_is)
    (case vc11 => k_is)
    (case vk11 => k_is)
    (case va12 => k_is)
    (case vl12 => k_is)
    (case vc12 => k_is)
    (case vk12 => k_is)
    (case va13 => k_is)
    (case vl13 => k_is)
    (case vc13 => k_is)
    (case vk13 => k_is)
    (case va14 => k_is)
    (case vl14 => k_is)
    (case vc14 => k_is)
    (case vk14 => k_is)
    (case va15 => k_is)
    (case vl15 => k_is)
    (case vc15 => k_is)
    (case vk15 => k_is)
    (case va16 => k_is)
    (case vl16 => k_is)
    (case vc16 => k_is)
    (case vk16 => k_is)
    (case va17 => k_is)
    (case vl17 => k_is)
    (case vc17 => k_is)
    (case vk17 => k_is)
    (case va18 => k_is)
    (case vl18 => k_is)
    (case vc18 => k_is)
    (case vk18 => k_is)
    (case va19 => k_is)
    (case vl19 => k_is)
    (case vc19 => k_is)
    (case vk19 => k_is)
    (case va20 => k_is)
    (case vl20 => k_is)
    (case vc20 => k_is)
    (case vk20 => k_is)
    (case va21 => k_is)
    (case vl21 => k_is)
    (case vc21 => k_is)
    (case vk21 => k_is)
    (case va22 => k_is)
    (case vl22 => k_is)
    (case vc22 => k_is)
    (case vk22 => k_is)
    (case va23 => k_is)
    (case vl23 => k_is)
    (case vc23 => k_is)
    (case vk23 => k_is)
    (case va24 => k_is)
    (case vl24 => k_is)
    (case vc24 => k_is)
    (case vk24 => k_is)
    (case va25 => k_is)
    (case vl25 => k_is)
    (case vc25 => k_is)
    (case vk25 => k_is)
    (case va26 => k_is)
    (case vl26 => k_is)
    (case vc26 => k_is)
    (case vk26 => k_is)
    (case vz0 => k_is)
    (case vz1 => k_is)
    (case vz2 => k_is)
    (case vz3 => k_is)
    (case vz4 => k_is)
    (case vz5 => k_is)
    (case vz6 => k_is)
    (case vz7 => k_is)
    (case vz8 => k_is)
    (case vz9 => k_is)
    (case vz10 => k_is)
    (case vz11 => k_is)
    (case vg0 => k_is)
    (case vg1 => k_is)
    (case vg2 => k_is)
    (case vh2 => k_is)
    (case vg3 => k_is)
    (case vg4 => k_is)
    (case vxg => k_is)
    (case vxq => k_exc)
    (case vxk => k_is)
    (case vxb => k_is)
    (case vxt => k_is)
    (case vxi => k_is)
    (case vxs => k_is)
