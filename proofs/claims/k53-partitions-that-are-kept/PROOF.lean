import PyProof.Rows.All
import HandS.ForMost
import HandS.ForExc
import HandS.Deep
import HandS.IsInst
import HandS.TupAny
import HandS.Conv
import HandS.TupMul
import HandS.SortInts
import PyProof.P3In
import KE.SortData
import HandS.SetFor
import HandS.Strs
import PyProof.ReprRoads
import KE.KDictDisplayH
import KE.KDictKeyed
import HandS.TupSets
import HandS.Zip
import KE.KDictZip
import HandS.ExcValue
import PyProof.WalkInts
import PySem.Challenge.RW_boxkinds_k53_whole_partitions_that_are_k
set_option Elab.async false
set_option linter.all false
set_option maxRecDepth 100000

/-! DL1: the data layer: deep data in the heap, a frame's state, readings by meaning. -/
namespace DL
open PySem PySem.Spec L2
open PyProof.Rows hiding St

/-! ### data in the heap -/
mutual
inductive Df (K : PySem.W.Frag) (H : Hp) (g : Addr → Prop) : V → PyData → Prop
  | non : Df K H g .non .none
  | bl (b : Bool) : Df K H g (.bl b) (.bool b)
  | int (i : Int) : Df K H g (.int i) (.int i)
  | str (x : Str) : Df K H g (.str x) (.str x)
  | lst {a : Addr} {xs : List V} {ds : List PyData} : g a → H a = some (.lst xs) → xs.length ≤ sizeLine → DfAll K H g xs ds → Df K H g (.ref a) (.list ds)
  | tup {a : Addr} {xs : List V} {ds : List PyData} : H a = some (.tup xs) → xs.length ≤ sizeLine → DfAll K H g xs ds → Df K H g (.ref a) (.tuple ds)
inductive DfAll (K : PySem.W.Frag) (H : Hp) (g : Addr → Prop) : List V → List PyData → Prop
  | nil : DfAll K H g [] []
  | cons {v : V} {vs : List V} {d : PyData} {ds : List PyData} : Df K H g v d → DfAll K H g vs ds → DfAll K H g (v :: vs) (d :: ds)
end

section
variable {K : PySem.W.Frag} {H H' : Hp} {g g' : Addr → Prop}
theorem DfAll.length {g : Addr → Prop} : ∀ {vs : List V} {ds : List PyData}, DfAll K H g vs ds → vs.length = ds.length
  | _, _, .nil => rfl
  | _, _, .cons _ t => by rw [List.length_cons, List.length_cons, DfAll.length t]
mutual
theorem Df.mono (hl : ∀ a u, g a → H a = some (.lst u) → g' a ∧ H' a = some (.lst u)) (ht : ∀ a u, H a = some (.tup u) → H' a = some (.tup u)) : ∀ {d : PyData} {v : V}, Df K H g v d → Df K H' g' v d
  | _, _, .non => .non
  | _, _, .bl b => .bl b
  | _, _, .int i => .int i
  | _, _, .str x => .str x
  | _, _, .lst h1 h2 h3 h4 => .lst (hl _ _ h1 h2).1 (hl _ _ h1 h2).2 h3 (DfAll.mono hl ht h4)
  | _, _, .tup h1 h2 h3 => .tup (ht _ _ h1) h2 (DfAll.mono hl ht h3)
theorem DfAll.mono (hl : ∀ a u, g a → H a = some (.lst u) → g' a ∧ H' a = some (.lst u)) (ht : ∀ a u, H a = some (.tup u) → H' a = some (.tup u)) : ∀ {ds : List PyData} {vs : List V}, DfAll K H g vs ds → DfAll K H' g' vs ds
  | _, _, .nil => .nil
  | _, _, .cons h1 h2 => .cons (Df.mono hl ht h1) (DfAll.mono hl ht h2)
end
mutual
theorem Df.dp : ∀ {d : PyData} {v : V}, Df K H g v d → Dp K H v d
  | _, _, .non => .non
  | _, _, .bl b => .bl b
  | _, _, .int i => .int i
  | _, _, .str x => .str x
  | _, _, .lst _ h2 _ h4 => .lst (.inl (.inl h2)) (DfAll.dp h4)
  | _, _, .tup h1 _ h3 => .tup (.inl (.inl h1)) (DfAll.dp h3)
theorem DfAll.dp : ∀ {ds : List PyData} {vs : List V}, DfAll K H g vs ds → DpAll K H vs ds
  | _, _, .nil => .nil
  | _, _, .cons h1 h2 => .cons (Df.dp h1) (DfAll.dp h2)
end
theorem Df.avoid {p : Addr} (h : H p = none) {v : V} {d : PyData} (x : Df K H g v d) : Df K H (fun a => g a ∧ a ≠ p) v d := x.mono (fun a u q e => ⟨⟨q, ne_of_none e h⟩, e⟩) fun _ _ q => q
theorem DfAll.avoid {p : Addr} (h : H p = none) {v : List V} {d : List PyData} (x : DfAll K H g v d) : DfAll K H (fun a => g a ∧ a ≠ p) v d := x.mono (fun a u q e => ⟨⟨q, ne_of_none e h⟩, e⟩) fun _ _ q => q
theorem DfAll.unavoid {p : Addr} {v : List V} {d : List PyData} (x : DfAll K H (fun a => g a ∧ a ≠ p) v d) : DfAll K H g v d := x.mono (fun a u q e => ⟨q.1, e⟩) fun _ _ q => q
theorem DfAll.get : ∀ {vs : List V} {ds : List PyData} {i : Nat} {d : PyData}, DfAll K H g vs ds → ds[i]? = some d → ∃ v, vs[i]? = some v ∧ Df K H g v d
  | _, _, _, _, .nil, e => by simp at e
  | _, _, 0, _, .cons h _, e => by simp at e; subst e; exact ⟨_, rfl, h⟩
  | _, _, i + 1, d, .cons _ t, e => by
    obtain ⟨v, h1, h2⟩ := DfAll.get (i := i) (d := d) t (by simpa using e)
    exact ⟨v, by simpa using h1, h2⟩
theorem DfAll.getV : ∀ {vs : List V} {ds : List PyData} {i : Nat} {v : V}, DfAll K H g vs ds → vs[i]? = some v → ∃ d, ds[i]? = some d ∧ Df K H g v d
  | _, _, _, _, .nil, e => by simp at e
  | _, _, 0, _, .cons h _, e => by simp at e; subst e; exact ⟨_, rfl, h⟩
  | _, _, i + 1, d, .cons _ t, e => by
    obtain ⟨v, h1, h2⟩ := DfAll.getV (i := i) (v := d) t (by simpa using e)
    exact ⟨v, by simpa using h1, h2⟩
theorem DfAll.append : ∀ {vs us : List V} {ds es : List PyData}, DfAll K H g vs ds → DfAll K H g us es → DfAll K H g (vs ++ us) (ds ++ es)
  | _, _, _, _, .nil, s => s
  | _, _, _, _, .cons h t, s => .cons h (DfAll.append t s)
theorem DfAll.take : ∀ {vs : List V} {ds : List PyData} (n : Nat), DfAll K H g vs ds → DfAll K H g (vs.take n) (ds.take n)
  | _, _, 0, _ => .nil
  | _, _, _ + 1, .nil => .nil
  | _, _, n + 1, .cons h t => .cons h (DfAll.take n t)
theorem DfAll.drop : ∀ {vs : List V} {ds : List PyData} (n : Nat), DfAll K H g vs ds → DfAll K H g (vs.drop n) (ds.drop n)
  | _, _, 0, h => h
  | _, _, _ + 1, .nil => .nil
  | _, _, n + 1, .cons _ t => DfAll.drop n t
theorem DfAll.set : ∀ {vs : List V} {ds : List PyData} {v : V} {d : PyData} (n : Nat), DfAll K H g vs ds → Df K H g v d → DfAll K H g (vs.set n v) (ds.set n d)
  | _, _, _, _, _, .nil, _ => .nil
  | _, _, _, _, 0, .cons _ t, h => .cons h t
  | _, _, _, _, n + 1, .cons h t, q => .cons h (DfAll.set n t q)
theorem DfAll.of_ints : ∀ ns : List Int, DfAll K H g (ns.map V.int) (ns.map PyData.int)
  | [] => .nil
  | n :: r => .cons (.int n) (DfAll.of_ints r)
theorem DfAll.ints_inv : ∀ {ns : List Int} {vs : List V}, DfAll K H g vs (ns.map PyData.int) → vs = ns.map V.int
  | [], _, .nil => rfl
  | n :: r, _, .cons (.int _) t => by rw [DfAll.ints_inv t]; rfl
theorem DfAll.bls_inv : ∀ {ns : List Bool} {vs : List V}, DfAll K H g vs (ns.map PyData.bool) → vs = ns.map V.bl
  | [], _, .nil => rfl
  | n :: r, _, .cons (.bl _) t => by rw [DfAll.bls_inv t]; rfl
end

/-! ### the state of a def that runs -/
/-- the errors of the program -/
inductive Exn where
  | malformed
  | refused (r : Str)
  | noText (at_ : Int)
/-- what stands in a slot: nothing told, data, a list of one's own, one that is walked, the draw -/
inductive Sl where
  | un
  | d (x : PyData)
  | l (xs : List PyData)
  | lk (xs : List PyData)
  | dc (t : Bool) (kvs : List (List Int × PyData))
  | drw
  | scr (ns : List Int)
/-- the draw: the cells, then the place, the cell that is used up, the seed -/
structure DSt where
  cells : List Int
  place : Int
  cur : Int
  seed : Int
abbrev DS := Option DSt
inductive Out (α : Type) where
  | ok (a : α)
  | exc (x : Exn)
abbrev Ev := List Sl
abbrev Rz (α : Type) := Option (Out α × DS)
abbrev ME (α : Type) := Ev → DS → Rz α
def Rz.bind {α β : Type} (a : Rz α) (f : α → DS → Rz β) : Rz β :=
  match a with
  | some (.ok x, ds) => f x ds
  | some (.exc e, ds) => some (.exc e, ds)
  | none => none
def ME.bind {α β : Type} (a : ME α) (f : α → ME β) : ME β := fun env ds => (a env ds).bind fun x ds' => f x env ds'
def ME.pure {α : Type} (x : α) : ME α := fun _ ds => some (.ok x, ds)
def ME.lift {α : Type} (x : Option α) : ME α := fun _ ds => match x with
  | some a => some (.ok a, ds)
  | none => none

/-- the addresses of the errors' classes -/
structure Exs where
  m : Addr
  r : Addr
  n : Addr
def ExR (C : Exs) (x : Exn) (cls : Value) (d : Option Addr) (H : Hp) : Prop :=
  match x with
  | .malformed => cls = .ref C.m ∧ d = none
  | .refused r => cls = .ref C.r ∧ ∃ a, d = some a ∧ H a = some (.xd [("reason", .str r)])
  | .noText i => cls = .ref C.n ∧ ∃ a, d = some a ∧ H a = some (.xd [("at", .int i)])

/-- a frame's fixed things: the good addresses, the heap at the entry, the draw's list and that of its cells, the slots whose lists are walked -/
structure Gm where
  ok : Addr → Prop
  H0 : Hp
  dr : Option (Addr × Addr)
  lk : List (Nat × Addr)
def Gm.nd (Γ : Gm) (a : Addr) : Prop := ∀ p, Γ.dr = some p → a ≠ p.1
def Sl.own : Sl → Bool
  | .l _ => true
  | .lk _ => true
  | .dc _ _ => true
  | _ => false
def owned (σ : St) (env : Ev) (a : Addr) : Prop := ∃ (i : Nat) (x : Sl), env[i]? = some x ∧ x.own = true ∧ σ[i]? = some (some (V.ref a))
def gd (Γ : Gm) (σ : St) (env : Ev) (a : Addr) : Prop := Γ.ok a ∧ ¬ owned σ env a ∧ Γ.nd a
/-- all but the draw is as it was -/
def Ext (Γ : Gm) (H H' : Hp) : Prop := ∀ a o, Γ.nd a → H a = some o → H' a = some o
def DrR (K : PySem.W.Frag) (Γ : Gm) (H : Hp) (ds : DS) : Prop :=
  match Γ.dr, ds with
  | none, none => True
  | some p, some s => H p.1 = some (.lst [.ref p.2, .int s.place, .int s.cur, .int s.seed]) ∧ H p.2 = some (.lst (s.cells.map V.int)) ∧ s.cells.length ≤ sizeLine ∧ p.2 ≠ p.1 ∧ Γ.ok p.2
  | _, _ => False
/-- the script stands at a -/
def ScrAt (K : PySem.W.Frag) (H : Hp) (a : Addr) (xs : List V) : Prop :=
  (∃ o, H a = some (.frz o (.lst xs))) ∨ ∃ (o : Obj) (its : Array Value) (n : Nat), K.lookup a = some o ∧ o.cls = .type "list" ∧ o.dict = none ∧ o.data = .seq its n ∧ its.size ≤ sizeLine ∧ Vals xs its.toList
theorem ScrAt.sq {K : PySem.W.Frag} {H : Hp} {a : Addr} {xs : List V} (h : ScrAt K H a xs) : SqL K H a xs := by
  rcases h with ⟨o, h⟩ | h
  · exact .inl (.inr ⟨o, h⟩)
  · exact .inr h
/-- a dict as an object: t: its keys are tuples of ints; else ints -/
def dcObj (t : Bool) (ks : List (List Int)) (us : List V) : HO := if t then .dT ((ks.map fun k => k.map Sum.inl).zip us) else .dK ((ks.map fun k => Sum.inl (k.headD 0)).zip us)
/-- what may change -/
def MutO (o : HO) : Prop := (∃ xs, o = .lst xs) ∨ ∃ t ks us, o = dcObj t ks us
theorem imm_tup {xs : List V} : ¬ MutO (.tup xs) := by
  rintro (⟨_, z⟩ | ⟨t, _, _, z⟩)
  · cases z
  · cases t <;> cases z
theorem imm_frz {o : Obj} {u : HO} : ¬ MutO (.frz o u) := by
  rintro (⟨_, z⟩ | ⟨t, _, _, z⟩)
  · cases z
  · cases t <;> cases z
def SlR (K : PySem.W.Frag) (Γ : Gm) (H : Hp) (g : Addr → Prop) (v : Option (Option V)) : Sl → Prop
  | .un => True
  | .d x => ∃ u, v = some (some u) ∧ Df K H g u x
  | .l xs => ∃ a us, v = some (some (.ref a)) ∧ H a = some (.lst us) ∧ DfAll K H g us xs ∧ us.length ≤ sizeLine ∧ Γ.H0 a = none ∧ Γ.nd a
  | .lk xs => ∃ a us, v = some (some (.ref a)) ∧ H a = some (.lst us) ∧ DfAll K H g us xs ∧ us.length ≤ sizeLine ∧ Γ.H0 a = none ∧ Γ.nd a
  | .dc t kvs => ∃ a us, v = some (some (.ref a)) ∧ H a = some (dcObj t (kvs.map (·.1)) us) ∧ DfAll K H g us (kvs.map (·.2)) ∧ kvs.length ≤ 1000000 ∧ Γ.H0 a = none ∧ Γ.nd a
  | .drw => ∃ p, Γ.dr = some p ∧ v = some (some (.ref p.1))
  | .scr ns => ∃ a, v = some (some (.ref a)) ∧ ScrAt K H a (ns.map V.int) ∧ ns.length ≤ 63
structure Rel (K : PySem.W.Frag) (Γ : Gm) (σ : St) (H : Hp) (env : Ev) (ds : DS) : Prop where
  len : σ.length = env.length
  slot : ∀ (i : Nat) (x : Sl), env[i]? = some x → SlR K Γ H (gd Γ σ env) σ[i]? x
  sep : ∀ (i j : Nat) (x y : Sl), i ≠ j → env[i]? = some x → env[j]? = some y → x.own = true → y.own = true → σ[i]? ≠ σ[j]?
  okf : ∀ a, Γ.H0 a = none → Γ.ok a
  ext : Ext Γ Γ.H0 H
  draw : DrR K Γ H ds
  drc : ∀ p, Γ.dr = some p → ¬ owned σ env p.2
  lkd : ∀ p ∈ Γ.lk, ∃ xs, env[p.1]? = some (.lk xs) ∧ σ[p.1]? = some (some (V.ref p.2))

section
variable {K : PySem.W.Frag} {Γ : Gm} {σ : St} {H H1 H2 : Hp} {env : Ev} {ds ds' : DS}
theorem Ext.refl : Ext Γ H H := fun _ _ _ h => h
theorem Ext.trans (a : Ext Γ H H1) (b : Ext Γ H1 H2) : Ext Γ H H2 := fun c o n h => b c o n (a c o n h)
theorem DrR.tracked (h : DrR K Γ H ds) {p : Addr × Addr} (e : Γ.dr = some p) : H p.1 ≠ none := by
  unfold DrR at h
  rw [e] at h
  cases ds with
  | none => exact h.elim
  | some s => intro z; rw [h.1] at z; cases z
theorem Rel.own_at (R : Rel K Γ σ H env ds) {a : Addr} (h : owned σ env a) : ∃ o, H a = some o ∧ MutO o ∧ Γ.H0 a = none ∧ Γ.nd a := by
  obtain ⟨i, x, hx, ho, hs⟩ := h
  have q := R.slot i x hx
  cases x with
  | l xs =>
    obtain ⟨b, us, e, h1, _, _, h2, h3⟩ := q
    rw [hs] at e
    cases e
    exact ⟨_, h1, .inl ⟨_, rfl⟩, h2, h3⟩
  | lk xs =>
    obtain ⟨b, us, e, h1, _, _, h2, h3⟩ := q
    rw [hs] at e
    cases e
    exact ⟨_, h1, .inl ⟨_, rfl⟩, h2, h3⟩
  | dc t kvs =>
    obtain ⟨b, us, e, h1, _, _, h2, h3⟩ := q
    rw [hs] at e
    cases e
    exact ⟨_, h1, .inr ⟨_, _, _, rfl⟩, h2, h3⟩
  | un => cases ho
  | d x => cases ho
  | drw => cases ho
  | scr ns => cases ho
/-- a new address is good -/
theorem Rel.new_gd (R : Rel K Γ σ H env ds) {a : Addr} (h : H a = none) : gd Γ σ env a := by
  have n : Γ.nd a := fun p e z => R.draw.tracked e (by rw [← z]; exact h)
  refine ⟨R.okf a ?_, fun o => ?_, n⟩
  · cases q : Γ.H0 a with
    | none => rfl
    | some o =>
      have := R.ext a o n q
      rw [h] at this
      cases this
  · obtain ⟨us, e, _⟩ := R.own_at o
    rw [h] at e
    cases e
theorem tup_ext (e : Ext Γ H H1) (d : DrR K Γ H ds) {a : Addr} {u : List V} (h : H a = some (.tup u)) : H1 a = some (.tup u) := by
  refine e _ _ (fun p z q => ?_) h
  unfold DrR at d
  rw [z] at d
  cases ds with
  | none => exact d.elim
  | some s =>
    have := d.1
    rw [← q, h] at this
    cases this
theorem sqT_ext (e : Ext Γ H H1) (d : DrR K Γ H ds) {a : Addr} {u : List V} (h : SqT K H a u) : SqT K H1 a u := by
  rcases h with (h | ⟨o, h⟩) | h
  · refine .inl (.inl (e _ _ (fun p z q => ?_) h))
    unfold DrR at d
    rw [z] at d
    cases ds with
    | none => exact d.elim
    | some s =>
      have := d.1
      rw [← q, h] at this
      cases this
  · refine .inl (.inr ⟨o, e _ _ (fun p z q => ?_) h⟩)
    unfold DrR at d
    rw [z] at d
    cases ds with
    | none => exact d.elim
    | some s =>
      have := d.1
      rw [← q, h] at this
      cases this
  · exact .inr h
theorem frz_ext (e : Ext Γ H H1) (d : DrR K Γ H ds) {a : Addr} {o : Obj} {u : HO} (h : H a = some (.frz o u)) : H1 a = some (.frz o u) := by
  refine e _ _ (fun p z q => ?_) h
  unfold DrR at d
  rw [z] at d
  cases ds with
  | none => exact d.elim
  | some s =>
    have := d.1
    rw [← q, h] at this
    cases this
theorem scr_ext (e : Ext Γ H H1) (d : DrR K Γ H ds) {a : Addr} {xs : List V} (h : ScrAt K H a xs) : ScrAt K H1 a xs := by
  rcases h with ⟨o, h⟩ | h
  · exact .inl ⟨o, frz_ext e d h⟩
  · exact .inr h
theorem Df.ext (e : Ext Γ H H1) (dr : DrR K Γ H ds) {v : V} {d : PyData} (h : Df K H (gd Γ σ env) v d) : Df K H1 (gd Γ σ env) v d :=
  h.mono (fun _ _ q r => ⟨q, e _ _ q.2.2 r⟩) fun _ _ q => tup_ext e dr q
theorem DfAll.ext (e : Ext Γ H H1) (dr : DrR K Γ H ds) {v : List V} {d : List PyData} (h : DfAll K H (gd Γ σ env) v d) : DfAll K H1 (gd Γ σ env) v d :=
  h.mono (fun _ _ q r => ⟨q, e _ _ q.2.2 r⟩) fun _ _ q => tup_ext e dr q
theorem Rel.go (R : Rel K Γ σ H env ds) (e : Ext Γ H H1) (d : DrR K Γ H1 ds') : Rel K Γ σ H1 env ds' where
  len := R.len
  slot := fun i x hx => by
    have q := R.slot i x hx
    cases x with
    | un => trivial
    | d y =>
      obtain ⟨u, e1, e2⟩ := q
      exact ⟨u, e1, e2.ext e R.draw⟩
    | l xs =>
      obtain ⟨a, us, e1, e2, e3, e4, e5, e6⟩ := q
      exact ⟨a, us, e1, e a _ e6 e2, e3.ext e R.draw, e4, e5, e6⟩
    | lk xs =>
      obtain ⟨a, us, e1, e2, e3, e4, e5, e6⟩ := q
      exact ⟨a, us, e1, e a _ e6 e2, e3.ext e R.draw, e4, e5, e6⟩
    | dc t0 xs =>
      obtain ⟨a, us, e1, e2, e3, e4, e5, e6⟩ := q
      exact ⟨a, us, e1, e a _ e6 e2, e3.ext e R.draw, e4, e5, e6⟩
    | drw => exact q
    | scr ns =>
      obtain ⟨a, e1, e2, e3⟩ := q
      exact ⟨a, e1, scr_ext e R.draw e2, e3⟩
  sep := R.sep
  okf := R.okf
  ext := R.ext.trans e
  draw := d
  drc := R.drc
  lkd := R.lkd
/-- a new object laid -/
theorem ext_new {p : Addr} {o : HO} (h : H p = none) : Ext Γ H (upd H p o) := fun a u _ q => by
  rw [upd_ne (ne_of_none q h)]
  exact q
theorem DrR.new {p : Addr} {o : HO} (d : DrR K Γ H ds) (h : H p = none) : DrR K Γ (upd H p o) ds := by
  unfold DrR at d ⊢
  cases e : Γ.dr with
  | none =>
    rw [e] at d
    cases ds with
    | none => trivial
    | some s => exact d
  | some q =>
    rw [e] at d
    cases ds with
    | none => exact d
    | some s =>
      obtain ⟨d1, d2, d3⟩ := d
      refine ⟨?_, ?_, d3⟩
      · rw [upd_ne (ne_of_none d1 h)]; exact d1
      · rw [upd_ne (ne_of_none d2 h)]; exact d2
end

/-! ### readings by meaning -/
def Aft (K : PySem.W.Frag) (C : Exs) (W : WX) (Γ : Gm) (σ : St) (H : Hp) {α : Type} (r : Rz α) (P : α → DS → Hp → Prop) : Prop :=
  match r with
  | some (.ok a, ds') => ∀ H', Ext Γ H H' → DrR K Γ H' ds' → P a ds' H'
  | some (.exc x, ds') => ∀ cls d H', Ext Γ H H' → DrR K Γ H' ds' → ExR C x cls d H' → W cls d σ H'
  | none => False
section
variable {K : PySem.W.Frag} {C : Exs} {W : WX} {Γ : Gm} {σ : St} {H H1 : Hp} {α β : Type}
theorem Aft.bind {r : Rz α} {f : α → DS → Rz β} {P : β → DS → Hp → Prop} (h : Aft K C W Γ σ H (r.bind f) P) : Aft K C W Γ σ H r fun a ds1 H1 => Aft K C W Γ σ H1 (f a ds1) P := by
  unfold Rz.bind at h
  unfold Aft at h ⊢
  rcases r with _ | ⟨a | x, ds⟩
  · exact h
  · intro H1 e1 d1
    dsimp only at h ⊢
    revert h
    rcases f a ds with _ | ⟨b | y, ds2⟩
    · exact fun h => h
    · exact fun h H2 e2 d2 => h H2 (e1.trans e2) d2
    · exact fun h cls d H2 e2 d2 => h cls d H2 (e1.trans e2) d2
  · exact h
theorem Aft.imp {r : Rz α} {P P' : α → DS → Hp → Prop} (h : Aft K C W Γ σ H r P) (f : ∀ a ds1 H1, Ext Γ H H1 → DrR K Γ H1 ds1 → P a ds1 H1 → P' a ds1 H1) : Aft K C W Γ σ H r P' := by
  unfold Aft at h ⊢
  rcases r with _ | ⟨a | x, ds⟩
  · exact h
  · exact fun H1 e1 d1 => f a ds H1 e1 d1 (h H1 e1 d1)
  · exact h
theorem Aft.here {a : α} {ds : DS} {P : α → DS → Hp → Prop} (h : Aft K C W Γ σ H (some (.ok a, ds)) P) (d : DrR K Γ H ds) : P a ds H := h H Ext.refl d
end
/-- a manner of data: what is known of a value behind an expression -/
abbrev Md := PySem.W.Frag → Gm → St → Ev → Hp → V → PyData → Prop
def MD : Md := fun K Γ σ env H v d => Df K H (gd Γ σ env) v d
/-- data whose outermost list may be one's own -/
def MP : Md := fun K Γ σ env H v d =>
  Df K H (gd Γ σ env) v d ∨ ∃ a xs ds, v = .ref a ∧ d = .list ds ∧ H a = some (.lst xs) ∧ Γ.nd a ∧ xs.length ≤ sizeLine ∧ DfAll K H (gd Γ σ env) xs ds
/-- the reading of an expression that gives data -/
def rdG (M : Md) (K : PySem.W.Frag) (C : Exs) (W : WX) (m : ME PyData) : TE := fun σ H Q => ∃ Γ env ds, Rel K Γ σ H env ds ∧
  Aft K C W Γ σ H (m env ds) fun d _ H' => ∀ v, M K Γ σ env H' v d → Q v H'
/-- the good addresses but one -/
def gdx (Γ : Gm) (σ : St) (env : Ev) (p a : Addr) : Prop := gd Γ σ env a ∧ a ≠ p
/-- a new list -/
def rdF (K : PySem.W.Frag) (C : Exs) (W : WX) (m : ME (List PyData)) : TE := fun σ H Q => ∃ Γ env ds, Rel K Γ σ H env ds ∧
  Aft K C W Γ σ H (m env ds) fun xs _ H' => ∀ a us, H a = none → H' a = some (.lst us) → us.length ≤ sizeLine → DfAll K H' (gdx Γ σ env a) us xs → Q (.ref a) H'
/-- a test -/
def rdT (K : PySem.W.Frag) (C : Exs) (W : WX) (m : ME Bool) : TT := fun σ H Q => ∃ Γ env ds, Rel K Γ σ H env ds ∧
  Aft K C W Γ σ H (m env ds) fun b _ H' => Q b H'
/-- arguments -/
def rdA (K : PySem.W.Frag) (C : Exs) (W : WX) (m : ME (List PyData)) : TA := fun σ H Q => ∃ Γ env ds, Rel K Γ σ H env ds ∧
  Aft K C W Γ σ H (m env ds) fun xs _ H' => ∀ vs, DfAll K H' (gd Γ σ env) vs xs → Q vs H'
abbrev SE (X : Cx) (C : Exs) (W : WX) (e : Expr) (m : ME PyData) : Prop := PE X e (rdG MD X.K C W m)
abbrev SP (X : Cx) (C : Exs) (W : WX) (e : Expr) (m : ME PyData) : Prop := PE X e (rdG MP X.K C W m)
abbrev SF (X : Cx) (C : Exs) (W : WX) (e : Expr) (m : ME (List PyData)) : Prop := PE X e (rdF X.K C W m)
abbrev ST (X : Cx) (C : Exs) (W : WX) (e : Expr) (m : ME Bool) : Prop := PT X e (rdT X.K C W m)
abbrev SA (X : Cx) (C : Exs) (W : WX) (es : List Expr) (m : ME (List PyData)) : Prop := PA X es (rdA X.K C W m)
theorem PE.imp {X : Cx} {e : Expr} {t t' : TE} (h : PE X e t) (f : ∀ σ H Q, t' σ H Q → t σ H Q) : PE X e t' := ⟨fun pins s σ H Q I q => h.run pins s σ H Q I (f σ H Q q)⟩
theorem PT.imp {X : Cx} {e : Expr} {t t' : TT} (h : PT X e t) (f : ∀ σ H Q, t' σ H Q → t σ H Q) : PT X e t' := ⟨fun pins s σ H Q I q => h.run pins s σ H Q I (f σ H Q q)⟩
theorem PA.imp {X : Cx} {e : List Expr} {t t' : TA} (h : PA X e t) (f : ∀ σ H Q, t' σ H Q → t σ H Q) : PA X e t' := ⟨fun pos pins s σ H Q I q => h.run pos pins s σ H Q I (f σ H Q q)⟩
end DL

/-! DL2: expressions by their meaning. -/
namespace DL
open PySem PySem.Spec L2
open PyProof.Rows hiding St

section
variable {K : PySem.W.Frag} {Γ : Gm} {σ : St} {H H1 : Hp} {env : Ev} {ds : DS}
/-- what a manner bears -/
structure Pers (M : Md) : Prop where
  ext : ∀ {K : PySem.W.Frag} {Γ : Gm} {σ : St} {env : Ev} {H H1 : Hp} {ds : DS} {v : V} {d : PyData}, Ext Γ H H1 → DrR K Γ H ds → M K Γ σ env H v d → M K Γ σ env H1 v d
  dp : ∀ {K : PySem.W.Frag} {Γ : Gm} {σ : St} {env : Ev} {H : Hp} {v : V} {d : PyData}, M K Γ σ env H v d → Dp K H v d
  pk : ∀ {K : PySem.W.Frag} {Γ : Gm} {σ : St} {env : Ev} {H : Hp} {v : V} {d : PyData}, M K Γ σ env H v d → MP K Γ σ env H v d
theorem persD : Pers MD where
  ext := fun e d h => Df.ext e d h
  dp := fun h => Df.dp h
  pk := fun h => .inl h
theorem persP : Pers MP where
  ext := fun e d h => by
    rcases h with h | ⟨a, xs, ds, e1, e2, e3, e4, e5, e6⟩
    · exact .inl (h.ext e d)
    · exact .inr ⟨a, xs, ds, e1, e2, e _ _ e4 e3, e4, e5, e6.ext e d⟩
  dp := fun h => by
    rcases h with h | ⟨a, xs, ds, e1, e2, e3, e4, e5, e6⟩
    · exact h.dp
    · subst e1 e2
      exact .lst (.inl (.inl e3)) e6.dp
  pk := fun h => h
/-- what is known of a value of a form -/
theorem MP.list (h : MP K Γ σ env H v (.list ds')) : ∃ a xs, v = .ref a ∧ H a = some (.lst xs) ∧ xs.length ≤ sizeLine ∧ DfAll K H (gd Γ σ env) xs ds' := by
  rcases h with h | ⟨a, xs, ds, e1, e2, e3, e4, e5, e6⟩
  · cases h with
    | lst h1 h2 h3 h4 => exact ⟨_, _, rfl, h2, h3, h4⟩
  · cases e2
    exact ⟨a, xs, e1, e3, e5, e6⟩
theorem MP.tuple (h : MP K Γ σ env H v (.tuple ds')) : ∃ a xs, v = .ref a ∧ H a = some (.tup xs) ∧ xs.length ≤ sizeLine ∧ DfAll K H (gd Γ σ env) xs ds' := by
  rcases h with h | ⟨a, xs, ds, e1, e2, e3, e4, e5, e6⟩
  · cases h with
    | tup h1 h2 h3 => exact ⟨_, _, rfl, h1, h2, h3⟩
  · cases e2
theorem MP.int {i : Int} (h : MP K Γ σ env H v (.int i)) : v = .int i := by
  rcases h with h | ⟨a, xs, ds, e1, e2, e3, e4, e5, e6⟩
  · cases h; rfl
  · cases e2
theorem MP.bool {i : Bool} (h : MP K Γ σ env H v (.bool i)) : v = .bl i := by
  rcases h with h | ⟨a, xs, ds, e1, e2, e3, e4, e5, e6⟩
  · cases h; rfl
  · cases e2
theorem MP.str {i : Str} (h : MP K Γ σ env H v (.str i)) : v = .str i := by
  rcases h with h | ⟨a, xs, ds, e1, e2, e3, e4, e5, e6⟩
  · cases h; rfl
  · cases e2
theorem MP.none (h : MP K Γ σ env H v .none) : v = .non := by
  rcases h with h | ⟨a, xs, ds, e1, e2, e3, e4, e5, e6⟩
  · cases h; rfl
  · cases e2
end

/-! ### the meanings -/
def mC (d : PyData) : ME PyData := ME.pure d
def mV (i : Nat) : ME PyData := fun env ds => match env[i]? with
  | some (.d x) => some (.ok x, ds)
  | _ => none
/-- a name read in passing -/
def mVp (i : Nat) : ME PyData := fun env ds => match env[i]? with
  | some (.d x) => some (.ok x, ds)
  | some (.l xs) => some (.ok (.list xs), ds)
  | some (.lk xs) => some (.ok (.list xs), ds)
  | _ => none
def mF (a : ME (List PyData)) : ME PyData := a.bind fun xs => ME.pure (.list xs)
def mOp (f : PyData → PyData → Option PyData) (a b : ME PyData) : ME PyData := a.bind fun x => b.bind fun y => ME.lift (f x y)
def mUn (f : PyData → Option PyData) (a : ME PyData) : ME PyData := a.bind fun x => ME.lift (f x)
def mTst (a : ME PyData) : ME Bool := a.bind fun x => ME.lift (match x with | .bool b => some b | _ => none)
def mB (a : ME Bool) : ME PyData := a.bind fun b => ME.pure (.bool b)
def mAnd (a b : ME Bool) : ME Bool := a.bind fun x => if x then b else ME.pure false
def mOr (a b : ME Bool) : ME Bool := a.bind fun x => if x then ME.pure true else b
def mNot (a : ME Bool) : ME Bool := a.bind fun x => ME.pure (!x)
def mIf {α : Type} (c : ME Bool) (a b : ME α) : ME α := c.bind fun x => if x then a else b
def mNil : ME (List PyData) := ME.pure []
def mCons (a : ME PyData) (b : ME (List PyData)) : ME (List PyData) := a.bind fun x => b.bind fun xs => ME.pure (x :: xs)
def short (n : Nat) : Bool := decide (n ≤ sizeLine)
def mTup (a : ME (List PyData)) : ME PyData := a.bind fun xs => ME.lift (if short xs.length then some (.tuple xs) else none)
def mLst (a : ME (List PyData)) : ME (List PyData) := a.bind fun xs => ME.lift (if short xs.length then some xs else none)

section
variable {X : Cx} {C : Exs} {W : WX} {e a b c : Expr} {ma mb mc : ME PyData} {M M1 M2 : Md} {pos : Pos}

theorem lift_some {K : PySem.W.Frag} {C : Exs} {W : WX} {Γ : Gm} {σ : St} {H : Hp} {α : Type} {x : Option α} {env : Ev} {ds : DS} {P : α → DS → Hp → Prop} (h : Aft K C W Γ σ H (ME.lift x env ds) P) : ∃ y, x = some y ∧ ∀ H', Ext Γ H H' → DrR K Γ H' ds → P y ds H' := by
  cases x with
  | none => exact h.elim
  | some y => exact ⟨y, rfl, h⟩

theorem se_var (i : Nat) {x : Str} {pos : Pos} (hN : X.N[i]? = some x := by rfl) (hv : Vis X.env.scope x := by first | exact Or.inl rfl | exact Or.inr (Or.inl rfl) | exact Or.inr (Or.inr rfl)) (hd : (x == ("__debug__" : Str)) = false := by decide)
    (hcd : (x == ("__classdict__" : Str)) = false := by decide) : SE X C W (.Name x pos) (mV i) := by
  refine PE.imp (pe_var hN hv hd hcd) fun σ H Q ⟨Γ, env, ds, R, h⟩ => ?_
  unfold mV at h
  cases q : env[i]? with
  | none => rw [q] at h; exact h.elim
  | some x =>
    rw [q] at h
    have s := R.slot i x q
    cases x with
    | d y =>
      obtain ⟨u, e1, e2⟩ := s
      exact ⟨u, e1, Aft.here h R.draw u e2⟩
    | _ => exact h.elim
theorem sp_var (i : Nat) {x : Str} {pos : Pos} (hN : X.N[i]? = some x := by rfl) (hv : Vis X.env.scope x := by first | exact Or.inl rfl | exact Or.inr (Or.inl rfl) | exact Or.inr (Or.inr rfl)) (hd : (x == ("__debug__" : Str)) = false := by decide)
    (hcd : (x == ("__classdict__" : Str)) = false := by decide) : SP X C W (.Name x pos) (mVp i) := by
  refine PE.imp (pe_var hN hv hd hcd) fun σ H Q ⟨Γ, env, ds, R, h⟩ => ?_
  unfold mVp at h
  cases q : env[i]? with
  | none => rw [q] at h; exact h.elim
  | some x =>
    rw [q] at h
    have s := R.slot i x q
    cases x with
    | d y =>
      obtain ⟨u, e1, e2⟩ := s
      exact ⟨u, e1, Aft.here h R.draw u (.inl e2)⟩
    | l xs =>
      obtain ⟨a, us, e1, e2, e3, e4, e5, e6⟩ := s
      exact ⟨_, e1, Aft.here h R.draw _ (.inr ⟨a, us, xs, rfl, rfl, e2, e6, e4, e3⟩)⟩
    | lk xs =>
      obtain ⟨a, us, e1, e2, e3, e4, e5, e6⟩ := s
      exact ⟨_, e1, Aft.here h R.draw _ (.inr ⟨a, us, xs, rfl, rfl, e2, e6, e4, e3⟩)⟩
    | _ => exact h.elim
/-- data is data in passing -/
theorem SE.sp (h : SE X C W e ma) : SP X C W e ma := PE.imp h fun σ H Q ⟨Γ, env, ds, R, h⟩ => ⟨Γ, env, ds, R, h.imp fun d ds1 H1 _ _ q v hv => q v (.inl hv)⟩
/-- a new list is data -/
theorem SF.se {m : ME (List PyData)} (h : SF X C W e m) : SE X C W e (mF m) := PE.imp h fun σ H Q ⟨Γ, env, ds, R, h⟩ => ⟨Γ, env, ds, R, h.bind.imp fun d ds1 H1 e1 d1 q a us ha h2 h3 h4 =>
  Aft.here q d1 _ (.lst (R.new_gd ha) h2 h3 h4.unavoid)⟩
theorem se_c {v : V} {d : PyData} (h : PE X e (tC v)) (hd : ∀ H g, Df X.K H g v d) : SE X C W e (mC d) := PE.imp h fun σ H Q ⟨Γ, env, ds, R, h⟩ => Aft.here h R.draw _ (hd _ _)
theorem se_int {i : Int} {j : Nat} : SE X C W (.Constant (.int i) j pos) (mC (.int i)) := se_c pe_int fun _ _ => .int i
theorem se_bl {i : Bool} {j : Nat} : SE X C W (.Constant (.bool i) j pos) (mC (.bool i)) := se_c pe_bl fun _ _ => .bl i
theorem se_str {i : Str} {j : Nat} : SE X C W (.Constant (.str i) j pos) (mC (.str i)) := se_c pe_str fun _ _ => .str i
theorem se_non {j : Nat} : SE X C W (.Constant .none j pos) (mC .none) := se_c pe_non fun _ _ => .non
/-- a constant of the module -/
theorem se_glob {x : Str} {v : V} {u : Value} {d : PyData} (hm : X.mg x = some u) (r : RelV v u) (hd : ∀ H g, Df X.K H g v d) (hg : Gl X x := by rfl) (hdb : (x == ("__debug__" : Str)) = false := by decide) : SE X C W (.Name x pos) (mC d) := se_c (pe_glob hg hm r hdb) hd

/-! operators by what their values ask -/
def Bin (K : PySem.W.Frag) (r : R2) (f : PyData → PyData → Option PyData) : Prop :=
  ∀ (Γ : Gm) (σ : St) (H : Hp) (env : Ev) (ds : DS), Rel K Γ σ H env ds → ∀ (x y : V) (d e z : PyData), MP K Γ σ env H x d → MP K Γ σ env H y e → f d e = some z →
    ∀ Q : VK, (∀ v H', Ext Γ H H' → DrR K Γ H' ds → Df K H' (gd Γ σ env) v z → Q v H') → r x y H Q
theorem Bin.same {K : PySem.W.Frag} {r : R2} {f : PyData → PyData → Option PyData}
    (h : ∀ (Γ : Gm) (σ : St) (H : Hp) (env : Ev) (ds : DS), Rel K Γ σ H env ds → ∀ (x y : V) (d e z : PyData), MP K Γ σ env H x d → MP K Γ σ env H y e → f d e = some z → ∀ Q : VK, (∀ v, Df K H (gd Γ σ env) v z → Q v H) → r x y H Q) : Bin K r f :=
  fun Γ σ H env ds R x y d e z hx hy hf Q q => h Γ σ H env ds R x y d e z hx hy hf Q fun v hv => q v H Ext.refl R.draw hv
theorem bin_rd {K : PySem.W.Frag} {r : R2} {f : PyData → PyData → Option PyData} (hr : Bin K r f) (p1 : Pers M1) (p2 : Pers M2) {σ : St} {H : Hp} {Q : VK} (h : rdG MD K C W (mOp f ma mb) σ H Q) :
    tOp r (rdG M1 K C W ma) (rdG M2 K C W mb) σ H Q := by
  obtain ⟨Γ, env, ds, R, h⟩ := h
  refine ⟨Γ, env, ds, R, h.bind.imp fun d ds1 H1 e1 d1 q x hx => ?_⟩
  have R1 := R.go e1 d1
  refine ⟨Γ, env, ds1, R1, q.bind.imp fun e' ds2 H2 e2 d2 q y hy => ?_⟩
  obtain ⟨z, hz, q⟩ := lift_some q
  exact hr Γ σ H2 env ds2 (R1.go e2 d2) x y d e' z (p1.pk (p1.ext e2 d1 hx)) (p2.pk hy) hz Q fun v H3 e3 d3 hv => q H3 e3 d3 v hv
theorem se_op {op : Operator} {r : R2} {f : PyData → PyData → Option PyData} (ho : OpR X (binaryOp op) r) (hr : Bin X.K r f) (p1 : Pers M1) (p2 : Pers M2) (ha : PE X a (rdG M1 X.K C W ma)) (hb : PE X b (rdG M2 X.K C W mb)) : SE X C W (.BinOp a op b pos) (mOp f ma mb) :=
  PE.imp (pe_op ho ha hb) fun _ _ _ h => bin_rd hr p1 p2 h
theorem se_cmp {op : CmpOp} {r : R2} {f : PyData → PyData → Option PyData} (ho : OpR X (compareOp op) r) (hr : Bin X.K r f) (p1 : Pers M1) (p2 : Pers M2) (ha : PE X a (rdG M1 X.K C W ma)) (hb : PE X b (rdG M2 X.K C W mb)) (hm : behindInMarks op b = false) : SE X C W (.Compare a [op] [b] pos) (mOp f ma mb) :=
  PE.imp (pe_cmpR ho ha hb hm) fun _ _ _ h => bin_rd hr p1 p2 h
theorem tst_rd {K : PySem.W.Frag} {t : TE} {m : ME PyData} (ht : ∀ σ H Q, rdG MD K C W m σ H Q → t σ H Q) {σ : St} {H : Hp} {Q : Bool → Hp → Prop} (h : rdT K C W (mTst m) σ H Q) : t σ H fun x H' => ∃ k, x = .bl k ∧ Q k H' := by
  obtain ⟨Γ, env, ds, R, h⟩ := h
  refine ht σ H _ ⟨Γ, env, ds, R, h.bind.imp fun d ds1 H1 e1 d1 q x hx => ?_⟩
  obtain ⟨z, hz, q⟩ := lift_some q
  cases d with
  | bool k =>
    cases hx
    cases hz
    exact ⟨_, rfl, q H1 Ext.refl d1⟩
  | _ => cases hz
/-- a value that is True or False, as a test -/
theorem st_val (h : SE X C W e ma) (he : ∀ whole, isTrue e X.env whole = (do let v ← whole; standAt e.pos; holding [v] (truthy v)) := by intro _; rfl) : ST X C W e (mTst ma) :=
  PT.imp (pt_val h he) fun σ H Q h => by
    obtain h := tst_rd (t := rdG MD X.K C W ma) (fun _ _ _ z => z) h
    exact h
theorem st_cmp {op : CmpOp} {r : R2} {f : PyData → PyData → Option PyData} (ho : OpR X (compareOp op) r) (hr : Bin X.K r f) (p1 : Pers M1) (p2 : Pers M2) (ha : PE X a (rdG M1 X.K C W ma)) (hb : PE X b (rdG M2 X.K C W mb)) (hm : behindInMarks op b = false) : ST X C W (.Compare a [op] [b] pos) (mTst (mOp f ma mb)) :=
  PT.imp (pt_cmpR ho ha hb hm) fun _ _ _ h => tst_rd (fun _ _ _ z => bin_rd hr p1 p2 z) h
/-- a < b < c -/
def mChain (f f' : PyData → PyData → Option PyData) (a b c : ME PyData) : ME PyData := a.bind fun x => b.bind fun y => (ME.lift (f x y)).bind fun z => match z with
  | .bool true => c.bind fun u => ME.lift (f' y u)
  | .bool false => ME.pure (.bool false)
  | _ => ME.lift none
theorem chain_rd {K : PySem.W.Frag} {r r' : R2} {f f' : PyData → PyData → Option PyData} (hr : Bin K r f) (hr' : Bin K r' f') {σ : St} {H : Hp} {Q : VK} (h : rdG MD K C W (mChain f f' ma mb mc) σ H Q) :
    tChain r r' (rdG MD K C W ma) (rdG MD K C W mb) (rdG MD K C W mc) σ H Q := by
  obtain ⟨Γ, env, ds, R, h⟩ := h
  refine ⟨Γ, env, ds, R, h.bind.imp fun d ds1 H1 e1 d1 q x hx => ?_⟩
  have R1 := R.go e1 d1
  refine ⟨Γ, env, ds1, R1, q.bind.imp fun e' ds2 H2 e2 d2 q y hy => ?_⟩
  have R2 := R1.go e2 d2
  obtain ⟨z, hz, q⟩ := lift_some (Aft.bind q)
  refine hr Γ σ H2 env ds2 R2 x y d e' z (.inl (hx.ext e2 d1)) (.inl hy) hz _ fun v H3 e3 d3 hv => ?_
  have q := q H3 e3 d3
  have R3 := R2.go e3 d3
  cases z with
  | bool k =>
    cases hv
    refine ⟨k, rfl, ?_⟩
    cases k with
    | true =>
      rw [if_pos rfl]
      refine ⟨Γ, env, ds2, R3, q.bind.imp fun u ds4 H4 e4 d4 q w hw => ?_⟩
      obtain ⟨z2, hz2, q⟩ := lift_some q
      exact hr' Γ σ H4 env ds4 (R3.go e4 d4) y w e' u z2 (.inl ((hy.ext e3 d2).ext e4 d3)) (.inl hw) hz2 Q fun v H5 e5 d5 hv => q H5 e5 d5 v hv
    | false =>
      rw [if_neg Bool.false_ne_true]
      exact Aft.here q d3 _ (.bl false)
  | _ => exact q.elim
theorem se_chain {op op' : CmpOp} {r r' : R2} {f f' : PyData → PyData → Option PyData} (ho : OpR X (compareOp op) r) (ho' : OpR X (compareOp op') r') (hr : Bin X.K r f) (hr' : Bin X.K r' f') (ha : SE X C W a ma) (hb : SE X C W b mb) (hc : SE X C W c mc) (hm : lastMarks [op, op'] [b, c] = false := by with_unfolding_all rfl) : SE X C W (.Compare a [op, op'] [b, c] pos) (mChain f f' ma mb mc) :=
  PE.imp (pe_chain ho ho' ha hb hc hm) fun _ _ _ h => chain_rd hr hr' h
theorem st_chain {op op' : CmpOp} {r r' : R2} {f f' : PyData → PyData → Option PyData} (ho : OpR X (compareOp op) r) (ho' : OpR X (compareOp op') r') (hr : Bin X.K r f) (hr' : Bin X.K r' f') (ha : SE X C W a ma) (hb : SE X C W b mb) (hc : SE X C W c mc) (hm : lastMarks [op, op'] [b, c] = false := by with_unfolding_all rfl) : ST X C W (.Compare a [op, op'] [b, c] pos) (mTst (mChain f f' ma mb mc)) :=
  PT.imp (pt_chain ho ho' ha hb hc hm) fun _ _ _ h => tst_rd (fun _ _ _ z => chain_rd hr hr' z) h
end
end DL

/-! DL3: operators, displays, subscripts, slices, tests, calls of built-ins. -/
namespace DL
open PySem PySem.Spec L2
open PyProof.Rows hiding St

/-! ### what the operators give -/
def fAdd : PyData → PyData → Option PyData
  | .int i, .int j => some (.int (i + j))
  | .tuple a, .tuple b => if short (a.length + b.length) then some (.tuple (a ++ b)) else none
  | .list a, .list b => if short (a.length + b.length) then some (.list (a ++ b)) else none
  | .str a, .str b => if short (a.length + b.length) then some (.str (a ++ b)) else none
  | _, _ => none
def fSub : PyData → PyData → Option PyData
  | .int i, .int j => some (.int (i - j))
  | _, _ => none
def fMul : PyData → PyData → Option PyData
  | .int i, .int j => if decide (-(2 ^ 64) < i ∧ i < 2 ^ 64) || decide (-(2 ^ 64) < j ∧ j < 2 ^ 64) then some (.int (i * j)) else none
  | .list a, .int k => if decide (k.natAbs ≤ 1000) && decide (a.length ≤ 1000) then some (.list (List.replicate k.toNat a).flatten) else none
  | .tuple a, .int k => if !a.isEmpty && decide (2 ≤ k ∧ k ≤ 1000) && decide (a.length ≤ 1000) then some (.tuple (List.replicate k.toNat a).flatten) else none
  | _, _ => none
def fFdiv : PyData → PyData → Option PyData
  | .int i, .int j => if decide (0 < j ∧ j < 1073741824) then some (.int (i / j)) else none
  | _, _ => none
def fMod : PyData → PyData → Option PyData
  | .int i, .int j => if decide (0 < j) then some (.int (i % j)) else none
  | _, _ => none
def fShl : PyData → PyData → Option PyData
  | .int i, .int j => if decide (0 ≤ j ∧ j ≤ 1000 ∧ i.natAbs < 2 ^ 64) then some (.int (i * 2 ^ j.toNat)) else none
  | _, _ => none
def fLt : PyData → PyData → Option PyData
  | .int i, .int j => some (.bool (decide (i < j)))
  | .str i, .str j => some (.bool (decide (i.cps.toList < j.cps.toList)))
  | _, _ => none
def fLe : PyData → PyData → Option PyData
  | .int i, .int j => some (.bool (decide (i ≤ j)))
  | .str i, .str j => some (.bool (!decide (j.cps.toList < i.cps.toList)))
  | _, _ => none
def fGt : PyData → PyData → Option PyData
  | .int i, .int j => some (.bool (decide (j < i)))
  | _, _ => none
def fGe : PyData → PyData → Option PyData
  | .int i, .int j => some (.bool (decide (j ≤ i)))
  | _, _ => none
def fEq (d e : PyData) : Option PyData := if SeqAt.shaped d && SeqAt.shaped e then some (.bool (PyData.eqv d e)) else none
def fNe (d e : PyData) : Option PyData := if SeqAt.shaped d && SeqAt.shaped e then some (.bool (!PyData.eqv d e)) else none
def fIn (d e : PyData) : Option PyData := match e with
  | .list ds => if SeqAt.shaped d && SeqAt.shaped (.list ds) then some (.bool (ds.any fun z => PyData.eqv z d)) else none
  | .tuple ds => if SeqAt.shaped d && SeqAt.shaped (.tuple ds) then some (.bool (ds.any fun z => PyData.eqv z d)) else none
  | _ => none
def fNotIn (d e : PyData) : Option PyData := match e with
  | .list ds => if SeqAt.shaped d && SeqAt.shaped (.list ds) then some (.bool (!ds.any fun z => PyData.eqv z d)) else none
  | .tuple ds => if SeqAt.shaped d && SeqAt.shaped (.tuple ds) then some (.bool (!ds.any fun z => PyData.eqv z d)) else none
  | _ => none
def isNone : PyData → Bool
  | .none => true
  | _ => false
def fIs (d e : PyData) : Option PyData := match e with
  | .none => some (.bool (isNone d))
  | _ => none
def fIsNot (d e : PyData) : Option PyData := match e with
  | .none => some (.bool (!isNone d))
  | _ => none
def fIx : PyData → PyData → Option PyData
  | .tuple xs, .int i => atI xs i
  | .list xs, .int i => atI xs i
  | .str z, .int i => if short z.length then (atI z.cps.toList i).map fun c => .str ⟨#[c]⟩ else none
  | _, _ => none
def fNeg : PyData → Option PyData
  | .int i => some (.int (-i))
  | _ => none

section
variable {X : Cx} {C : Exs} {W : WX} {K : PySem.W.Frag}
/-- a new tuple, a new list of data -/
theorem new_tup {Γ : Gm} {σ : St} {H : Hp} {env : Ev} {ds : DS} {us : List V} {xs : List PyData} (R : Rel K Γ σ H env ds) (h : DfAll K H (gd Γ σ env) us xs) (hl : us.length ≤ sizeLine) {p : Addr} (hp : H p = none) :
    Ext Γ H (upd H p (.tup us)) ∧ DrR K Γ (upd H p (.tup us)) ds ∧ Df K (upd H p (.tup us)) (gd Γ σ env) (.ref p) (.tuple xs) :=
  ⟨ext_new hp, R.draw.new hp, .tup upd_same hl (h.ext (ext_new hp) R.draw)⟩
theorem new_lst {Γ : Gm} {σ : St} {H : Hp} {env : Ev} {ds : DS} {us : List V} {xs : List PyData} (R : Rel K Γ σ H env ds) (h : DfAll K H (gd Γ σ env) us xs) (hl : us.length ≤ sizeLine) {p : Addr} (hp : H p = none) :
    Ext Γ H (upd H p (.lst us)) ∧ DrR K Γ (upd H p (.lst us)) ds ∧ Df K (upd H p (.lst us)) (gd Γ σ env) (.ref p) (.list xs) :=
  ⟨ext_new hp, R.draw.new hp, .lst (R.new_gd hp) upd_same hl (h.ext (ext_new hp) R.draw)⟩

theorem len_eq {H : Hp} {g : Addr → Prop} {us : List V} {xs : List PyData} (h : DfAll K H g us xs) : us.length = xs.length := h.length
theorem short_iff {n : Nat} (h : short n = true) : n ≤ sizeLine := of_decide_eq_true h

def rAddA (K : PySem.W.Frag) : R2 := fun x y H Q => (rI0 fun i j => .int (i + j)) x y H Q ∨ rCatA K x y H Q ∨ (∃ i j, x = .str i ∧ y = .str j ∧ i.length + j.length ≤ sizeLine ∧ Q (.str (i ++ j)) H) ∨ rCat x y H Q
theorem op_addA : OpR X (binaryOp .Add) (rAddA X.K) := .or op_add (.or op_catA (.or op_add_str op_cat))
theorem bin_add : Bin K (rAddA K) fAdd := by
  intro Γ σ H env ds R x y d e z hx hy hf Q q
  unfold fAdd at hf
  split at hf
  · obtain rfl := hx.int
    obtain rfl := hy.int
    cases hf
    exact .inl ⟨_, _, rfl, rfl, q _ H Ext.refl R.draw (.int _)⟩
  · obtain ⟨a, us, rfl, hS, hl, hA⟩ := hx.tuple
    obtain ⟨b, ws, rfl, hS2, hl2, hA2⟩ := hy.tuple
    split at hf
    · rename_i hs
      cases hf
      have hs := short_iff hs
      rw [← hA.length, ← hA2.length] at hs
      refine .inr (.inl ⟨a, b, us, ws, rfl, rfl, SqT.of hS, SqT.of hS2, hs, fun z => ?_, fun _ z => ?_, fun _ _ p hp => ?_⟩)
      · subst z
        cases hA
        exact q _ H Ext.refl R.draw (.tup hS2 hl2 hA2)
      · subst z
        cases hA2
        rw [List.append_nil] at q
        exact q _ H Ext.refl R.draw (.tup hS hl hA)
      · obtain ⟨e1, d1, h1⟩ := new_tup R (hA.append hA2) (by rw [List.length_append]; exact hs) hp
        exact q _ _ e1 d1 h1
    · cases hf
  · obtain ⟨a, us, rfl, hS, hl, hA⟩ := hx.list
    obtain ⟨b, ws, rfl, hS2, hl2, hA2⟩ := hy.list
    split at hf
    · rename_i hs
      cases hf
      have hs := short_iff hs
      rw [← hA.length, ← hA2.length] at hs
      refine .inr (.inr (.inr ⟨a, b, us, ws, rfl, rfl, hS, hS2, hs, fun p hp => ?_⟩))
      obtain ⟨e1, d1, h1⟩ := new_lst R (hA.append hA2) (by rw [List.length_append]; exact hs) hp
      exact q _ _ e1 d1 h1
    · cases hf
  · obtain rfl := hx.str
    obtain rfl := hy.str
    split at hf
    · rename_i hs
      cases hf
      exact .inr (.inr (.inl ⟨_, _, rfl, rfl, short_iff hs, q _ H Ext.refl R.draw (.str _)⟩))
    · cases hf
  · cases hf
theorem bin_sub : Bin K (rI0 fun i j => .int (i - j)) fSub := Bin.same fun Γ σ H env ds R x y d e z hx hy hf Q q => by
  unfold fSub at hf
  split at hf
  · obtain rfl := hx.int
    obtain rfl := hy.int
    cases hf
    exact ⟨_, _, rfl, rfl, q _ (.int _)⟩
  · cases hf
theorem DfAll.rep {H : Hp} {g : Addr → Prop} {us : List V} {xs : List PyData} (h : DfAll K H g us xs) : ∀ n : Nat, DfAll K H g (List.replicate n us).flatten (List.replicate n xs).flatten
  | 0 => .nil
  | n + 1 => by
    rw [List.replicate_succ, List.replicate_succ, List.flatten_cons, List.flatten_cons]
    exact h.append (DfAll.rep h n)
def rMulA (K : PySem.W.Frag) : R2 := fun x y H Q => (rI CMul fun i j => .int (i * j)) x y H Q ∨ rRep x y H Q ∨ rRepT K x y H Q
theorem op_mulA : OpR X (binaryOp .Mult) (rMulA X.K) := .or op_mul (.or op_rep op_repT)
theorem rep_short {us : List V} {k : Int} (h1 : k.natAbs ≤ 1000) (h2 : us.length ≤ 1000) : us.length * k.toNat ≤ sizeLine := by
  have h3 : k.toNat ≤ 1000 := by omega
  have h4 : us.length * k.toNat ≤ 1000 * 1000 := Nat.mul_le_mul h2 h3
  have h5 : (1000 * 1000 : Nat) ≤ sizeLine := by decide
  omega
theorem absLe {k : Int} (h : 2 ≤ k ∧ k ≤ 1000) : k.natAbs ≤ 1000 := by omega
theorem bin_mul : Bin K (rMulA K) fMul := by
  intro Γ σ H env ds R x y d e z hx hy hf Q q
  unfold fMul at hf
  split at hf
  · obtain rfl := hx.int
    obtain rfl := hy.int
    split at hf
    · rename_i hc
      cases hf
      rw [Bool.or_eq_true] at hc
      refine .inl ⟨_, _, rfl, rfl, ?_, q _ H Ext.refl R.draw (.int _)⟩
      rcases hc with hc | hc
      · exact .inl (of_decide_eq_true hc)
      · exact .inr (of_decide_eq_true hc)
    · cases hf
  · obtain ⟨a, us, rfl, hS, hl, hA⟩ := hx.list
    obtain rfl := hy.int
    split at hf
    · rename_i hc
      cases hf
      rw [Bool.and_eq_true] at hc
      have h1 := of_decide_eq_true hc.1
      have h2 := of_decide_eq_true hc.2
      rw [← hA.length] at h2
      have h3 := rep_short h1 h2
      refine .inr (.inl ⟨a, _, us, rfl, rfl, hS, by omega, by omega, h3, fun p hp => ?_⟩)
      obtain ⟨e1, d1, q1⟩ := new_lst R (hA.rep _) (by rw [PyProof.Rows.lm_len_rep_flat, Nat.mul_comm]; exact h3) hp
      exact q _ _ e1 d1 q1
    · cases hf
  · obtain ⟨a, us, rfl, hS, hl, hA⟩ := hx.tuple
    obtain rfl := hy.int
    split at hf
    · rename_i hc
      cases hf
      rw [Bool.and_eq_true, Bool.and_eq_true] at hc
      have h1 := of_decide_eq_true hc.1.2
      have h2 := of_decide_eq_true hc.2
      have hne : us ≠ [] := fun z => by
        subst z
        cases hA
        exact absurd hc.1.1 (by decide)
      rw [← hA.length] at h2
      have h4 := absLe h1
      refine .inr (.inr ⟨a, _, us, rfl, rfl, SqT.of hS, hne, h1.1, h1.2, h2, fun p hp => ?_⟩)
      obtain ⟨e1, d1, q1⟩ := new_tup R (hA.rep _) (by rw [PyProof.Rows.lm_len_rep_flat, Nat.mul_comm]; exact rep_short h4 h2) hp
      exact q _ _ e1 d1 q1
    · cases hf
  · cases hf
theorem bin_fdiv : Bin K (rI CDiv fun i j => .int (i / j)) fFdiv := Bin.same fun Γ σ H env ds R x y d e z hx hy hf Q q => by
  unfold fFdiv at hf
  split at hf
  · obtain rfl := hx.int
    obtain rfl := hy.int
    split at hf
    · rename_i hc
      cases hf
      have hd := of_decide_eq_true hc
      exact ⟨_, _, rfl, rfl, hd, q _ (.int _)⟩
    · cases hf
  · cases hf
theorem bin_mod : Bin K (rI (fun _ j => 0 < j) fun i j => .int (i % j)) fMod := Bin.same fun Γ σ H env ds R x y d e z hx hy hf Q q => by
  unfold fMod at hf
  split at hf
  · obtain rfl := hx.int
    obtain rfl := hy.int
    split at hf
    · rename_i hc
      cases hf
      exact ⟨_, _, rfl, rfl, of_decide_eq_true hc, q _ (.int _)⟩
    · cases hf
  · cases hf
theorem bin_shl : Bin K (rI CPow fun i j => .int (i * 2 ^ j.toNat)) fShl := Bin.same fun Γ σ H env ds R x y d e z hx hy hf Q q => by
  unfold fShl at hf
  split at hf
  · obtain rfl := hx.int
    obtain rfl := hy.int
    split at hf
    · rename_i hc
      cases hf
      have h := of_decide_eq_true hc
      exact ⟨_, _, rfl, rfl, ⟨h.1, by omega, h.2.2⟩, q _ (.int _)⟩
    · cases hf
  · cases hf
def rLtA : R2 := fun x y H Q => (rI0 fun i j => .bl (decide (i < j))) x y H Q ∨ (∃ i j, x = .str i ∧ y = .str j ∧ Q (.bl (decide (i.cps.toList < j.cps.toList))) H)
theorem op_ltA : OpR X (compareOp .Lt) rLtA := .or op_lt op_lt_str
theorem bin_lt : Bin K rLtA fLt := Bin.same fun Γ σ H env ds R x y d e z hx hy hf Q q => by
  unfold fLt at hf
  split at hf
  · obtain rfl := hx.int
    obtain rfl := hy.int
    cases hf
    exact .inl ⟨_, _, rfl, rfl, q _ (.bl _)⟩
  · obtain rfl := hx.str
    obtain rfl := hy.str
    cases hf
    exact .inr ⟨_, _, rfl, rfl, q _ (.bl _)⟩
  · cases hf
def rLeA : R2 := fun x y H Q => (rI0 fun i j => .bl (decide (i ≤ j))) x y H Q ∨ (∃ i j, x = .str i ∧ y = .str j ∧ Q (.bl (!decide (j.cps.toList < i.cps.toList))) H)
theorem op_leA : OpR X (compareOp .LtE) rLeA := .or op_le op_le_str
theorem bin_le : Bin K rLeA fLe := Bin.same fun Γ σ H env ds R x y d e z hx hy hf Q q => by
  unfold fLe at hf
  split at hf
  · obtain rfl := hx.int
    obtain rfl := hy.int
    cases hf
    exact .inl ⟨_, _, rfl, rfl, q _ (.bl _)⟩
  · obtain rfl := hx.str
    obtain rfl := hy.str
    cases hf
    exact .inr ⟨_, _, rfl, rfl, q _ (.bl _)⟩
  · cases hf
theorem bin_gt : Bin K (rI0 fun i j => .bl (decide (j < i))) fGt := Bin.same fun Γ σ H env ds R x y d e z hx hy hf Q q => by
  unfold fGt at hf
  split at hf
  · obtain rfl := hx.int
    obtain rfl := hy.int
    cases hf
    exact ⟨_, _, rfl, rfl, q _ (.bl _)⟩
  · cases hf
theorem bin_ge : Bin K (rI0 fun i j => .bl (decide (j ≤ i))) fGe := Bin.same fun Γ σ H env ds R x y d e z hx hy hf Q q => by
  unfold fGe at hf
  split at hf
  · obtain rfl := hx.int
    obtain rfl := hy.int
    cases hf
    exact ⟨_, _, rfl, rfl, q _ (.bl _)⟩
  · cases hf
theorem bin_eq : Bin K (rEqD K) fEq := Bin.same fun Γ σ H env ds R x y d e z hx hy hf Q q => by
  unfold fEq at hf
  split at hf
  · rename_i hc
    cases hf
    rw [Bool.and_eq_true] at hc
    exact ⟨d, e, persP.dp hx, persP.dp hy, hc.1, hc.2, q _ (.bl _)⟩
  · cases hf
theorem bin_ne : Bin K (rNeD K) fNe := Bin.same fun Γ σ H env ds R x y d e z hx hy hf Q q => by
  unfold fNe at hf
  split at hf
  · rename_i hc
    cases hf
    rw [Bool.and_eq_true] at hc
    exact ⟨d, e, persP.dp hx, persP.dp hy, hc.1, hc.2, q _ (.bl _)⟩
  · cases hf
/-- x in a tuple -/
def rInTu (K : PySem.W.Frag) (b : Bool) : R2 := fun x y H Q => ∃ d ds, Dp K H x d ∧ Dp K H y (.tuple ds) ∧ SeqAt.shaped d = true ∧ SeqAt.shaped (.tuple ds) = true ∧ Q (.bl (if b then !ds.any fun z => PyData.eqv z d else ds.any fun z => PyData.eqv z d)) H
theorem op_inTu (hu : X.A.units + 65 < cLine) : OpR X (compareOp .In) (rInTu X.K false) := fun pins s σ H x y v u Q I rx ry h => by
  obtain ⟨d, ds, hd, he, sd, se, q⟩ := h
  obtain ⟨as, r1⟩ := Dp.reads I d x v hd rx
  obtain ⟨bs, r2⟩ := Dp.reads I (.tuple ds) y u he ry
  have room : X.A.units + 1 + min (PyData.depthAll ds) d.depth < cLine := by
    have := SeqAt.depth_of_shaped sd
    omega
  exact SeqAt.in_tuple_reads r2 r1 (SeqAt.canLay_of_shaped se) (SeqAt.canLay_of_shaped sd) room ⟨.bl _, H, I, rfl, q⟩
theorem op_notInTu (hu : X.A.units + 65 < cLine) : OpR X (compareOp .NotIn) (rInTu X.K true) := fun pins s σ H x y v u Q I rx ry h => by
  obtain ⟨d, ds, hd, he, sd, se, q⟩ := h
  obtain ⟨as, r1⟩ := Dp.reads I d x v hd rx
  obtain ⟨bs, r2⟩ := Dp.reads I (.tuple ds) y u he ry
  have room : X.A.units + 1 + min (PyData.depthAll ds) d.depth < cLine := by
    have := SeqAt.depth_of_shaped sd
    omega
  exact SeqAt.notIn_tuple_reads r2 r1 (SeqAt.canLay_of_shaped se) (SeqAt.canLay_of_shaped sd) room ⟨.bl _, H, I, rfl, q⟩
def rInA (K : PySem.W.Frag) : R2 := fun x y H Q => rInD K x y H Q ∨ rInTu K false x y H Q
theorem op_inA (hu : X.A.units + 65 < cLine) : OpR X (compareOp .In) (rInA X.K) := .or (op_inD hu) (op_inTu hu)
def rNotInA (K : PySem.W.Frag) : R2 := fun x y H Q => rNotInD K x y H Q ∨ rInTu K true x y H Q
theorem op_notInA (hu : X.A.units + 65 < cLine) : OpR X (compareOp .NotIn) (rNotInA X.K) := .or (op_notInD hu) (op_notInTu hu)
theorem bin_in : Bin K (rInA K) fIn := Bin.same fun Γ σ H env ds R x y d e z hx hy hf Q q => by
  unfold fIn at hf
  split at hf
  · split at hf
    · rename_i hc
      cases hf
      rw [Bool.and_eq_true] at hc
      exact .inl ⟨d, _, persP.dp hx, persP.dp hy, hc.1, hc.2, q _ (.bl _)⟩
    · cases hf
  · split at hf
    · rename_i hc
      cases hf
      rw [Bool.and_eq_true] at hc
      exact .inr ⟨d, _, persP.dp hx, persP.dp hy, hc.1, hc.2, q _ (.bl _)⟩
    · cases hf
  · cases hf
theorem bin_notIn : Bin K (rNotInA K) fNotIn := Bin.same fun Γ σ H env ds R x y d e z hx hy hf Q q => by
  unfold fNotIn at hf
  split at hf
  · split at hf
    · rename_i hc
      cases hf
      rw [Bool.and_eq_true] at hc
      exact .inl ⟨d, _, persP.dp hx, persP.dp hy, hc.1, hc.2, q _ (.bl _)⟩
    · cases hf
  · split at hf
    · rename_i hc
      cases hf
      rw [Bool.and_eq_true] at hc
      exact .inr ⟨d, _, persP.dp hx, persP.dp hy, hc.1, hc.2, q _ (.bl _)⟩
    · cases hf
  · cases hf
theorem MP.isNone {Γ : Gm} {σ : St} {env : Ev} {H : Hp} {x : V} {d : PyData} (h : MP K Γ σ env H x d) : decide (x = .non) = isNone d := by
  rcases h with h | ⟨a, xs, ds, e1, e2, e3, e4, e5, e6⟩
  · cases h <;> rfl
  · subst e1 e2
    rfl
theorem bin_is : Bin K (fun x y H Q => y = .non ∧ Q (.bl (decide (x = .non))) H) fIs := Bin.same fun Γ σ H env ds R x y d e z hx hy hf Q q => by
  unfold fIs at hf
  split at hf
  · cases hf
    refine ⟨hy.none, ?_⟩
    rw [hx.isNone]
    exact q _ (.bl _)
  · cases hf
theorem bin_isNot : Bin K (fun x y H Q => y = .non ∧ Q (.bl (!decide (x = .non))) H) fIsNot := Bin.same fun Γ σ H env ds R x y d e z hx hy hf Q q => by
  unfold fIsNot at hf
  split at hf
  · cases hf
    refine ⟨hy.none, ?_⟩
    rw [hx.isNone]
    exact q _ (.bl _)
  · cases hf

/-! ### subscripts and slices -/
theorem atI_get {α : Type} {xs : List α} {i : Int} {z : α} (h : atI xs i = some z) : ∃ j, ixN xs.length i = some j ∧ xs[j]? = some z := by
  unfold atI at h
  cases q : ixN xs.length i with
  | none => rw [q] at h; cases h
  | some j => rw [q] at h; exact ⟨j, rfl, h⟩
theorem atI_df {H : Hp} {g : Addr → Prop} {us : List V} {xs : List PyData} {i : Int} {z : PyData} (h : DfAll K H g us xs) (e : atI xs i = some z) : ∃ v, atI us i = some v ∧ Df K H g v z := by
  obtain ⟨j, e1, e2⟩ := atI_get e
  obtain ⟨v, e3, e4⟩ := h.get e2
  refine ⟨v, ?_, e4⟩
  unfold atI
  rw [h.length, e1]
  exact e3
theorem bin_ix : Bin K (rIx K) fIx := Bin.same fun Γ σ H env ds R x y d e z hx hy hf Q q => by
  unfold fIx at hf
  split at hf
  · obtain ⟨a, us, rfl, hS, hl, hA⟩ := hx.tuple
    obtain rfl := hy.int
    obtain ⟨v, e1, e2⟩ := atI_df hA hf
    exact .inr (.inl ⟨a, us, _, v, rfl, rfl, (SqT.of hS), e1, q v e2⟩)
  · obtain ⟨a, us, rfl, hS, hl, hA⟩ := hx.list
    obtain rfl := hy.int
    obtain ⟨v, e1, e2⟩ := atI_df hA hf
    exact .inl ⟨a, us, _, v, rfl, rfl, SqL.of hS, e1, q v e2⟩
  · obtain rfl := hx.str
    obtain rfl := hy.int
    split at hf
    · rename_i hs
      cases e1 : atI (Str.cps (by assumption)).toList (by assumption) with
      | none => rw [e1] at hf; cases hf
      | some c =>
        rw [e1] at hf
        cases hf
        exact .inr (.inr ⟨_, _, c, rfl, rfl, short_iff hs, e1, q _ (.str _)⟩)
    · cases hf
  · cases hf
variable {a b c : Expr} {ma mb mc : ME PyData} {M M1 M2 : Md} {pos p2 : Pos}
theorem se_ix (p1 : Pers M1) (p2 : Pers M2) (ha : PE X a (rdG M1 X.K C W ma)) (hb : PE X b (rdG M2 X.K C W mb)) (hs : PlainIx b := by exact fun _ _ => rfl) : SE X C W (.Subscript a b pos) (mOp fIx ma mb) :=
  PE.imp (pe_ix ix_seq ha hb hs) fun _ _ _ h => bin_rd bin_ix p1 p2 h
theorem se_un {op : UnaryOp} {r : V → Hp → VK → Prop} {f : PyData → Option PyData} (ho : UnR X (unaryOp op) r) (hr : ∀ (Γ : Gm) (σ : St) (H : Hp) (env : Ev) (x : V) (d z : PyData), MP X.K Γ σ env H x d → f d = some z → ∀ Q : VK, (∀ v, Df X.K H (gd Γ σ env) v z → Q v H) → r x H Q)
    (p1 : Pers M1) (ha : PE X a (rdG M1 X.K C W ma)) : SE X C W (.UnaryOp op a pos) (mUn f ma) :=
  PE.imp (pe_un ho ha) fun σ H Q ⟨Γ, env, ds, R, h⟩ => ⟨Γ, env, ds, R, h.bind.imp fun d ds1 H1 e1 d1 q x hx => by
    obtain ⟨z, hz, q⟩ := lift_some q
    exact hr Γ σ H1 env x d z (p1.pk hx) hz Q fun v hv => q H1 Ext.refl d1 v hv⟩
theorem se_neg (ha : SE X C W a ma) : SE X C W (.UnaryOp .USub a pos) (mUn fNeg ma) := se_un un_neg (fun Γ σ H env x d z hx hf Q q => by
  unfold fNeg at hf
  split at hf
  · obtain rfl := hx.int
    cases hf
    exact ⟨_, rfl, q _ (.int _)⟩
  · cases hf) persD ha

/-! ### tests -/
theorem st_not (h : ST X C W a m) : ST X C W (.UnaryOp .Not a pos) (mNot m) := PT.imp (pt_not h) fun σ H Q ⟨Γ, env, ds, R, h⟩ => ⟨Γ, env, ds, R, h.bind.imp fun d ds1 H1 e1 d1 q => Aft.here q d1⟩
abbrev SW (X : Cx) (C : Exs) (W : WX) (e : Expr) (m : ME Bool) : Prop := PW X e (rdT X.K C W m)
variable {rest : List Expr} {m m1 m2 : ME Bool}
theorem PW.imp {X : Cx} {e : Expr} {t t' : TT} (h : PW X e t) (f : ∀ σ H Q, t' σ H Q → t σ H Q) : PW X e t' := ⟨fun wh pins s σ H Q I q => h.run wh pins s σ H Q I (f σ H Q q)⟩
theorem sw_and1 (ha : ST X C W a m) : SW X C W (.BoolOp .And [a] pos) m := pw_and1 ha
theorem sw_or1 (ha : ST X C W a m) : SW X C W (.BoolOp .Or [a] pos) m := pw_or1 ha
theorem and_rd {K : PySem.W.Frag} {σ : St} {H : Hp} {Q : Bool → Hp → Prop} (h : rdT K C W (mAnd m1 m2) σ H Q) : tAnd (rdT K C W m1) (rdT K C W m2) σ H Q := by
  obtain ⟨Γ, env, ds, R, h⟩ := h
  refine ⟨Γ, env, ds, R, h.bind.imp fun d ds1 H1 e1 d1 q => ?_⟩
  cases d with
  | true =>
    rw [if_pos rfl]
    exact ⟨Γ, env, ds1, R.go e1 d1, q⟩
  | false =>
    rw [if_neg Bool.false_ne_true]
    exact Aft.here q d1
theorem or_rd {K : PySem.W.Frag} {σ : St} {H : Hp} {Q : Bool → Hp → Prop} (h : rdT K C W (mOr m1 m2) σ H Q) : tOr (rdT K C W m1) (rdT K C W m2) σ H Q := by
  obtain ⟨Γ, env, ds, R, h⟩ := h
  refine ⟨Γ, env, ds, R, h.bind.imp fun d ds1 H1 e1 d1 q => ?_⟩
  cases d with
  | true =>
    rw [if_pos rfl]
    exact Aft.here q d1
  | false =>
    rw [if_neg Bool.false_ne_true]
    exact ⟨Γ, env, ds1, R.go e1 d1, q⟩
theorem sw_and (ha : ST X C W a m1) (hb : SW X C W (.BoolOp .And (b :: rest) pos) m2) : SW X C W (.BoolOp .And (a :: b :: rest) pos) (mAnd m1 m2) := PW.imp (pw_and ha hb) fun _ _ _ h => and_rd h
theorem sw_or (ha : ST X C W a m1) (hb : SW X C W (.BoolOp .Or (b :: rest) pos) m2) : SW X C W (.BoolOp .Or (a :: b :: rest) pos) (mOr m1 m2) := PW.imp (pw_or ha hb) fun _ _ _ h => or_rd h
/-- and, or, not of truth values, as a value -/
def mAndV (a b : ME PyData) : ME PyData := a.bind fun x => match x with
  | .bool true => b
  | .bool false => ME.pure (.bool false)
  | _ => ME.lift none
def mOrV (a b : ME PyData) : ME PyData := a.bind fun x => match x with
  | .bool true => ME.pure (.bool true)
  | .bool false => b
  | _ => ME.lift none
def fNot : PyData → Option PyData
  | .bool b => some (.bool (!b))
  | _ => none
theorem se_one {op} (h : SE X C W a ma) : SE X C W (.BoolOp op [a] pos) ma := pe_one h
theorem se_and (ha : SE X C W a ma) (hb : SE X C W (.BoolOp .And (b :: rest) pos) mb) : SE X C W (.BoolOp .And (a :: b :: rest) pos) (mAndV ma mb) :=
  PE.imp (pe_and ha hb) fun σ H Q ⟨Γ, env, ds, R, h⟩ => ⟨Γ, env, ds, R, h.bind.imp fun d ds1 H1 e1 d1 q x hx => by
    cases d with
    | bool k =>
      cases hx
      refine ⟨_, rfl, ?_⟩
      cases k with
      | true =>
        rw [if_pos rfl]
        exact ⟨Γ, env, ds1, R.go e1 d1, q⟩
      | false =>
        rw [if_neg Bool.false_ne_true]
        exact Aft.here q d1 _ (.bl false)
    | _ => exact q.elim⟩
theorem se_or (ha : SE X C W a ma) (hb : SE X C W (.BoolOp .Or (b :: rest) pos) mb) : SE X C W (.BoolOp .Or (a :: b :: rest) pos) (mOrV ma mb) :=
  PE.imp (pe_or ha hb) fun σ H Q ⟨Γ, env, ds, R, h⟩ => ⟨Γ, env, ds, R, h.bind.imp fun d ds1 H1 e1 d1 q x hx => by
    cases d with
    | bool k =>
      cases hx
      refine ⟨_, rfl, ?_⟩
      cases k with
      | true =>
        rw [if_pos rfl]
        exact Aft.here q d1 _ (.bl true)
      | false =>
        rw [if_neg Bool.false_ne_true]
        exact ⟨Γ, env, ds1, R.go e1 d1, q⟩
    | _ => exact q.elim⟩
theorem se_not (ha : SE X C W a ma) : SE X C W (.UnaryOp .Not a pos) (mUn fNot ma) :=
  PE.imp (pe_not ha) fun σ H Q ⟨Γ, env, ds, R, h⟩ => ⟨Γ, env, ds, R, h.bind.imp fun d ds1 H1 e1 d1 q x hx => by
    obtain ⟨z, hz, q⟩ := lift_some q
    cases d with
    | bool k =>
      cases hx
      cases hz
      exact ⟨_, rfl, q H1 Ext.refl d1 _ (.bl _)⟩
    | _ => cases hz⟩
/-- a if c else b -/
theorem se_if (hc : ST X C W c m) (ha : SE X C W a ma) (hb : SE X C W b mb) : SE X C W (.IfExp c a b pos) (mIf m ma mb) :=
  PE.imp (pe_ifExp hc ha hb) fun σ H Q ⟨Γ, env, ds, R, h⟩ => ⟨Γ, env, ds, R, h.bind.imp fun d ds1 H1 e1 d1 q => by
    cases d with
    | true =>
      rw [if_pos rfl]
      exact ⟨Γ, env, ds1, R.go e1 d1, q⟩
    | false =>
      rw [if_neg Bool.false_ne_true]
      exact ⟨Γ, env, ds1, R.go e1 d1, q⟩⟩

/-! ### argument lists, displays -/
variable {e : Expr} {es : List Expr} {me : ME PyData} {ms : ME (List PyData)}
theorem sa_nil : SA X C W [] mNil := PA.imp pa_nil fun σ H Q ⟨Γ, env, ds, R, h⟩ => Aft.here h R.draw _ .nil
theorem sa_cons (he : SE X C W e me) (hr : SA X C W es ms) (hs : starEach (e :: es) X.env = (false, eval e X.env) :: starEach es X.env := by rfl) : SA X C W (e :: es) (mCons me ms) :=
  PA.imp (pa_cons he hr hs) fun σ H Q ⟨Γ, env, ds, R, h⟩ => ⟨Γ, env, ds, R, h.bind.imp fun d ds1 H1 e1 d1 q x hx => ⟨Γ, env, ds1, R.go e1 d1, q.bind.imp fun xs ds2 H2 e2 d2 q vs hv =>
    Aft.here q d2 _ (.cons (Df.ext e2 d1 hx) hv)⟩⟩
theorem se_tup {n : Nat} (h : SA X C W es ms) : SE X C W (.Tuple es n pos) (mTup ms) :=
  PE.imp (pe_tup h) fun σ H Q ⟨Γ, env, ds, R, h⟩ => ⟨Γ, env, ds, R, h.bind.imp fun xs ds1 H1 e1 d1 q vs hv => by
    obtain ⟨z, hz, q⟩ := lift_some q
    split at hz
    · rename_i hs
      cases hz
      have hs := short_iff hs
      rw [← hv.length] at hs
      refine ⟨hs, fun p hp => ?_⟩
      obtain ⟨e2, d2, h2⟩ := new_tup (R.go e1 d1) hv hs hp
      exact q _ e2 d2 _ h2
    · cases hz⟩
theorem sf_lst (h : SA X C W es ms) : SF X C W (.List es pos) (mLst ms) :=
  PE.imp (pe_lst h) fun σ H Q ⟨Γ, env, ds, R, h⟩ => ⟨Γ, env, ds, R, h.bind.imp fun xs ds1 H1 e1 d1 q vs hv => by
    obtain ⟨z, hz, q⟩ := lift_some q
    split at hz
    · rename_i hs
      cases hz
      have hs := short_iff hs
      rw [← hv.length] at hs
      refine ⟨hs, fun p hp => ?_⟩
      refine q _ (ext_new hp) (d1.new hp) p vs ?_ upd_same hs ((hv.avoid hp).mono (fun a u q e => ⟨q, ext_new (Γ := Γ) hp a _ q.1.2.2 e⟩) fun _ _ q => tup_ext (ext_new hp) d1 q)
      cases k : H p with
      | none => rfl
      | some o =>
        have := e1 p o ((R.go e1 d1).new_gd hp).2.2 k
        rw [hp] at this
        cases this
    · cases hz⟩
end
end DL

/-! DL4: calls of built-ins, slices. -/
namespace DL
open PySem PySem.Spec L2
open PyProof.Rows hiding St

theorem CallR.or {X : Cx} {f : Value} {r r' : List V → Hp → VK → Prop} (h : CallR X f r) (h' : CallR X f r') : CallR X f fun xs H Q => r xs H Q ∨ r' xs H Q := by
  intro pins s σ H xs us Q I rx q
  rcases q with q | q
  · exact h pins s σ H xs us Q I rx q
  · exact h' pins s σ H xs us Q I rx q

section
variable {X : Cx} {C : Exs} {W : WX} {K : PySem.W.Frag} {a b : Expr} {ma mb : ME PyData} {M M1 M2 : Md} {pos p2 p : Pos} {x : Str} {bid T : String}
/-- a call of one argument, by values -/
def Un1 (K : PySem.W.Frag) (r : List V → Hp → VK → Prop) (f : PyData → Option PyData) : Prop :=
  ∀ (Γ : Gm) (σ : St) (H : Hp) (env : Ev) (ds : DS), Rel K Γ σ H env ds → ∀ (x : V) (d z : PyData), MP K Γ σ env H x d → f d = some z →
    ∀ Q : VK, (∀ v H', Ext Γ H H' → DrR K Γ H' ds → Df K H' (gd Γ σ env) v z → Q v H') → r [x] H Q
theorem Un1.same {r : List V → Hp → VK → Prop} {f : PyData → Option PyData} (h : ∀ (Γ : Gm) (σ : St) (H : Hp) (env : Ev) (x : V) (d z : PyData), MP K Γ σ env H x d → f d = some z → ∀ Q : VK, (∀ v, Df K H (gd Γ σ env) v z → Q v H) → r [x] H Q) : Un1 K r f :=
  fun Γ σ H env ds R x d z hx hf Q q => h Γ σ H env x d z hx hf Q fun v hv => q v H Ext.refl R.draw hv
theorem un1_rd {r : List V → Hp → VK → Prop} {f : PyData → Option PyData} (hr : Un1 K r f) (p1 : Pers M) {σ : St} {H : Hp} {Q : VK} (h : rdG MD K C W (mUn f ma) σ H Q) : tCB r (tCons (rdG M K C W ma) tNil) σ H Q := by
  obtain ⟨Γ, env, ds, R, h⟩ := h
  refine ⟨Γ, env, ds, R, h.bind.imp fun d ds1 H1 e1 d1 q x hx => ?_⟩
  obtain ⟨z, hz, q⟩ := lift_some q
  exact hr Γ σ H1 env ds1 (R.go e1 d1) x d z (p1.pk hx) hz Q fun v H3 e3 d3 hv => q H3 e3 d3 v hv
theorem se_callB {r : List V → Hp → VK → Prop} {f : PyData → Option PyData} (hc : CallR X (.builtin bid) r) (hr : Un1 X.K r f) (p1 : Pers M) (hm : X.mg x = none) (hv : bootBuiltins x = some (.builtin bid)) (ha : PE X a (rdG M X.K C W ma)) (hg : Gl X x := by rfl)
    (hn : x ≠ "__name__" := by decide) (hdb : (x == ("__debug__" : Str)) = false := by decide) (he : starEach (a :: []) X.env = (false, eval a X.env) :: starEach [] X.env := by rfl) (hpl : (backTo pos (starEach [] X.env)).any (·.1) = false := by rfl) : SE X C W (.Call (.Name x p) [a] [] pos) (mUn f ma) :=
  PE.imp (pe_callB hc hg hm hv (pa_cons ha pa_nil he) hn hdb he hpl) fun _ _ _ h => un1_rd hr p1 h
theorem se_callTy {r : List V → Hp → VK → Prop} {f : PyData → Option PyData} (hc : CallR X (.type T) r) (hr : Un1 X.K r f) (p1 : Pers M) (hm : X.mg x = none) (hv : bootBuiltins x = some (.type T)) (ha : PE X a (rdG M X.K C W ma)) (hg : Gl X x := by rfl)
    (hn : x ≠ "__name__" := by decide) (hdb : (x == ("__debug__" : Str)) = false := by decide) (he : starEach (a :: []) X.env = (false, eval a X.env) :: starEach [] X.env := by rfl) (hpl : (backTo pos (starEach [] X.env)).any (·.1) = false := by rfl) : SE X C W (.Call (.Name x p) [a] [] pos) (mUn f ma) :=
  PE.imp (pe_callTy hc hg hm hv (pa_cons ha pa_nil he) hn hdb he hpl) fun _ _ _ h => un1_rd hr p1 h
/-- .. that gives a new list -/
def mUnF (f : PyData → Option (List PyData)) (a : ME PyData) : ME (List PyData) := a.bind fun x => ME.lift (f x)
def Un1F (K : PySem.W.Frag) (r : List V → Hp → VK → Prop) (f : PyData → Option (List PyData)) : Prop :=
  ∀ (Γ : Gm) (σ : St) (H : Hp) (env : Ev) (ds : DS), Rel K Γ σ H env ds → ∀ (x : V) (d : PyData) (z : List PyData), MP K Γ σ env H x d → f d = some z →
    ∀ Q : VK, (∀ p us, H p = none → us.length ≤ sizeLine → DfAll K H (gd Γ σ env) us z → Q (.ref p) (upd H p (.lst us))) → r [x] H Q
theorem Rel.none_back {Γ : Gm} {σ : St} {H H1 : Hp} {env : Ev} {ds ds1 : DS} (R : Rel K Γ σ H env ds) (e : Ext Γ H H1) (d : DrR K Γ H1 ds1) {p : Addr} (h : H1 p = none) : H p = none := by
  cases k : H p with
  | none => rfl
  | some o =>
    have := e p o ((R.go e d).new_gd h).2.2 k
    rw [h] at this
    cases this
theorem DfAll.newx {Γ : Gm} {σ : St} {env : Ev} {H : Hp} {ds : DS} {p : Addr} {o : HO} {us : List V} {xs : List PyData} (h : DfAll K H (gd Γ σ env) us xs) (hp : H p = none) (d : DrR K Γ H ds) : DfAll K (upd H p o) (gdx Γ σ env p) us xs :=
  (h.avoid hp).mono (fun a u q e => ⟨q, ext_new (Γ := Γ) hp a _ q.1.2.2 e⟩) fun _ _ q => tup_ext (ext_new hp) d q
theorem un1F_rd {r : List V → Hp → VK → Prop} {f : PyData → Option (List PyData)} (hr : Un1F K r f) (p1 : Pers M) {σ : St} {H : Hp} {Q : VK} (h : rdF K C W (mUnF f ma) σ H Q) : tCB r (tCons (rdG M K C W ma) tNil) σ H Q := by
  obtain ⟨Γ, env, ds, R, h⟩ := h
  refine ⟨Γ, env, ds, R, h.bind.imp fun d ds1 H1 e1 d1 q x hx => ?_⟩
  obtain ⟨z, hz, q⟩ := lift_some q
  exact hr Γ σ H1 env ds1 (R.go e1 d1) x d z (p1.pk hx) hz Q fun p us hp hl hA => q _ (ext_new hp) (d1.new hp) p us (R.none_back e1 d1 hp) upd_same hl (hA.newx hp d1)
theorem sf_callB {r : List V → Hp → VK → Prop} {f : PyData → Option (List PyData)} (hc : CallR X (.builtin bid) r) (hr : Un1F X.K r f) (p1 : Pers M) (hm : X.mg x = none) (hv : bootBuiltins x = some (.builtin bid)) (ha : PE X a (rdG M X.K C W ma)) (hg : Gl X x := by rfl)
    (hn : x ≠ "__name__" := by decide) (hdb : (x == ("__debug__" : Str)) = false := by decide) (he : starEach (a :: []) X.env = (false, eval a X.env) :: starEach [] X.env := by rfl) (hpl : (backTo pos (starEach [] X.env)).any (·.1) = false := by rfl) : SF X C W (.Call (.Name x p) [a] [] pos) (mUnF f ma) :=
  PE.imp (pe_callB hc hg hm hv (pa_cons ha pa_nil he) hn hdb he hpl) fun _ _ _ h => un1F_rd hr p1 h
theorem sf_callTy {r : List V → Hp → VK → Prop} {f : PyData → Option (List PyData)} (hc : CallR X (.type T) r) (hr : Un1F X.K r f) (p1 : Pers M) (hm : X.mg x = none) (hv : bootBuiltins x = some (.type T)) (ha : PE X a (rdG M X.K C W ma)) (hg : Gl X x := by rfl)
    (hn : x ≠ "__name__" := by decide) (hdb : (x == ("__debug__" : Str)) = false := by decide) (he : starEach (a :: []) X.env = (false, eval a X.env) :: starEach [] X.env := by rfl) (hpl : (backTo pos (starEach [] X.env)).any (·.1) = false := by rfl) : SF X C W (.Call (.Name x p) [a] [] pos) (mUnF f ma) :=
  PE.imp (pe_callTy hc hg hm hv (pa_cons ha pa_nil he) hn hdb he hpl) fun _ _ _ h => un1F_rd hr p1 h

/-! the built-ins -/
def fLen : PyData → Option PyData
  | .list xs => some (.int xs.length)
  | .tuple xs => some (.int xs.length)
  | .str z => if short z.length then some (.int z.length) else none
  | _ => none
theorem un_len : Un1 K (fun xs H Q => (∃ p ys, xs = [.ref p] ∧ (SqL K H p ys ∨ SqT K H p ys) ∧ Q (.int ys.length) H) ∨ ∃ z, xs = [.str z] ∧ z.length ≤ sizeLine ∧ Q (.int z.length) H) fLen := Un1.same fun Γ σ H env x d z hx hf Q q => by
  unfold fLen at hf
  split at hf
  · obtain ⟨a, us, rfl, hS, hl, hA⟩ := hx.list
    cases hf
    refine .inl ⟨a, us, rfl, .inl (SqL.of hS), ?_⟩
    rw [hA.length]
    exact q _ (.int _)
  · obtain ⟨a, us, rfl, hS, hl, hA⟩ := hx.tuple
    cases hf
    refine .inl ⟨a, us, rfl, .inr (SqT.of hS), ?_⟩
    rw [hA.length]
    exact q _ (.int _)
  · obtain rfl := hx.str
    split at hf
    · rename_i hs
      cases hf
      exact .inr ⟨_, rfl, short_iff hs, q _ (.int _)⟩
    · cases hf
  · cases hf
theorem call_lenA : CallR X (.builtin "len") (fun xs H Q => (∃ p ys, xs = [.ref p] ∧ (SqL X.K H p ys ∨ SqT X.K H p ys) ∧ Q (.int ys.length) H) ∨ ∃ z, xs = [.str z] ∧ z.length ≤ sizeLine ∧ Q (.int z.length) H) := .or call_len_seq call_len_str
def fTuple : PyData → Option PyData
  | .list xs => some (.tuple xs)
  | .tuple xs => some (.tuple xs)
  | _ => none
theorem un_tuple : Un1 K (fun xs H Q => ∃ p ys, xs = [.ref p] ∧ ((SqL K H p ys ∧ ∀ l, H l = none → Q (.ref l) (upd H l (.tup ys))) ∨ (SqT K H p ys ∧ Q (.ref p) H))) fTuple := fun Γ σ H env ds R x d z hx hf Q q => by
  unfold fTuple at hf
  split at hf
  · obtain ⟨a, us, rfl, hS, hl, hA⟩ := hx.list
    cases hf
    refine ⟨a, us, rfl, .inl ⟨SqL.of hS, fun p hp => ?_⟩⟩
    obtain ⟨e1, d1, h1⟩ := new_tup R hA hl hp
    exact q _ _ e1 d1 h1
  · obtain ⟨a, us, rfl, hS, hl, hA⟩ := hx.tuple
    cases hf
    exact ⟨a, us, rfl, .inr ⟨SqT.of hS, q _ H Ext.refl R.draw (.tup hS hl hA)⟩⟩
  · cases hf
def fList : PyData → Option (List PyData)
  | .list xs => some xs
  | .tuple xs => some xs
  | _ => none
theorem un_list : Un1F K (fun xs H Q => ∃ p ys, xs = [.ref p] ∧ (SqL K H p ys ∨ SqT K H p ys) ∧ ∀ l, H l = none → Q (.ref l) (upd H l (.lst ys))) fList := fun Γ σ H env ds R x d z hx hf Q q => by
  unfold fList at hf
  split at hf
  · obtain ⟨a, us, rfl, hS, hl, hA⟩ := hx.list
    cases hf
    exact ⟨a, us, rfl, .inl (SqL.of hS), fun p hp => q p us hp hl hA⟩
  · obtain ⟨a, us, rfl, hS, hl, hA⟩ := hx.tuple
    cases hf
    exact ⟨a, us, rfl, .inr (SqT.of hS), fun p hp => q p us hp hl hA⟩
  · cases hf
def boolsOf : List PyData → Option (List Bool)
  | [] => some []
  | .bool b :: r => (boolsOf r).map (b :: ·)
  | _ => none
def intsOf : List PyData → Option (List Int)
  | [] => some []
  | .int b :: r => (intsOf r).map (b :: ·)
  | _ => none
theorem boolsOf_eq : ∀ {xs : List PyData} {bs : List Bool}, boolsOf xs = some bs → xs = bs.map .bool
  | [], _, h => by cases h; rfl
  | .bool b :: r, _, h => by
    unfold boolsOf at h
    cases q : boolsOf r with
    | none => rw [q] at h; cases h
    | some bs' => rw [q] at h; cases h; rw [boolsOf_eq q]; rfl
  | .none :: _, _, h => by cases h
  | .int _ :: _, _, h => by cases h
  | .str _ :: _, _, h => by cases h
  | .list _ :: _, _, h => by cases h
  | .tuple _ :: _, _, h => by cases h
  | .dict _ :: _, _, h => by cases h
theorem intsOf_eq : ∀ {xs : List PyData} {bs : List Int}, intsOf xs = some bs → xs = bs.map .int
  | [], _, h => by cases h; rfl
  | .int b :: r, _, h => by
    unfold intsOf at h
    cases q : intsOf r with
    | none => rw [q] at h; cases h
    | some bs' => rw [q] at h; cases h; rw [intsOf_eq q]; rfl
  | .none :: _, _, h => by cases h
  | .bool _ :: _, _, h => by cases h
  | .str _ :: _, _, h => by cases h
  | .list _ :: _, _, h => by cases h
  | .tuple _ :: _, _, h => by cases h
  | .dict _ :: _, _, h => by cases h
theorem boolsOf_map : ∀ bs : List Bool, boolsOf (bs.map .bool) = some bs
  | [] => rfl
  | b :: r => by show (boolsOf (r.map .bool)).map (b :: ·) = _; rw [boolsOf_map r]; rfl
theorem intsOf_map : ∀ bs : List Int, intsOf (bs.map .int) = some bs
  | [] => rfl
  | b :: r => by show (intsOf (r.map .int)).map (b :: ·) = _; rw [intsOf_map r]; rfl
def fAll : PyData → Option PyData
  | .list xs => (boolsOf xs).map fun bs => .bool (bs.all id)
  | _ => none
def fAny : PyData → Option PyData
  | .list xs => (boolsOf xs).map fun bs => .bool (bs.any id)
  | _ => none
def fSum : PyData → Option PyData
  | .list xs => (intsOf xs).map fun bs => .int bs.sum
  | _ => none
theorem un_all : Un1 K (rAll K) fAll := Un1.same fun Γ σ H env x d z hx hf Q q => by
  unfold fAll at hf
  split at hf
  · obtain ⟨a, us, rfl, hS, hl, hA⟩ := hx.list
    obtain ⟨bs, e1, e2⟩ := Option.map_eq_some_iff.mp hf
    subst e2
    obtain rfl := boolsOf_eq e1
    rw [hA.bls_inv] at hS
    exact ⟨a, bs, rfl, SqL.of hS, q _ (.bl _)⟩
  · cases hf
theorem un_any : Un1 K (rAny K) fAny := Un1.same fun Γ σ H env x d z hx hf Q q => by
  unfold fAny at hf
  split at hf
  · obtain ⟨a, us, rfl, hS, hl, hA⟩ := hx.list
    obtain ⟨bs, e1, e2⟩ := Option.map_eq_some_iff.mp hf
    subst e2
    obtain rfl := boolsOf_eq e1
    rw [hA.bls_inv] at hS
    exact ⟨a, bs, rfl, SqL.of hS, q _ (.bl _)⟩
  · cases hf
theorem un_sum : Un1 K (rSum K) fSum := Un1.same fun Γ σ H env x d z hx hf Q q => by
  unfold fSum at hf
  split at hf
  · obtain ⟨a, us, rfl, hS, hl, hA⟩ := hx.list
    obtain ⟨bs, e1, e2⟩ := Option.map_eq_some_iff.mp hf
    subst e2
    obtain rfl := intsOf_eq e1
    rw [hA.ints_inv] at hS
    exact ⟨a, bs, rfl, SqL.of hS, q _ (.int _)⟩
  · cases hf
def fAbs : PyData → Option PyData
  | .int i => some (.int (if i < 0 then -i else i))
  | _ => none
theorem un_abs : Un1 K (fun xs H Q => ∃ i, xs = [.int i] ∧ Q (.int (if i < 0 then -i else i)) H) fAbs := Un1.same fun Γ σ H env x d z hx hf Q q => by
  unfold fAbs at hf
  split at hf
  · obtain rfl := hx.int
    cases hf
    exact ⟨_, rfl, q _ (.int _)⟩
  · cases hf
def fInt : PyData → Option PyData
  | .int i => some (.int i)
  | .bool b => some (.int (if b then 1 else 0))
  | _ => none
theorem un_int : Un1 K (fun xs H Q => (∃ i, xs = [.int i] ∧ Q (.int i) H) ∨ ∃ k, xs = [.bl k] ∧ Q (.int (if k then 1 else 0)) H) fInt := Un1.same fun Γ σ H env x d z hx hf Q q => by
  unfold fInt at hf
  split at hf
  · obtain rfl := hx.int
    cases hf
    exact .inl ⟨_, rfl, q _ (.int _)⟩
  · obtain rfl := hx.bool
    cases hf
    exact .inr ⟨_, rfl, q _ (.int _)⟩
  · cases hf
def maxOf : Int → List Int → Int
  | m, [] => m
  | m, x :: r => maxOf (if x > m then x else m) r
def minOf : Int → List Int → Int
  | m, [] => m
  | m, x :: r => minOf (if x < m then x else m) r
theorem maxOf_ge : ∀ (r : List Int) (m : Int), m ≤ maxOf m r ∧ (∀ x ∈ r, x ≤ maxOf m r) ∧ (maxOf m r = m ∨ maxOf m r ∈ r)
  | [], m => ⟨Int.le_refl _, (fun _ h => by cases h), .inl rfl⟩
  | x :: r, m => by
    obtain ⟨h1, h2, h3⟩ := maxOf_ge r (if x > m then x else m)
    refine ⟨?_, fun y hy => ?_, ?_⟩
    · show m ≤ maxOf (if x > m then x else m) r
      by_cases k : x > m
      · rw [if_pos k] at h1 ⊢; omega
      · rw [if_neg k] at h1 ⊢; exact h1
    · show y ≤ maxOf (if x > m then x else m) r
      rcases List.mem_cons.mp hy with rfl | hy
      · by_cases k : y > m
        · rw [if_pos k] at h1 ⊢; exact h1
        · rw [if_neg k] at h1 ⊢; omega
      · exact h2 y hy
    · show maxOf (if x > m then x else m) r = m ∨ maxOf (if x > m then x else m) r ∈ x :: r
      rcases h3 with h3 | h3
      · by_cases k : x > m
        · rw [if_pos k] at h3 ⊢; exact .inr (List.mem_cons.mpr (.inl h3))
        · rw [if_neg k] at h3 ⊢; exact .inl h3
      · exact .inr (List.mem_cons_of_mem _ h3)
theorem minOf_le : ∀ (r : List Int) (m : Int), minOf m r ≤ m ∧ (∀ x ∈ r, minOf m r ≤ x) ∧ (minOf m r = m ∨ minOf m r ∈ r)
  | [], m => ⟨Int.le_refl _, (fun _ h => by cases h), .inl rfl⟩
  | x :: r, m => by
    obtain ⟨h1, h2, h3⟩ := minOf_le r (if x < m then x else m)
    refine ⟨?_, fun y hy => ?_, ?_⟩
    · show minOf (if x < m then x else m) r ≤ m
      by_cases k : x < m
      · rw [if_pos k] at h1 ⊢; omega
      · rw [if_neg k] at h1 ⊢; exact h1
    · show minOf (if x < m then x else m) r ≤ y
      rcases List.mem_cons.mp hy with rfl | hy
      · by_cases k : y < m
        · rw [if_pos k] at h1 ⊢; exact h1
        · rw [if_neg k] at h1 ⊢; omega
      · exact h2 y hy
    · show minOf (if x < m then x else m) r = m ∨ minOf (if x < m then x else m) r ∈ x :: r
      rcases h3 with h3 | h3
      · by_cases k : x < m
        · rw [if_pos k] at h3 ⊢; exact .inr (List.mem_cons.mpr (.inl h3))
        · rw [if_neg k] at h3 ⊢; exact .inl h3
      · exact .inr (List.mem_cons_of_mem _ h3)
def fMax : PyData → Option PyData
  | .list xs => (intsOf xs).bind fun bs => match bs with | [] => none | m :: r => some (.int (maxOf m r))
  | _ => none
def fMin : PyData → Option PyData
  | .list xs => (intsOf xs).bind fun bs => match bs with | [] => none | m :: r => some (.int (minOf m r))
  | _ => none
theorem un_max : Un1 K (rMax K) fMax := Un1.same fun Γ σ H env x d z hx hf Q q => by
  unfold fMax at hf
  split at hf
  · obtain ⟨a, us, rfl, hS, hl, hA⟩ := hx.list
    obtain ⟨bs, e1, e2⟩ := Option.bind_eq_some_iff.mp hf
    obtain rfl := intsOf_eq e1
    rw [hA.ints_inv] at hS
    cases bs with
    | nil => cases e2
    | cons m r =>
      cases e2
      refine ⟨a, _, rfl, SqL.of hS, Nat.succ_pos _, fun k hk hle => ?_⟩
      obtain ⟨h1, h2, h3⟩ := maxOf_ge r m
      have e : k = maxOf m r := by
        have t1 : k ≤ maxOf m r := by
          rcases List.mem_cons.mp hk with rfl | hk
          · exact h1
          · exact h2 k hk
        have t2 : maxOf m r ≤ k := by
          rcases h3 with h3 | h3
          · rw [h3]; exact hle m List.mem_cons_self
          · exact hle _ (List.mem_cons_of_mem _ h3)
        omega
      rw [e]
      exact q _ (.int _)
  · cases hf
theorem un_min : Un1 K (rMin K) fMin := Un1.same fun Γ σ H env x d z hx hf Q q => by
  unfold fMin at hf
  split at hf
  · obtain ⟨a, us, rfl, hS, hl, hA⟩ := hx.list
    obtain ⟨bs, e1, e2⟩ := Option.bind_eq_some_iff.mp hf
    obtain rfl := intsOf_eq e1
    rw [hA.ints_inv] at hS
    cases bs with
    | nil => cases e2
    | cons m r =>
      cases e2
      refine ⟨a, _, rfl, SqL.of hS, Nat.succ_pos _, fun k hk hle => ?_⟩
      obtain ⟨h1, h2, h3⟩ := minOf_le r m
      have e : k = minOf m r := by
        have t1 : minOf m r ≤ k := by
          rcases List.mem_cons.mp hk with rfl | hk
          · exact h1
          · exact h2 k hk
        have t2 : k ≤ minOf m r := by
          rcases h3 with h3 | h3
          · rw [h3]; exact hle m List.mem_cons_self
          · exact hle _ (List.mem_cons_of_mem _ h3)
        omega
      rw [e]
      exact q _ (.int _)
  · cases hf
/-- isinstance(x, T) -/
def isOf (n : String) : PyData → Option Bool
  | .none => if n = "int" ∨ n = "bool" ∨ n = "tuple" ∨ n = "str" ∨ n = "list" then some false else none
  | .bool _ => if n = "int" ∨ n = "bool" then some true else if n = "tuple" ∨ n = "str" ∨ n = "list" then some false else none
  | .int _ => if n = "int" then some true else if n = "bool" ∨ n = "tuple" ∨ n = "str" ∨ n = "list" then some false else none
  | .str _ => if n = "str" then some true else if n = "bool" ∨ n = "tuple" ∨ n = "int" ∨ n = "list" then some false else none
  | .list _ => if n = "list" then some true else if n = "bool" ∨ n = "tuple" ∨ n = "int" ∨ n = "str" then some false else none
  | .tuple _ => if n = "tuple" then some true else if n = "bool" ∨ n = "list" ∨ n = "int" ∨ n = "str" then some false else none
  | .dict _ => none
def mIsi (n : Nat) (a : ME PyData) : ME PyData := a.bind fun x => ME.lift ((isOf (["int", "bool", "tuple", "str", "list"].getD n "") x).map .bool)
theorem tyX_of {Γ : Gm} {σ : St} {env : Ev} {H : Hp} {v : V} {d : PyData} (h : MP K Γ σ env H v d) : (d = .none ∧ TyX K H v (.type "NoneType")) ∨ ((∃ b, d = .bool b) ∧ TyX K H v (.type "bool")) ∨ ((∃ b, d = .int b) ∧ TyX K H v (.type "int")) ∨
    ((∃ b, d = .str b) ∧ TyX K H v (.type "str")) ∨ ((∃ b, d = .list b) ∧ TyX K H v (.type "list")) ∨ ((∃ b, d = .tuple b) ∧ TyX K H v (.type "tuple")) := by
  cases d with
  | none => obtain rfl := h.none; exact .inl ⟨rfl, .base .non⟩
  | bool b => obtain rfl := h.bool; exact .inr (.inl ⟨⟨_, rfl⟩, .base (.bl _)⟩)
  | int b => obtain rfl := h.int; exact .inr (.inr (.inl ⟨⟨_, rfl⟩, .base (.int _)⟩))
  | str b => obtain rfl := h.str; exact .inr (.inr (.inr (.inl ⟨⟨_, rfl⟩, .base (.str _)⟩)))
  | list b =>
    obtain ⟨a, us, rfl, hS, hl, hA⟩ := h.list
    exact .inr (.inr (.inr (.inr (.inl ⟨⟨_, rfl⟩, .base (.lst hS)⟩))))
  | tuple b =>
    obtain ⟨a, us, rfl, hS, hl, hA⟩ := h.tuple
    refine .inr (.inr (.inr (.inr (.inr ⟨⟨_, rfl⟩, ?_⟩))))
    exact .base (.tup hS)
  | dict b =>
    rcases h with h | ⟨a, xs, ds, e1, e2, e3, e4, e5, e6⟩
    · cases h
    · cases e2
theorem kit_tab (a n : String) (b : Bool) (h : (a, n, b) ∈ [("NoneType", "int", false), ("NoneType", "bool", false), ("NoneType", "tuple", false), ("NoneType", "str", false), ("NoneType", "list", false), ("bool", "int", true), ("bool", "bool", true), ("bool", "tuple", false), ("bool", "str", false), ("bool", "list", false),
    ("int", "int", true), ("int", "bool", false), ("int", "tuple", false), ("int", "str", false), ("int", "list", false), ("str", "int", false), ("str", "bool", false), ("str", "tuple", false), ("str", "str", true), ("str", "list", false),
    ("list", "int", false), ("list", "bool", false), ("list", "tuple", false), ("list", "str", false), ("list", "list", true), ("tuple", "int", false), ("tuple", "bool", false), ("tuple", "tuple", true), ("tuple", "str", false), ("tuple", "list", false)]) : PySem.W.kitOne K (.type a) (.type n) = some b := by
  refine kit_ty ?_
  revert h
  have key : ([("NoneType", "int", false), ("NoneType", "bool", false), ("NoneType", "tuple", false), ("NoneType", "str", false), ("NoneType", "list", false), ("bool", "int", true), ("bool", "bool", true), ("bool", "tuple", false), ("bool", "str", false), ("bool", "list", false),
    ("int", "int", true), ("int", "bool", false), ("int", "tuple", false), ("int", "str", false), ("int", "list", false), ("str", "int", false), ("str", "bool", false), ("str", "tuple", false), ("str", "str", true), ("str", "list", false),
    ("list", "int", false), ("list", "bool", false), ("list", "tuple", false), ("list", "str", false), ("list", "list", true), ("tuple", "int", false), ("tuple", "bool", false), ("tuple", "tuple", true), ("tuple", "str", false), ("tuple", "list", false)].all fun (t : String × String × Bool) => decide (kitB t.1 t.2.1 = some t.2.2)) = true := by decide +kernel
  intro h
  exact of_decide_eq_true (List.all_eq_true.mp key _ h)
theorem se_isi {n : Nat} {q : Pos} {y : Str} (p1 : Pers M) (ha : PE X a (rdG M X.K C W ma)) (hm : X.mg "isinstance" = none) (hmn : X.mg y = none) (hy : bootBuiltins y = some (.type (["int", "bool", "tuple", "str", "list"].getD n ""))) (hn : n < 5) (hg : Gl X "isinstance" := by rfl) (hgn : Gl X y := by rfl)
    (hyn : y ≠ "__name__" := by decide) (hyd : (y == ("__debug__" : Str)) = false := by decide)
    (he : starEach [a, Expr.Name y q] X.env = (false, eval a X.env) :: starEach [Expr.Name y q] X.env := by rfl) (hs2 : starEach [Expr.Name y q] X.env = (false, eval (Expr.Name y q) X.env) :: starEach [] X.env := by rfl) (hpl : (backTo pos (starEach [Expr.Name y q] X.env)).any (·.1) = false := by rfl) :
    SE X C W (.Call (.Name "isinstance" p) [a, .Name y q] [] pos) (mIsi n ma) := by
  refine PE.imp (pe_callB call_isi hg hm PyProof.Rows.boot_isinstance (pa_cons ha (pa_cons (pe_bltn (v := .ty (["int", "bool", "tuple", "str", "list"].getD n "")) hgn hmn hy rfl hyn hyd) pa_nil hs2) he) (by decide) (by decide) he hpl) fun σ H Q ⟨Γ, env, ds, R, h⟩ => ⟨Γ, env, ds, R, h.bind.imp fun d ds1 H1 e1 d1 q x hx => ?_⟩
  obtain ⟨z, hz, q⟩ := lift_some q
  obtain ⟨b, hb, rfl⟩ := Option.map_eq_some_iff.mp hz
  have fin : ∀ t, TyX X.K H1 x (.type t) → PySem.W.kitOne X.K (.type t) (.type (["int", "bool", "tuple", "str", "list"].getD n "")) = some b → tCons (tC (V.ty (["int", "bool", "tuple", "str", "list"].getD n ""))) tNil σ H1 (fun xs H2 => rIsi X.K (x :: xs) H2 Q) := fun t ty k =>
    ⟨x, _, _, _, b, rfl, .ty _, ty, k, q H1 Ext.refl d1 _ (.bl b)⟩
  have hn5 : n = 0 ∨ n = 1 ∨ n = 2 ∨ n = 3 ∨ n = 4 := by omega
  rcases tyX_of (p1.pk hx) with ⟨rfl, ty⟩ | ⟨⟨_, rfl⟩, ty⟩ | ⟨⟨_, rfl⟩, ty⟩ | ⟨⟨_, rfl⟩, ty⟩ | ⟨⟨_, rfl⟩, ty⟩ | ⟨⟨_, rfl⟩, ty⟩ <;> rcases hn5 with rfl | rfl | rfl | rfl | rfl <;>
    (refine fin _ ty (kit_tab _ _ _ ?_); cases hb; decide)

/-! slices -/
def mPart (a : ME PyData) : ME (Option Int) := a.bind fun x => ME.lift (match x with | .int i => some (some i) | _ => none)
def mNoPart : ME (Option Int) := ME.pure none
def rdO (K : PySem.W.Frag) (C : Exs) (W : WX) (m : ME (Option Int)) : TO := fun σ H Q => ∃ Γ env ds, Rel K Γ σ H env ds ∧ Aft K C W Γ σ H (m env ds) fun o _ H' => Q o H'
abbrev SO (X : Cx) (C : Exs) (W : WX) (e : Option Expr) (m : ME (Option Int)) : Prop := PO X e (rdO X.K C W m)
theorem PO.imp {e : Option Expr} {t t' : TO} (h : PO X e t) (f : ∀ σ H Q, t' σ H Q → t σ H Q) : PO X e t' := ⟨fun pins s σ H Q I q => h.run pins s σ H Q I (f σ H Q q)⟩
theorem so_none : SO X C W none mNoPart := PO.imp po_none fun σ H Q ⟨Γ, env, ds, R, h⟩ => Aft.here h R.draw
theorem so_some (h : SE X C W a ma) : SO X C W (some a) (mPart ma) := PO.imp (po_some h) fun σ H Q ⟨Γ, env, ds, R, h⟩ => ⟨Γ, env, ds, R, h.bind.imp fun d ds1 H1 e1 d1 q x hx => by
  obtain ⟨z, hz, q⟩ := lift_some q
  cases d with
  | int i =>
    cases hx
    cases hz
    exact ⟨_, rfl, q H1 Ext.refl d1⟩
  | _ => cases hz⟩
def cutL {α : Type} (xs : List α) (lo hi : Option Int) : List α := (xs.drop (HT.sIx xs.length 0 lo)).take (HT.sIx xs.length xs.length hi - HT.sIx xs.length 0 lo)
def fSlice (d : PyData) (lo hi : Option Int) : Option PyData := match d with
  | .tuple xs => some (.tuple (cutL xs lo hi))
  | .list xs => some (.list (cutL xs lo hi))
  | .str z => if short z.length then some (.str (cutS z lo hi)) else none
  | _ => none
def mSlice (a : ME PyData) (l h : ME (Option Int)) : ME PyData := a.bind fun x => l.bind fun lo => h.bind fun hi => ME.lift (fSlice x lo hi)
theorem DfAll.cut {H : Hp} {g : Addr → Prop} {us : List V} {xs : List PyData} (h : DfAll K H g us xs) (lo hi : Option Int) : DfAll K H g (cutV us lo hi) (cutL xs lo hi) := by
  unfold cutV cutL
  rw [h.length]
  exact (h.drop _).take _
variable {lo hi : Option Expr} {ml mh : ME (Option Int)}
theorem se_slice (p1 : Pers M) (ha : PE X a (rdG M X.K C W ma)) (hl : SO X C W lo ml) (hh : SO X C W hi mh) : SE X C W (.Subscript a (.Slice lo hi none p2) pos) (mSlice ma ml mh) :=
  PE.imp (pe_slice (SlR.or sl_tupA (SlR.or sl_list sl_str)) ha hl hh) fun σ H Q ⟨Γ, env, ds, R, h⟩ => ⟨Γ, env, ds, R, h.bind.imp fun d ds1 H1 e1 d1 q x hx => ⟨Γ, env, ds1, R.go e1 d1, q.bind.imp fun l ds2 H2 e2 d2 q => ⟨Γ, env, ds2, (R.go e1 d1).go e2 d2, q.bind.imp fun u ds3 H3 e3 d3 q => by
    obtain ⟨z, hz, q⟩ := lift_some q
    have hx3 := p1.pk (p1.ext e3 d2 (p1.ext e2 d1 hx))
    have R3 := ((R.go e1 d1).go e2 d2).go e3 d3
    unfold fSlice at hz
    split at hz
    · obtain ⟨p, us, rfl, hS, hl, hA⟩ := hx3.tuple
      cases hz
      refine .inl ⟨p, us, rfl, SqT.of hS, fun hw => ?_, fun _ t ht => ?_⟩
      · refine q H3 Ext.refl d3 _ ?_
        rw [show cutL _ l u = _ from by unfold cutL; rw [← hA.length, hw.1, hw.2, List.drop_zero, Nat.sub_zero, hA.length, List.take_length]]
        exact .tup hS hl hA
      · obtain ⟨e4, d4, h4⟩ := new_tup R3 (hA.cut l u) (Nat.le_trans (cutV_length _ _ _) hl) ht
        exact q _ e4 d4 _ h4
    · obtain ⟨p, us, rfl, hS, hl, hA⟩ := hx3.list
      cases hz
      refine .inr (.inl ⟨p, us, rfl, SqL.of hS, fun t ht => ?_⟩)
      obtain ⟨e4, d4, h4⟩ := new_lst R3 (hA.cut l u) (Nat.le_trans (cutV_length _ _ _) hl) ht
      exact q _ e4 d4 _ h4
    · obtain rfl := hx3.str
      split at hz
      · rename_i hs
        cases hz
        exact .inr (.inr ⟨_, rfl, short_iff hs, q H3 Ext.refl d3 _ (.str _)⟩)
      · cases hz
    · cases hz⟩⟩⟩
/-- a slice of a list as a new list -/
def mSliceF (a : ME PyData) (l h : ME (Option Int)) : ME (List PyData) := a.bind fun x => l.bind fun lo => h.bind fun hi => ME.lift (match x with | .list xs => some (cutL xs lo hi) | _ => none)
theorem sf_slice (p1 : Pers M) (ha : PE X a (rdG M X.K C W ma)) (hl : SO X C W lo ml) (hh : SO X C W hi mh) : SF X C W (.Subscript a (.Slice lo hi none p2) pos) (mSliceF ma ml mh) :=
  PE.imp (pe_slice sl_list ha hl hh) fun σ H Q ⟨Γ, env, ds, R, h⟩ => ⟨Γ, env, ds, R, h.bind.imp fun d ds1 H1 e1 d1 q x hx => ⟨Γ, env, ds1, R.go e1 d1, q.bind.imp fun l ds2 H2 e2 d2 q => ⟨Γ, env, ds2, (R.go e1 d1).go e2 d2, q.bind.imp fun u ds3 H3 e3 d3 q => by
    obtain ⟨z, hz, q⟩ := lift_some q
    have hx3 := p1.pk (p1.ext e3 d2 (p1.ext e2 d1 hx))
    have R2 := (R.go e1 d1).go e2 d2
    cases d with
    | list xs =>
      obtain ⟨p, us, rfl, hS, hl, hA⟩ := hx3.list
      cases hz
      refine ⟨p, us, rfl, SqL.of hS, fun t ht => ?_⟩
      exact q _ (ext_new ht) (d3.new ht) t _ (R.none_back ((e1.trans e2).trans e3) d3 ht) upd_same (Nat.le_trans (cutV_length _ _ _) hl) ((hA.cut l u).newx ht d3)
    | _ => cases hz⟩⟩⟩
end
end DL

/-! DL5: statements by their meaning. -/
namespace DL
open PySem PySem.Spec L2
open PyProof.Rows hiding St

/-! ### slots stored -/
section
variable {K : PySem.W.Frag} {Γ : Gm} {σ : St} {H H1 : Hp} {env env' : Ev} {ds ds1 : DS}
/-- a slot that may be stored: it isn't walked -/
def notLk (env : Ev) (i : Nat) : Bool := match env[i]? with
  | some (.lk _) => false
  | _ => true
def put (i : Nat) (x : Sl) (env : Ev) : Option Ev := if notLk env i && decide (i < env.length) then some (env.set i x) else none
theorem put_some {i : Nat} {x : Sl} (h : put i x env = some env') : (∀ xs, env[i]? ≠ some (.lk xs)) ∧ i < env.length ∧ env' = env.set i x := by
  unfold put at h
  split at h
  · rename_i hc
    rw [Bool.and_eq_true] at hc
    cases h
    refine ⟨fun xs q => ?_, of_decide_eq_true hc.2, rfl⟩
    have := hc.1
    unfold notLk at this
    rw [q] at this
    cases this
  · cases h
theorem owned_set_d {i : Nat} {v : V} {x : Sl} (hx : x.own = false) {a : Addr} (h : owned (σ.set i (some v)) (env.set i x) a) : owned σ env a ∧ True := by
  obtain ⟨j, y, h1, h2, h3⟩ := h
  refine ⟨?_, trivial⟩
  by_cases e : i = j
  · subst e
    by_cases hl : i < env.length
    · rw [List.getElem?_set_self hl] at h1
      cases h1
      rw [hx] at h2
      cases h2
    · rw [List.getElem?_eq_none (by rw [List.length_set]; omega)] at h1
      cases h1
  · rw [List.getElem?_set_ne e] at h1 h3
    exact ⟨j, y, h1, h2, h3⟩
theorem gd_set_d {i : Nat} {v : V} {x : Sl} (hx : x.own = false) {a : Addr} (h : gd Γ σ env a) : gd Γ (σ.set i (some v)) (env.set i x) a := ⟨h.1, fun q => h.2.1 (owned_set_d hx q).1, h.2.2⟩
/-- what a slot tells, under more good addresses -/
theorem SlR.mono {g g' : Addr → Prop} {v : Option (Option V)} {x : Sl} (h : SlR K Γ H g v x) (hg : ∀ a, g a → g' a) : SlR K Γ H g' v x := by
  have m : ∀ {us : List V} {xs : List PyData}, DfAll K H g us xs → DfAll K H g' us xs := fun q => q.mono (fun a u z e => ⟨hg a z, e⟩) fun _ _ z => z
  cases x with
  | un => trivial
  | d y =>
    obtain ⟨u, e1, e2⟩ := h
    exact ⟨u, e1, e2.mono (fun a u z e => ⟨hg a z, e⟩) fun _ _ z => z⟩
  | l xs =>
    obtain ⟨a, us, e1, e2, e3, e4⟩ := h
    exact ⟨a, us, e1, e2, m e3, e4⟩
  | lk xs =>
    obtain ⟨a, us, e1, e2, e3, e4⟩ := h
    exact ⟨a, us, e1, e2, m e3, e4⟩
  | dc t0 xs =>
    obtain ⟨a, us, e1, e2, e3, e4⟩ := h
    exact ⟨a, us, e1, e2, m e3, e4⟩
  | drw => exact h
  | scr ns => exact h
/-- a slot is stored with what owns nothing -/
theorem Rel.set_n (R : Rel K Γ σ H env ds) {i : Nat} {v : V} {x : Sl} (hx : x.own = false) (h : SlR K Γ H (gd Γ σ env) (some (some v)) x) (hp : put i x env = some env') : Rel K Γ (σ.set i (some v)) H env' ds := by
  obtain ⟨h1, h2, rfl⟩ := put_some hp
  refine ⟨by rw [List.length_set, List.length_set]; exact R.len, fun j y hy => ?_, fun j k y z hjk hj hk oj ok => ?_, R.okf, R.ext, R.draw, fun p e q => R.drc p e (owned_set_d hx q).1, fun p hp => ?_⟩
  · by_cases e : i = j
    · subst e
      rw [List.getElem?_set_self h2] at hy
      cases hy
      rw [List.getElem?_set_self (by rw [R.len]; exact h2)]
      exact h.mono fun a q => gd_set_d hx q
    · rw [List.getElem?_set_ne e] at hy ⊢
      exact (R.slot j y hy).mono fun a q => gd_set_d hx q
  · have n1 : i ≠ j := fun e => by
      subst e
      rw [List.getElem?_set_self h2] at hj
      cases hj
      rw [hx] at oj
      cases oj
    have n2 : i ≠ k := fun e => by
      subst e
      rw [List.getElem?_set_self h2] at hk
      cases hk
      rw [hx] at ok
      cases ok
    rw [List.getElem?_set_ne n1] at hj ⊢
    rw [List.getElem?_set_ne n2] at hk ⊢
    exact R.sep j k y z hjk hj hk oj ok
  · obtain ⟨xs, e1, e2⟩ := R.lkd p hp
    have n1 : i ≠ p.1 := fun e => by
      subst e
      exact h1 xs e1
    exact ⟨xs, by rw [List.getElem?_set_ne n1]; exact e1, by rw [List.getElem?_set_ne n1]; exact e2⟩
theorem Rel.set_d (R : Rel K Γ σ H env ds) {i : Nat} {v : V} {x : PyData} (h : Df K H (gd Γ σ env) v x) (hp : put i (.d x) env = some env') : Rel K Γ (σ.set i (some v)) H env' ds := R.set_n (x := .d x) rfl ⟨v, rfl, h⟩ hp
/-- a slot is stored with a new list: at H the address was free, since then H1 came about -/
theorem Rel.set_l (R : Rel K Γ σ H env ds) (e : Ext Γ H H1) (d : DrR K Γ H1 ds1) {i : Nat} {p : Addr} {us : List V} {xs : List PyData} (hf : H p = none) (hH : H1 p = some (.lst us)) (hl : us.length ≤ sizeLine) (hA : DfAll K H1 (gdx Γ σ env p) us xs) (hp : put i (.l xs) env = some env') :
    Rel K Γ (σ.set i (some (.ref p))) H1 env' ds1 := by
  obtain ⟨h1, h2, rfl⟩ := put_some hp
  have h3 : i < σ.length := by rw [R.len]; exact h2
  have R1 := R.go e d
  have np := R.new_gd hf
  -- what owns afterwards: p, or another slot
  have ow : ∀ a, owned (σ.set i (some (.ref p))) (env.set i (.l xs)) a → a = p ∨ owned σ env a := by
    rintro a ⟨j, y, q1, q2, q3⟩
    by_cases z : i = j
    · subst z
      rw [List.getElem?_set_self h3] at q3
      cases q3
      exact .inl rfl
    · rw [List.getElem?_set_ne z] at q1 q3
      exact .inr ⟨j, y, q1, q2, q3⟩
  have gx : ∀ a, gd Γ σ env a → a ≠ p → gd Γ (σ.set i (some (.ref p))) (env.set i (.l xs)) a := fun a q n => ⟨q.1, fun z => (ow a z).elim n q.2.1, q.2.2⟩
  -- what was told at H keeps away from p
  have keep : ∀ {v : Option (Option V)} {y : Sl}, SlR K Γ H (gd Γ σ env) v y → SlR K Γ H1 (gd Γ (σ.set i (some (.ref p))) (env.set i (.l xs))) v y := by
    intro v y q
    have m : ∀ {u : V} {x : PyData}, Df K H (gd Γ σ env) u x → Df K H1 (gd Γ (σ.set i (some (.ref p))) (env.set i (.l xs))) u x := fun q =>
      (q.avoid hf).mono (fun a u z k => ⟨gx a z.1 z.2, e a _ z.1.2.2 k⟩) fun _ _ z => tup_ext e R.draw z
    have ms : ∀ {u : List V} {x : List PyData}, DfAll K H (gd Γ σ env) u x → DfAll K H1 (gd Γ (σ.set i (some (.ref p))) (env.set i (.l xs))) u x := fun q =>
      (q.avoid hf).mono (fun a u z k => ⟨gx a z.1 z.2, e a _ z.1.2.2 k⟩) fun _ _ z => tup_ext e R.draw z
    cases y with
    | un => trivial
    | d x =>
      obtain ⟨u, q1, q2⟩ := q
      exact ⟨u, q1, m q2⟩
    | l x =>
      obtain ⟨a, u, q1, q2, q3, q4, q5, q6⟩ := q
      exact ⟨a, u, q1, e a _ q6 q2, ms q3, q4, q5, q6⟩
    | lk x =>
      obtain ⟨a, u, q1, q2, q3, q4, q5, q6⟩ := q
      exact ⟨a, u, q1, e a _ q6 q2, ms q3, q4, q5, q6⟩
    | dc t0 x =>
      obtain ⟨a, u, q1, q2, q3, q4, q5, q6⟩ := q
      exact ⟨a, u, q1, e a _ q6 q2, ms q3, q4, q5, q6⟩
    | drw => exact q
    | scr ns =>
      obtain ⟨a, q1, q2, q3⟩ := q
      exact ⟨a, q1, scr_ext e R.draw q2, q3⟩
  have free : Γ.H0 p = none := by
    cases q : Γ.H0 p with
    | none => rfl
    | some o =>
      have := R.ext p o np.2.2 q
      rw [hf] at this
      cases this
  -- an owning slot stands elsewhere
  have apart : ∀ (j : Nat) (y : Sl), env[j]? = some y → y.own = true → σ[j]? ≠ some (some (.ref p)) := fun j y hy oy z => by
    obtain ⟨us', q, _⟩ := R.own_at ⟨j, y, hy, oy, z⟩
    rw [hf] at q
    cases q
  refine ⟨by rw [List.length_set, List.length_set]; exact R.len, fun j y hy => ?_, fun j k y z hjk hj hk oj ok => ?_, R.okf, R1.ext, d, fun q eq z => ?_, fun q hq => ?_⟩
  · by_cases z : i = j
    · subst z
      rw [List.getElem?_set_self h2] at hy
      cases hy
      rw [List.getElem?_set_self h3]
      exact ⟨p, us, rfl, hH, hA.mono (fun a u q k => ⟨gx a q.1 q.2, k⟩) (fun _ _ q => q), hl, free, np.2.2⟩
    · rw [List.getElem?_set_ne z] at hy ⊢
      exact keep (R.slot j y hy)
  · by_cases n1 : i = j
    · subst n1
      have n2 : i ≠ k := hjk
      rw [List.getElem?_set_ne n2] at hk ⊢
      rw [List.getElem?_set_self h3]
      exact fun z' => apart k z hk ok z'.symm
    · rw [List.getElem?_set_ne n1] at hj ⊢
      by_cases n2 : i = k
      · subst n2
        rw [List.getElem?_set_self h3]
        exact fun z' => apart j y hj oj z'
      · rw [List.getElem?_set_ne n2] at hk ⊢
        exact R.sep j k y z hjk hj hk oj ok
  · rcases ow _ z with z | z
    · -- the cells' list was there at H
      have dd := R.draw
      unfold DrR at dd
      rw [eq] at dd
      cases hds : ds with
      | none => rw [hds] at dd; exact dd
      | some s =>
        rw [hds] at dd
        have := dd.2.1
        rw [z, hf] at this
        cases this
    · exact R.drc q eq z
  · obtain ⟨ys, e1, e2⟩ := R.lkd q hq
    have n1 : i ≠ q.1 := fun z => by
      subst z
      exact h1 ys e1
    exact ⟨ys, by rw [List.getElem?_set_ne n1]; exact e1, by rw [List.getElem?_set_ne n1]; exact e2⟩
/-- one's own list is changed -/
theorem Rel.upd_l (R : Rel K Γ σ H env ds) {i : Nat} {a : Addr} {us' : List V} {xs xs' : List PyData} (hs : env[i]? = some (.l xs)) (hv : σ[i]? = some (some (.ref a))) (hl : us'.length ≤ sizeLine) (hA : DfAll K H (gd Γ σ env) us' xs') :
    Rel K Γ σ (upd H a (.lst us')) (env.set i (.l xs')) ds := by
  have q := R.slot i _ hs
  obtain ⟨b, us0, e1, e2, e3, e4, e5, e6⟩ := q
  rw [hv] at e1
  cases e1
  have h2 : i < env.length := (List.getElem?_eq_some_iff.mp hs).1
  have oa : owned σ env a := ⟨i, _, hs, rfl, hv⟩
  have ow : ∀ c, owned σ (env.set i (.l xs')) c ↔ owned σ env c := fun c => by
    constructor
    · rintro ⟨j, y, q1, q2, q3⟩
      by_cases z : i = j
      · subst z
        exact ⟨i, _, hs, rfl, q3⟩
      · rw [List.getElem?_set_ne z] at q1
        exact ⟨j, y, q1, q2, q3⟩
    · rintro ⟨j, y, q1, q2, q3⟩
      by_cases z : i = j
      · subst z
        exact ⟨i, .l xs', by rw [List.getElem?_set_self h2], rfl, q3⟩
      · exact ⟨j, y, by rw [List.getElem?_set_ne z]; exact q1, q2, q3⟩
  have gg : ∀ c, gd Γ σ env c → gd Γ σ (env.set i (.l xs')) c ∧ c ≠ a := fun c q => ⟨⟨q.1, fun z => q.2.1 ((ow c).mp z), q.2.2⟩, fun z => q.2.1 (by rw [z]; exact oa)⟩
  have tq : ∀ c u, H c = some (.tup u) → upd H a (.lst us') c = some (.tup u) := fun c u q => by
    rw [upd_ne (ne_of q e2 (by intro z; cases z))]; exact q
  have m : ∀ {u : V} {x : PyData}, Df K H (gd Γ σ env) u x → Df K (upd H a (.lst us')) (gd Γ σ (env.set i (.l xs'))) u x := fun q =>
    q.mono (fun c u z k => ⟨(gg c z).1, by rw [upd_ne (gg c z).2]; exact k⟩) tq
  have ms : ∀ {u : List V} {x : List PyData}, DfAll K H (gd Γ σ env) u x → DfAll K (upd H a (.lst us')) (gd Γ σ (env.set i (.l xs'))) u x := fun q =>
    q.mono (fun c u z k => ⟨(gg c z).1, by rw [upd_ne (gg c z).2]; exact k⟩) tq
  refine ⟨by rw [List.length_set]; exact R.len, fun j y hy => ?_, fun j k y z hjk hj hk oj ok => ?_, R.okf, fun c o n q => ?_, ?_, fun p e z => R.drc p e ((ow _).mp z), fun p hp => ?_⟩
  · by_cases z : i = j
    · subst z
      rw [List.getElem?_set_self h2] at hy
      cases hy
      exact ⟨a, us', hv, upd_same, ms hA, hl, e5, e6⟩
    · rw [List.getElem?_set_ne z] at hy
      have q := R.slot j y hy
      have ne : ∀ b, y.own = true → σ[j]? = some (some (.ref b)) → b ≠ a := fun b oy e w => R.sep i j _ y z hs hy rfl oy (by rw [hv, e, w])
      cases y with
      | un => trivial
      | d x =>
        obtain ⟨u, q1, q2⟩ := q
        exact ⟨u, q1, m q2⟩
      | l x =>
        obtain ⟨b, u, q1, q2, q3, q4⟩ := q
        exact ⟨b, u, q1, by rw [upd_ne (ne b rfl q1)]; exact q2, ms q3, q4⟩
      | lk x =>
        obtain ⟨b, u, q1, q2, q3, q4⟩ := q
        exact ⟨b, u, q1, by rw [upd_ne (ne b rfl q1)]; exact q2, ms q3, q4⟩
      | dc t0 x =>
        obtain ⟨b, u, q1, q2, q3, q4⟩ := q
        exact ⟨b, u, q1, by rw [upd_ne (ne b rfl q1)]; exact q2, ms q3, q4⟩
      | drw => exact q
      | scr ns =>
        obtain ⟨b, q1, q2, q3⟩ := q
        refine ⟨b, q1, ?_, q3⟩
        rcases q2 with ⟨o, q2⟩ | q2
        · refine .inl ⟨o, ?_⟩
          rw [upd_ne (ne_of q2 e2 (by intro z; cases z))]
          exact q2
        · exact .inr q2
  · have hj' : ∃ y', env[j]? = some y' ∧ y'.own = true := by
      by_cases z : i = j
      · subst z; exact ⟨_, hs, rfl⟩
      · rw [List.getElem?_set_ne z] at hj; exact ⟨y, hj, oj⟩
    have hk' : ∃ y', env[k]? = some y' ∧ y'.own = true := by
      by_cases z : i = k
      · subst z; exact ⟨_, hs, rfl⟩
      · rw [List.getElem?_set_ne z] at hk; exact ⟨_, hk, ok⟩
    obtain ⟨y1, q1, q2⟩ := hj'
    obtain ⟨y2, q3, q4⟩ := hk'
    exact R.sep j k y1 y2 hjk q1 q3 q2 q4
  · have w := R.ext c o n q
    have : c ≠ a := fun z => by rw [z, e5] at q; cases q
    rw [upd_ne this]
    exact w
  · have dd := R.draw
    unfold DrR at dd ⊢
    cases hdr : Γ.dr with
    | none =>
      rw [hdr] at dd
      cases ds with
      | none => trivial
      | some s => exact dd
    | some p =>
      rw [hdr] at dd
      cases ds with
      | none => exact dd
      | some s =>
        obtain ⟨d1, d2, d3⟩ := dd
        refine ⟨by rw [upd_ne fun z => e6 p hdr z.symm]; exact d1, ?_, d3⟩
        have : p.2 ≠ a := fun z => R.drc p hdr (by rw [z]; exact oa)
        rw [upd_ne this]
        exact d2
  · obtain ⟨ys, q1, q2⟩ := R.lkd p hp
    have n1 : i ≠ p.1 := fun z => by
      subst z
      rw [hs] at q1
      cases q1
    exact ⟨ys, by rw [List.getElem?_set_ne n1]; exact q1, q2⟩
end

/-! ### meanings of statements -/
inductive Fl where
  | nx (env : Ev)
  | bk (env : Ev)
  | ct (env : Ev)
  | rt (d : PyData)
  | ex (x : Exn) (env : Ev)
abbrev MS := Ev → DS → Option (Fl × DS)
/-- what is handed back: data; where fr, a new list -/
def RetR (fr : Bool) (K : PySem.W.Frag) (Γ : Gm) (H : Hp) (ds : DS) (v : V) (d : PyData) : Prop :=
  Ext Γ Γ.H0 H ∧ DrR K Γ H ds ∧ if fr = true then ∃ p us xs, v = .ref p ∧ d = .list xs ∧ Γ.H0 p = none ∧ Γ.nd p ∧ H p = some (.lst us) ∧ us.length ≤ sizeLine ∧ DfAll K H (fun a => (Γ.ok a ∧ Γ.nd a) ∧ a ≠ p) us xs
    else Df K H (fun a => Γ.ok a ∧ Γ.nd a) v d
def rdS (K : PySem.W.Frag) (C : Exs) (W : WX) (fr : Bool) (m : MS) : TS := fun D σ H => ∃ Γ env ds, Rel K Γ σ H env ds ∧
  match m env ds with
  | some (.nx env', ds') => ∀ σ' H', Rel K Γ σ' H' env' ds' → D.nx σ' H'
  | some (.bk env', ds') => ∀ σ' H', Rel K Γ σ' H' env' ds' → D.bk σ' H'
  | some (.ct env', ds') => ∀ σ' H', Rel K Γ σ' H' env' ds' → D.ct σ' H'
  | some (.rt d, ds') => ∀ v H', RetR fr K Γ H' ds' v d → D.rt v H'
  | some (.ex x env', ds') => ∀ cls dd σ' H', Rel K Γ σ' H' env' ds' → ExR C x cls dd H' → W cls dd σ' H'
  | none => False
/-- the same as a statement about a result -/
def Aft2 (K : PySem.W.Frag) (C : Exs) (W : WX) (fr : Bool) (Γ : Gm) (D : Ends) (r : Option (Fl × DS)) : Prop :=
  match r with
  | some (.nx env', ds') => ∀ σ' H', Rel K Γ σ' H' env' ds' → D.nx σ' H'
  | some (.bk env', ds') => ∀ σ' H', Rel K Γ σ' H' env' ds' → D.bk σ' H'
  | some (.ct env', ds') => ∀ σ' H', Rel K Γ σ' H' env' ds' → D.ct σ' H'
  | some (.rt d, ds') => ∀ v H', RetR fr K Γ H' ds' v d → D.rt v H'
  | some (.ex x env', ds') => ∀ cls dd σ' H', Rel K Γ σ' H' env' ds' → ExR C x cls dd H' → W cls dd σ' H'
  | none => False
theorem rdS_iff {K : PySem.W.Frag} {C : Exs} {W : WX} {fr : Bool} {m : MS} {D : Ends} {σ : St} {H : Hp} : rdS K C W fr m D σ H ↔ ∃ Γ env ds, Rel K Γ σ H env ds ∧ Aft2 K C W fr Γ D (m env ds) := Iff.rfl
abbrev SS (X : Cx) (C : Exs) (W : WX) (fr : Bool) (st : Stmt) (m : MS) : Prop := PS X st (rdS X.K C W fr m)
abbrev SSs (X : Cx) (C : Exs) (W : WX) (fr : Bool) (st : List Stmt) (m : MS) : Prop := PSs X st (rdS X.K C W fr m)
theorem PS.imp {X : Cx} {st : Stmt} {t t' : TS} (h : PS X st t) (f : ∀ D σ H, t' D σ H → t D σ H) : PS X st t' := ⟨fun pins s σ H D I q => h.run pins s σ H D I (f D σ H q)⟩
theorem PSs.imp {X : Cx} {st : List Stmt} {t t' : TS} (h : PSs X st t) (f : ∀ D σ H, t' D σ H → t D σ H) : PSs X st t' := ⟨fun pins s σ H D I q => h.run pins s σ H D I (f D σ H q)⟩
/-- from an expression's result to a statement's -/
def exS {α : Type} (a : ME α) (f : α → MS) : MS := fun env ds => match a env ds with
  | some (.ok x, ds') => f x env ds'
  | some (.exc e, ds') => some (.ex e env, ds')
  | none => none
def mSkip : MS := fun env ds => some (.nx env, ds)
def mSeq (a b : MS) : MS := fun env ds => match a env ds with
  | some (.nx env', ds') => b env' ds'
  | r => r
def mSet (i : Nat) (a : ME PyData) : MS := exS a fun x env ds => match put i (.d x) env with
  | some env' => some (.nx env', ds)
  | none => none
def mSetL (i : Nat) (a : ME (List PyData)) : MS := exS a fun xs env ds => match put i (.l xs) env with
  | some env' => some (.nx env', ds)
  | none => none
def mDrop (a : ME PyData) : MS := exS a fun _ => mSkip
def mRet (a : ME PyData) : MS := exS a fun x _ ds => some (.rt x, ds)
def mRetF (a : ME (List PyData)) : MS := exS a fun x _ ds => some (.rt (.list x), ds)
def mRetN : MS := fun _ ds => some (.rt .none, ds)
def mIfS (c : ME Bool) (a b : MS) : MS := exS c fun x => if x then a else b
def mRaise (x : Exn) : MS := fun env ds => some (.ex x env, ds)
def mBrk : MS := fun env ds => some (.bk env, ds)
def mCont : MS := fun env ds => some (.ct env, ds)
def mNever : MS := fun _ _ => none

section
variable {X : Cx} {C : Exs} {W : WX} {fr : Bool} {st : Stmt} {rest : List Stmt} {m m1 m2 : MS} {e : Expr} {me : ME PyData} {mf : ME (List PyData)} {pos : Pos}
theorem exS_aft {K : PySem.W.Frag} {α : Type} {a : ME α} {f : α → MS} {Γ : Gm} {σ : St} {H : Hp} {env : Ev} {ds : DS} {D : Ends} (R : Rel K Γ σ H env ds) (h : Aft2 K C W fr Γ D (exS a f env ds)) :
    Aft K C W Γ σ H (a env ds) fun x ds1 H1 => Aft2 K C W fr Γ D (f x env ds1) := by
  unfold exS at h
  unfold Aft
  rcases q : a env ds with _ | ⟨x | x, ds1⟩
  · rw [q] at h; exact h
  · rw [q] at h; exact fun H1 e1 d1 => h
  · rw [q] at h
    exact fun cls d H1 e1 d1 hx => h cls d σ H1 (R.go e1 d1) hx
theorem ss_pass : SS X C W fr (.Pass pos) mSkip := PS.imp ps_pass fun D σ H ⟨Γ, env, ds, R, h⟩ => h σ H R
theorem ss_break : SS X C W fr (.Break pos) mBrk := PS.imp ps_break fun D σ H ⟨Γ, env, ds, R, h⟩ => h σ H R
theorem ss_cont : SS X C W fr (.Continue pos) mCont := PS.imp ps_continue fun D σ H ⟨Γ, env, ds, R, h⟩ => h σ H R
theorem sss_nil : SSs X C W fr [] mSkip := PSs.imp pss_nil fun D σ H ⟨Γ, env, ds, R, h⟩ => h σ H R
theorem sss_one (h : SS X C W fr st m) : SSs X C W fr [st] m := pss_one h
theorem seq_aft {K : PySem.W.Frag} {Γ : Gm} {D : Ends} {env : Ev} {ds : DS} (h : Aft2 K C W fr Γ D (mSeq m1 m2 env ds)) : Aft2 K C W fr Γ { D with nx := rdS K C W fr m2 D } (m1 env ds) := by
  unfold mSeq at h
  rcases q : m1 env ds with _ | ⟨f, ds1⟩
  · rw [q] at h; exact h
  · rw [q] at h
    cases f with
    | nx env' => exact fun σ' H' R' => ⟨Γ, env', ds1, R', h⟩
    | bk env' => exact h
    | ct env' => exact h
    | rt d => exact h
    | ex x env' => exact h
theorem sss_cons (h1 : SS X C W fr st m1) (h2 : SSs X C W fr rest m2) : SSs X C W fr (st :: rest) (mSeq m1 m2) :=
  PSs.imp (pss_cons h1 h2) fun D σ H ⟨Γ, env, ds, R, h⟩ => ⟨Γ, env, ds, R, seq_aft h⟩
theorem ss_set (i : Nat) {x : Str} {pos' : Pos} (hN : X.N.Nodup) (he : SE X C W e me) (hi : X.N[i]? = some x := by rfl) (hx : Loc X.env.scope x := by exact .inl rfl) (hs : swapsWith e (some (.Name x pos')) pos.line X.env = pure false := by rfl)
    (hf : X.fn x = true ∨ X.env.scope.names.lookup x = some .local := by first | exact .inl rfl | exact .inr rfl) : SS X C W fr (.Assign [.Name x pos'] e pos) (mSet i me) :=
  PS.imp (ps_set hN hi hx he hs hf) fun D σ H ⟨Γ, env, ds, R, h⟩ => ⟨Γ, env, ds, R, (exS_aft R h).imp fun d ds1 H1 e1 d1 q v hv => by
    cases hp : put i (.d d) env with
    | none => rw [hp] at q; exact q.elim
    | some env' =>
      rw [hp] at q
      exact q _ _ ((R.go e1 d1).set_d hv hp)⟩
theorem ss_setL (i : Nat) {x : Str} {pos' : Pos} (hN : X.N.Nodup) (he : SF X C W e mf) (hi : X.N[i]? = some x := by rfl) (hx : Loc X.env.scope x := by exact .inl rfl) (hs : swapsWith e (some (.Name x pos')) pos.line X.env = pure false := by rfl)
    (hf : X.fn x = true ∨ X.env.scope.names.lookup x = some .local := by first | exact .inl rfl | exact .inr rfl) : SS X C W fr (.Assign [.Name x pos'] e pos) (mSetL i mf) :=
  PS.imp (ps_set hN hi hx he hs hf) fun D σ H ⟨Γ, env, ds, R, h⟩ => ⟨Γ, env, ds, R, (exS_aft R h).imp fun d ds1 H1 e1 d1 q a us h1 h2 h3 h4 => by
    cases hp : put i (.l d) env with
    | none => rw [hp] at q; exact q.elim
    | some env' =>
      rw [hp] at q
      exact q _ _ (R.set_l e1 d1 h1 h2 h3 h4 hp)⟩
theorem ss_expr (he : SE X C W e me) (hs : swapsWith e none pos.line X.env = pure false := by rfl) : SS X C W fr (.Expr e pos) (mDrop me) :=
  PS.imp (ps_expr he hs) fun D σ H ⟨Γ, env, ds, R, h⟩ => ⟨Γ, env, ds, R, (exS_aft R h).imp fun d ds1 H1 e1 d1 q v hv => q _ _ (R.go e1 d1)⟩
theorem ss_ret (he : SE X C W e me) : SS X C W false (.Return (some e) pos) (mRet me) :=
  PS.imp (ps_ret he) fun D σ H ⟨Γ, env, ds, R, h⟩ => ⟨Γ, env, ds, R, (exS_aft R h).imp fun d ds1 H1 e1 d1 q v hv => q v H1 ⟨R.ext.trans e1, d1, hv.mono (fun a u z k => ⟨⟨z.1, z.2.2⟩, k⟩) fun _ _ z => z⟩⟩
theorem ss_retN : SS X C W false (.Return none pos) mRetN :=
  PS.imp ps_retN fun D σ H ⟨Γ, env, ds, R, h⟩ => h .non H ⟨R.ext, R.draw, .non⟩
theorem ss_retF (he : SF X C W e mf) : SS X C W true (.Return (some e) pos) (mRetF mf) :=
  PS.imp (ps_ret he) fun D σ H ⟨Γ, env, ds, R, h⟩ => ⟨Γ, env, ds, R, (exS_aft R h).imp fun d ds1 H1 e1 d1 q a us h1 h2 h3 h4 => by
    have np := R.new_gd h1
    refine q (.ref a) H1 ⟨R.ext.trans e1, d1, ?_⟩
    rw [if_pos rfl]
    refine ⟨a, us, d, rfl, rfl, ?_, np.2.2, h2, h3, h4.mono (fun b u z k => ⟨⟨⟨z.1.1, z.1.2.2⟩, z.2⟩, k⟩) fun _ _ z => z⟩
    cases q' : Γ.H0 a with
    | none => rfl
    | some o =>
      have := R.ext a o np.2.2 q'
      rw [h1] at this
      cases this⟩
/-- one's own list is handed back -/
def mRetL (i : Nat) : MS := fun env ds => match env[i]? with
  | some (.l xs) => some (.rt (.list xs), ds)
  | _ => none
theorem ss_retL (i : Nat) {x : Str} {p : Pos} (hN : X.N[i]? = some x := by rfl) (hv : Vis X.env.scope x := by first | exact Or.inl rfl | exact Or.inr (Or.inl rfl) | exact Or.inr (Or.inr rfl)) (hd : (x == ("__debug__" : Str)) = false := by decide)
    (hcd : (x == ("__classdict__" : Str)) = false := by decide) (fr : Bool) : SS X C W fr (.Return (some (.Name x p)) pos) (mRetL i) :=
  PS.imp (ps_ret (pe_var hN hv hd hcd)) fun D σ H ⟨Γ, env, ds, R, h⟩ => by
    unfold mRetL at h
    cases q : env[i]? with
    | none => rw [q] at h; exact h.elim
    | some x =>
      rw [q] at h
      have s := R.slot i x q
      cases x with
      | l xs =>
        obtain ⟨a, us, e1, e2, e3, e4, e5, e6⟩ := s
        refine ⟨_, e1, h (.ref a) H ⟨R.ext, R.draw, ?_⟩⟩
        have oa : owned σ env a := ⟨i, _, q, rfl, e1⟩
        cases fr with
        | true =>
          rw [if_pos rfl]
          exact ⟨a, us, xs, rfl, rfl, e5, e6, e2, e4, e3.mono (fun b u z k => ⟨⟨⟨z.1, z.2.2⟩, fun w => z.2.1 (by rw [w]; exact oa)⟩, k⟩) fun _ _ z => z⟩
        | false =>
          rw [if_neg Bool.false_ne_true]
          exact .lst ⟨R.okf a e5, e6⟩ e2 e4 (e3.mono (fun b u z k => ⟨⟨z.1, z.2.2⟩, k⟩) fun _ _ z => z)
      | _ => exact h.elim
theorem ss_if {c : Expr} {a b : List Stmt} {mc : ME Bool} (hc : ST X C W c mc) (ha : SSs X C W fr a m1) (hb : SSs X C W fr b m2) : SS X C W fr (.If c a b pos) (mIfS mc m1 m2) :=
  PS.imp (ps_if hc ha hb) fun D σ H ⟨Γ, env, ds, R, h⟩ => ⟨Γ, env, ds, R, (exS_aft R h).imp fun d ds1 H1 e1 d1 q => by
    cases d with
    | true =>
      rw [if_pos rfl]
      exact ⟨Γ, env, ds1, R.go e1 d1, q⟩
    | false =>
      rw [if_neg Bool.false_ne_true]
      exact ⟨Γ, env, ds1, R.go e1 d1, q⟩⟩
theorem ss_raise {x n : Str} {j : Nat} {p p2 p3 : Pos} {Cm : Addr} (hc : X.calm = true) (tk : Takes X W) (hC : C.m = Cm) (q : PySem.W.excIn X.K Cm [.type "ValueError", .type "Exception", .type "BaseException", .type "object"] "ValueError.__new__" = true) (gC : X.mg x = some (.ref Cm)) (kC : PySem.W.keepIn X.K (.ref Cm) = true) (r : Raises X (.ref Cm)) (hg : Gl X x)
    (hdb : (x == ("__debug__" : Str)) = false := by decide) : SS X C W fr (.Raise (some (.Call (.Name x p) [.Constant (.str n) j p2] [] p3)) none pos) (mRaise .malformed) :=
  PS.imp (ps_raise hc tk (pmk_own PySem.F.excBase_ValueError q gC kC r hg hdb)) fun D σ H ⟨Γ, env, ds, R, h⟩ => h _ none σ H R ⟨by rw [hC], rfl⟩
end
end DL

/-! DL6: targets, loops, comprehensions. -/
namespace DL
open PySem PySem.Spec L2
open PyProof.Rows hiding St

/-! ### another ground -/
section
variable {K : PySem.W.Frag} {C : Exs} {W : WX} {fr : Bool} {Γ : Gm} {σ σ' : St} {H H1 H' : Hp} {env env' : Ev} {ds ds' : DS}
open Classical in
noncomputable def Gm.at (Γ : Gm) (σ : St) (env : Ev) (H : Hp) : Gm := { Γ with H0 := fun a => if owned σ env a then none else H a }
open Classical in
theorem Gm.at_some {a : Addr} {o : HO} (h : ¬ owned σ env a) (e : H a = some o) : (Γ.at σ env H).H0 a = some o := by
  show (if owned σ env a then none else H a) = some o
  rw [if_neg h]
  exact e
open Classical in
theorem Gm.at_none {a : Addr} (h : (Γ.at σ env H).H0 a = none) : owned σ env a ∨ H a = none := by
  by_cases q : owned σ env a
  · exact .inl q
  · refine .inr ?_
    have h' : (if owned σ env a then none else H a) = none := h
    rw [if_neg q] at h'
    exact h'
open Classical in
theorem Gm.at_le {a : Addr} {o : HO} (h : (Γ.at σ env H).H0 a = some o) : H a = some o := by
  have h' : (if owned σ env a then none else H a) = some o := h
  split at h'
  · cases h'
  · exact h'
open Classical in
theorem Gm.at_owned {a : Addr} (h : owned σ env a) : (Γ.at σ env H).H0 a = none := by
  show (if owned σ env a then none else H a) = none
  rw [if_pos h]
theorem Rel.rebase (R : Rel K Γ σ H env ds) : Rel K (Γ.at σ env H) σ H env ds where
  len := R.len
  slot := fun i x hx => by
    have q := R.slot i x hx
    cases x with
    | un => trivial
    | d y => exact q
    | l xs =>
      obtain ⟨a, us, e1, e2, e3, e4, e5, e6⟩ := q
      exact ⟨a, us, e1, e2, e3, e4, Gm.at_owned ⟨i, _, hx, rfl, e1⟩, e6⟩
    | lk xs =>
      obtain ⟨a, us, e1, e2, e3, e4, e5, e6⟩ := q
      exact ⟨a, us, e1, e2, e3, e4, Gm.at_owned ⟨i, _, hx, rfl, e1⟩, e6⟩
    | dc t0 xs =>
      obtain ⟨a, us, e1, e2, e3, e4, e5, e6⟩ := q
      exact ⟨a, us, e1, e2, e3, e4, Gm.at_owned ⟨i, _, hx, rfl, e1⟩, e6⟩
    | drw => exact q
    | scr ns => exact q
  sep := R.sep
  okf := fun a h => by
    rcases Gm.at_none h with q | q
    · obtain ⟨_, _, _, e, _⟩ := R.own_at q
      exact R.okf a e
    · exact (R.new_gd q).1
  ext := fun a o _ h => Gm.at_le h
  draw := R.draw
  drc := R.drc
  lkd := R.lkd
theorem Gm.at_free (R : Rel K Γ σ H env ds) {a : Addr} (h : (Γ.at σ env H).H0 a = none) : Γ.H0 a = none := by
  rcases Gm.at_none h with q | q
  · obtain ⟨_, _, _, e, _⟩ := R.own_at q
    exact e
  · cases k : Γ.H0 a with
    | none => rfl
    | some o =>
      have := R.ext a o (R.new_gd q).2.2 k
      rw [q] at this
      cases this
theorem Gm.at_ext (R : Rel K Γ σ H env ds) (e : Ext (Γ.at σ env H) (Γ.at σ env H).H0 H') : Ext Γ Γ.H0 H' := fun a o n h => by
  refine e a o n (Gm.at_some (fun q => ?_) (R.ext a o n h))
  obtain ⟨_, _, _, z, _⟩ := R.own_at q
  rw [h] at z
  cases z
theorem Rel.unbase (R : Rel K Γ σ H env ds) (R' : Rel K (Γ.at σ env H) σ' H' env' ds') : Rel K Γ σ' H' env' ds' where
  len := R'.len
  slot := fun i x hx => by
    have q := R'.slot i x hx
    cases x with
    | un => trivial
    | d y => exact q
    | l xs =>
      obtain ⟨a, us, e1, e2, e3, e4, e5, e6⟩ := q
      exact ⟨a, us, e1, e2, e3, e4, Gm.at_free R e5, e6⟩
    | lk xs =>
      obtain ⟨a, us, e1, e2, e3, e4, e5, e6⟩ := q
      exact ⟨a, us, e1, e2, e3, e4, Gm.at_free R e5, e6⟩
    | dc t0 xs =>
      obtain ⟨a, us, e1, e2, e3, e4, e5, e6⟩ := q
      exact ⟨a, us, e1, e2, e3, e4, Gm.at_free R e5, e6⟩
    | drw => exact q
    | scr ns => exact q
  sep := R'.sep
  okf := R.okf
  ext := Gm.at_ext R R'.ext
  draw := R'.draw
  drc := R'.drc
  lkd := R'.lkd
theorem RetR.unbase (R : Rel K Γ σ H env ds) {v : V} {d : PyData} (h : RetR fr K (Γ.at σ env H) H' ds' v d) : RetR fr K Γ H' ds' v d := by
  obtain ⟨h1, h2, h3⟩ := h
  refine ⟨Gm.at_ext R h1, h2, ?_⟩
  cases fr with
  | true =>
    rw [if_pos rfl] at h3 ⊢
    obtain ⟨p, us, xs, e1, e2, e3, e4⟩ := h3
    exact ⟨p, us, xs, e1, e2, Gm.at_free R e3, e4⟩
  | false => exact h3
theorem Aft2.rebase (R : Rel K Γ σ H env ds) {D : Ends} {r : Option (Fl × DS)} (h : Aft2 K C W fr Γ D r) : Aft2 K C W fr (Γ.at σ env H) D r := by
  rcases r with _ | ⟨f, ds1⟩
  · exact h
  · cases f with
    | nx e => exact fun σ' H' R' => h σ' H' (R.unbase R')
    | bk e => exact fun σ' H' R' => h σ' H' (R.unbase R')
    | ct e => exact fun σ' H' R' => h σ' H' (R.unbase R')
    | rt d => exact fun v H' q => h v H' (q.unbase R)
    | ex x e => exact fun cls dd σ' H' R' hx => h cls dd σ' H' (R.unbase R') hx
end

/-! ### targets -/
abbrev Tg := PyData → Ev → Option Ev
abbrev Tgs := List PyData → Ev → Option Ev
/-- slots but those of is stand as they stood -/
def SameBut (is : List Nat) (σ σ' : St) : Prop := σ'.length = σ.length ∧ ∀ j, j ∉ is → σ'[j]? = σ[j]?
def EvBut (is : List Nat) (env env' : Ev) : Prop := env'.length = env.length ∧ ∀ j, j ∉ is → env'[j]? = env[j]?
def rdTg (K : PySem.W.Frag) (is : List Nat) (t : Tg) : TG := fun v σ H Q => ∃ Γ env ds d env', Rel K Γ σ H env ds ∧ Df K H (gd Γ σ env) v d ∧ t d env = some env' ∧ ∀ σ', Rel K Γ σ' H env' ds → SameBut is σ σ' → EvBut is env env' → Q σ' H
def rdTgs (K : PySem.W.Frag) (is : List Nat) (t : Tgs) : TGs := fun vs σ H Q => ∃ Γ env ds d env', Rel K Γ σ H env ds ∧ DfAll K H (gd Γ σ env) vs d ∧ t d env = some env' ∧ ∀ σ', Rel K Γ σ' H env' ds → (∀ a, gd Γ σ env a → gd Γ σ' env' a) → SameBut is σ σ' → EvBut is env env' → Q σ' H
def rdTgm (K : PySem.W.Frag) (is : List Nat) (t : Tg) : TG := fun v σ H Q => ∃ Γ env ds d env', Rel K Γ σ H env ds ∧ Df K H (gd Γ σ env) v d ∧ t d env = some env' ∧ ∀ σ', Rel K Γ σ' H env' ds → (∀ a, gd Γ σ env a → gd Γ σ' env' a) → SameBut is σ σ' → EvBut is env env' → Q σ' H
abbrev SG (X : Cx) (tg : Expr) (is : List Nat) (t : Tg) : Prop := PG X tg (rdTgm X.K is t)
abbrev SGs (X : Cx) (tg : List Expr) (is : List Nat) (t : Tgs) : Prop := PGs X tg (rdTgs X.K is t)
def tName (i : Nat) : Tg := fun d env => put i (.d d) env
def tTup (n : Nat) (ts : Tgs) : Tg := fun d env => match d with
  | .tuple xs => if xs.length = n then ts xs env else none
  | _ => none
def tNilT : Tgs := fun xs env => if xs.isEmpty then some env else none
def tConsT (t : Tg) (ts : Tgs) : Tgs := fun xs env => match xs with
  | x :: r => (t x env).bind (ts r)
  | [] => none
section
variable {X : Cx} {e : Expr} {es : List Expr} {is js : List Nat} {t : Tg} {ts : Tgs} {pos : Pos}
theorem PG.imp {X : Cx} {e : Expr} {t t' : TG} (h : PG X e t) (f : ∀ v σ H Q, t' v σ H Q → t v σ H Q) : PG X e t' := ⟨fun pins s σ H v u Q I r q => h.run pins s σ H v u Q I r (f v σ H Q q)⟩
theorem PGs.imp {X : Cx} {e : List Expr} {t t' : TGs} (h : PGs X e t) (f : ∀ v σ H Q, t' v σ H Q → t v σ H Q) : PGs X e t' := ⟨fun pins s σ H vs us Q I r q => h.run pins s σ H vs us Q I r (f vs σ H Q q)⟩
theorem sg_name (i : Nat) {x : Str} (hN : X.N.Nodup) (hi : X.N[i]? = some x := by rfl) (hx : Loc X.env.scope x := by exact .inl rfl) (hf : X.fn x = true ∨ X.env.scope.names.lookup x = some .local := by first | exact .inl rfl | exact .inr rfl) : SG X (.Name x pos) [i] (tName i) :=
  PG.imp (pg_name hN hi hx hf) fun v σ H Q ⟨Γ, env, ds, d, env', R, hv, ht, q⟩ => by
    obtain ⟨h1, h2, h3⟩ := put_some ht
    refine q _ (R.set_d hv ht) (fun a z => by rw [h3]; exact gd_set_d rfl z) ⟨List.length_set .., fun j hj => ?_⟩ ⟨by rw [h3, List.length_set], fun j hj => ?_⟩
    · rw [List.getElem?_set_ne fun z => hj (by rw [z]; exact List.mem_cons_self)]
    · rw [h3, List.getElem?_set_ne fun z => hj (by rw [z]; exact List.mem_cons_self)]
theorem sgs_nil : SGs X [] [] tNilT := PGs.imp pgs_nil fun v σ H Q ⟨Γ, env, ds, d, env', R, hv, ht, q⟩ => by
  unfold tNilT at ht
  split at ht
  · rename_i hd
    cases ht
    cases d with
    | nil =>
      cases hv
      exact ⟨rfl, q σ R (fun _ z => z) ⟨rfl, fun _ _ => rfl⟩ ⟨rfl, fun _ _ => rfl⟩⟩
    | cons x r => cases hd
  · cases ht
theorem sgs_cons (h1 : SG X e is t) (h2 : SGs X es js ts) (hs : (assignEach (e :: es) X.env).map (·.2) = assign e X.env :: (assignEach es X.env).map (·.2) := by rfl) : SGs X (e :: es) (is ++ js) (tConsT t ts) :=
  PGs.imp (pgs_cons h1 h2 hs) fun v σ H Q ⟨Γ, env, ds, d, env', R, hv, ht, q⟩ => by
    cases hv with
    | nil => cases ht
    | cons a b =>
      obtain ⟨env1, q1, q2⟩ := Option.bind_eq_some_iff.mp (show (t _ env).bind _ = some env' from ht)
      refine ⟨_, _, rfl, Γ, env, ds, _, env1, R, a, q1, fun σ1 R1 g1 s1 v1 => ?_⟩
      refine ⟨Γ, env1, ds, _, env', R1, b.mono (fun c u z k => ⟨g1 c z, k⟩) (fun _ _ z => z), q2, fun σ2 R2 g2 s2 v2 => ?_⟩
      refine q σ2 R2 (fun c z => g2 c (g1 c z)) ⟨s2.1.trans s1.1, fun j hj => ?_⟩ ⟨v2.1.trans v1.1, fun j hj => ?_⟩
      · exact (s2.2 j fun z => hj (List.mem_append_right _ z)).trans (s1.2 j fun z => hj (List.mem_append_left _ z))
      · exact (v2.2 j fun z => hj (List.mem_append_right _ z)).trans (v1.2 j fun z => hj (List.mem_append_left _ z))
theorem sg_tup {k n : Nat} (hc : X.calm = true) (h : SGs X es is ts) (hn : (assignEach es X.env).length = n := by rfl) (hst : (assignEach es X.env).findIdx? (·.1) = none := by rfl) : SG X (.Tuple es k pos) is (tTup n ts) :=
  PG.imp (pg_tup hc h hn hst) fun v σ H Q ⟨Γ, env, ds, d, env', R, hv, ht, q⟩ => by
    unfold tTup at ht
    split at ht
    · split at ht
      · rename_i hl
        cases hv with
        | tup a1 a2 a3 => exact ⟨_, _, rfl, SqT.of a1, a3.length.trans hl, Γ, env, ds, _, env', R, a3, ht, q⟩
      · cases ht
    · cases ht
/-- target = data -/
def mAsg (t : Tg) (a : ME PyData) : MS := exS a fun x env ds => match t x env with
  | some env' => some (.nx env', ds)
  | none => none
theorem ss_asg {C : Exs} {W : WX} {fr : Bool} {tg : Expr} {me : ME PyData} (he : SE X C W e me) (hg : SG X tg is t) (hs : swapsWithSole [tg] e pos.line X.env = pure false := by rfl) (hw : swappedStores [tg] e X.env = pure none := by rfl)
    (h1 : (assignEach [tg] X.env).map (·.2) = [assign tg X.env] := by rfl) : SS X C W fr (.Assign [tg] e pos) (mAsg t me) :=
  PS.imp (ps_asg he hg hs hw h1) fun D σ H ⟨Γ, env, ds, R, h⟩ => ⟨Γ, env, ds, R, (exS_aft R h).imp fun d ds1 H1 e1 d1 q v hv => by
    cases ht : t d env with
    | none => rw [ht] at q; exact q.elim
    | some env' =>
      rw [ht] at q
      exact ⟨Γ, env, ds1, d, env', R.go e1 d1, hv, ht, fun σ' R' _ _ _ => q σ' H1 R'⟩⟩
end

/-! ### what is walked -/
structure Wlk (K : PySem.W.Frag) (J : It) (items : List PyData) (g : Addr → Prop) (H : Hp) : Prop where
  go : ∀ i, i < items.length → J.go i H
  yld : ∀ i x H', i < items.length → J.yld i H x H' → ∃ d, items[i]? = some d ∧ (∀ a o, H a = some o → H' a = some o) ∧ Df K H' g x d
  stop : ∀ i, items.length ≤ i → J.stop i H
theorem Wlk.mono {K : PySem.W.Frag} {J : It} {items : List PyData} {g g' : Addr → Prop} {H : Hp} (h : Wlk K J items g H) (hg : ∀ a, g a → g' a) : Wlk K J items g' H :=
  ⟨h.go, fun i x H' hi q => let ⟨d, e1, e2, e3⟩ := h.yld i x H' hi q; ⟨d, e1, e2, e3.mono (fun a u z k => ⟨hg a z, k⟩) fun _ _ z => z⟩, h.stop⟩
def Kept (Γ : Gm) (σ : St) (env : Ev) (H H' : Hp) : Prop := ∀ a o, ¬ owned σ env a → Γ.nd a → (∀ us, o = .lst us → Γ.ok a) → H a = some o → H' a = some o
def Wk (K : PySem.W.Frag) (Γ : Gm) (σ : St) (env : Ev) (J : It) (items : List PyData) (H : Hp) : Prop := ∀ H2, Kept Γ σ env H H2 → Wlk K J items (fun b => gd Γ σ env b ∧ H b ≠ none) H2
def rdI (K : PySem.W.Frag) (C : Exs) (W : WX) (mi : ME (List PyData)) : TI := fun σ H R => ∃ Γ env ds, Rel K Γ σ H env ds ∧ Aft K C W Γ σ H (mi env ds) fun items _ H' => ∀ J, Wk K Γ σ env J items H' → R J H'
abbrev SI (X : Cx) (C : Exs) (W : WX) (tg iter : Expr) (mi : ME (List PyData)) : Prop := PI X tg iter (rdI X.K C W mi)
theorem PI.imp {X : Cx} {tg e : Expr} {t t' : TI} (h : PI X tg e t) (f : ∀ σ H Q, t' σ H Q → t σ H Q) : PI X tg e t' := ⟨fun pins s σ H Q I q => h.run pins s σ H Q I (f σ H Q q)⟩
section
variable {K : PySem.W.Frag} {Γ : Gm} {σ : St} {env : Ev} {H H2 : Hp} {ds : DS}
theorem kept_nd (R : Rel K Γ σ H env ds) {a : Addr} {o : HO} (h : H a = some o) (hn : ¬ MutO o) : ¬ owned σ env a ∧ Γ.nd a := by
  refine ⟨fun q => ?_, fun p e z => ?_⟩
  · obtain ⟨_, e, mo, _⟩ := R.own_at q
    rw [h] at e
    cases e
    exact hn mo
  · have d := R.draw
    unfold DrR at d
    rw [e] at d
    cases ds with
    | none => exact d
    | some s =>
      have := d.1
      rw [← z, h] at this
      cases this
      exact hn (.inl ⟨_, rfl⟩)
theorem kept_sqT (R : Rel K Γ σ H env ds) (k : Kept Γ σ env H H2) {a : Addr} {u : List V} (h : SqT K H a u) : SqT K H2 a u := by
  rcases h with (h | ⟨o, h⟩) | h
  · obtain ⟨n1, n2⟩ := kept_nd R h imm_tup
    exact .inl (.inl (k a _ n1 n2 (fun _ z => by cases z) h))
  · obtain ⟨n1, n2⟩ := kept_nd R h imm_frz
    exact .inl (.inr ⟨o, k a _ n1 n2 (fun _ z => by cases z) h⟩)
  · exact .inr h
theorem kept_tup (R : Rel K Γ σ H env ds) (k : Kept Γ σ env H H2) {a : Addr} {u : List V} (h : H a = some (.tup u)) : H2 a = some (.tup u) := by
  obtain ⟨n1, n2⟩ := kept_nd R h imm_tup
  exact k a _ n1 n2 (fun _ z => by cases z) h
theorem kept_dfAll (R : Rel K Γ σ H env ds) (k : Kept Γ σ env H H2) {u : List V} {x : List PyData} (h : DfAll K H (gd Γ σ env) u x) : DfAll K H2 (fun b => gd Γ σ env b ∧ H b ≠ none) u x :=
  h.mono (fun a u z e => ⟨⟨z, by rw [e]; intro w; cases w⟩, k a _ z.2.1 z.2.2 (fun _ _ => z.1) e⟩) fun _ _ z => kept_tup R k z
/-- SqL, SqT tell one thing, by the data's length and items -/
theorem wk_list (R : Rel K Γ σ H env ds) {a : Addr} {us : List V} {xs : List PyData} (h1 : gd Γ σ env a) (h2 : H a = some (.lst us)) (h3 : DfAll K H (gd Γ σ env) us xs) : Wk K Γ σ env (Itl K a) xs H := fun H2 k => by
  have s2 : H2 a = some (.lst us) := k a _ h1.2.1 h1.2.2 (fun _ _ => h1.1) h2
  have d2 := kept_dfAll R k h3
  refine ⟨fun i hi => ?_, fun i x H' hi q => ?_, fun i hi => ⟨us, SqL.of s2, by rw [h3.length]; exact hi⟩⟩
  · rw [← h3.length] at hi
    exact ⟨us, us[i], SqL.of s2, List.getElem?_eq_getElem hi⟩
  · obtain ⟨rfl, q⟩ := q
    obtain ⟨d, e1, e2⟩ := d2.getV (q us (SqL.of s2))
    exact ⟨d, e1, fun _ _ z => z, e2⟩
theorem wk_tup (R : Rel K Γ σ H env ds) {a : Addr} {us : List V} {xs : List PyData} (h2 : SqT K H a us) (h3 : DfAll K H (gd Γ σ env) us xs) : Wk K Γ σ env (Itt K a) xs H := fun H2 k => by
  have s2 := kept_sqT R k h2
  have d2 := kept_dfAll R k h3
  refine ⟨fun i hi => ?_, fun i x H' hi q => ?_, fun i hi => ⟨us, s2, by rw [h3.length]; exact hi⟩⟩
  · rw [← h3.length] at hi
    exact ⟨us, us[i], s2, List.getElem?_eq_getElem hi⟩
  · obtain ⟨rfl, q⟩ := q
    obtain ⟨d, e1, e2⟩ := d2.getV (q us s2)
    exact ⟨d, e1, fun _ _ z => z, e2⟩
def rangeD (lo : Int) (n : Nat) : List PyData := (List.range n).map fun (k : Nat) => PyData.int (lo + (k : Int))
theorem wk_range {lo : Int} {n : Nat} : Wk K Γ σ env (Itr lo n) (rangeD lo n) H := fun H2 k => by
  have hl : (rangeD lo n).length = n := by unfold rangeD; rw [List.length_map, List.length_range]
  refine ⟨fun i hi => by rw [hl] at hi; exact hi, fun i x H' hi q => ?_, fun i hi => by rw [hl] at hi; exact hi⟩
  obtain ⟨rfl, rfl⟩ := q
  rw [hl] at hi
  refine ⟨_, ?_, fun _ _ z => z, .int _⟩
  unfold rangeD
  rw [List.getElem?_map, List.getElem?_range hi]
  rfl
end
/-! sources -/
def itemsOf : PyData → Option (List PyData)
  | .list xs => some xs
  | .tuple xs => some xs
  | _ => none
def mItems (a : ME PyData) : ME (List PyData) := a.bind fun x => ME.lift (itemsOf x)
def mRng1 (a : ME PyData) : ME (List PyData) := a.bind fun x => ME.lift (match x with | .int j => if decide (-(2 ^ 62) ≤ j ∧ j < 2 ^ 62) then some (rangeD 0 j.toNat) else none | _ => none)
def mRng2 (a b : ME PyData) : ME (List PyData) := a.bind fun x => b.bind fun y => ME.lift (match x, y with | .int i, .int j => if decide (-(2 ^ 62) ≤ i ∧ i < 2 ^ 62 ∧ -(2 ^ 62) ≤ j ∧ j < 2 ^ 62) then some (rangeD i (j - i).toNat) else none | _, _ => none)
section
variable {X : Cx} {C : Exs} {W : WX} {tg e a b : Expr} {me ma mb : ME PyData} {p pos : Pos}
/-- a list or a tuple that is walked -/
def iSeq (K : PySem.W.Frag) (tl : TE) : TI := fun σ H R => tl σ H fun x H1 => ∃ a, x = .ref a ∧ (((∃ xs, SqL K H1 a xs) ∧ R (Itl K a) H1) ∨ ((∃ xs, SqT K H1 a xs) ∧ R (Itt K a) H1))
theorem pi_seq {tl : TE} (hl : PE X e tl) : PI X tg e (iSeq X.K tl) := ⟨fun pins s σ H R I h =>
  thn (hl.run pins s σ H _ I h) fun v s1 ⟨x, H1, I1, r1, a, ex, q⟩ => by
    subst ex
    cases r1
    rcases q with ⟨⟨xs, hq⟩, q⟩ | ⟨⟨xs, hq⟩, q⟩
    · obtain ⟨its, rv, pl, hz⟩ := I1.list hq
      exact wpAny_pyIter_list pl.isList (pi_one (tk := s1.toks) I1 _ (turn_list a _) ⟨_, Heap.get?_push_size _ rfl, rfl, rfl⟩ q)
    · obtain ⟨its, rv, pl, hz⟩ := I1.tuple hq
      exact wpAny_pyIter_tuple (show s1.heap.IsTuple a its.toArray from pl) (pi_one (tk := s1.toks) I1 _ (turn_tuple a _) ⟨_, Heap.get?_push_size _ rfl, rfl, rfl⟩ q)⟩
theorem si_seq (he : SE X C W e me) : SI X C W tg e (mItems me) :=
  PI.imp (pi_seq he) fun σ H Q ⟨Γ, env, ds, R, h⟩ => ⟨Γ, env, ds, R, h.bind.imp fun d ds1 H1 e1 d1 q v hv => by
    obtain ⟨z, hz, q⟩ := lift_some q
    have R1 := R.go e1 d1
    cases d with
    | list xs =>
      cases hz
      cases hv with
      | lst a1 a2 a3 a4 => exact ⟨_, rfl, .inl ⟨⟨_, SqL.of a2⟩, q H1 Ext.refl d1 _ (wk_list R1 a1 a2 a4)⟩⟩
    | tuple xs =>
      cases hz
      cases hv with
      | tup a2 a3 a4 => exact ⟨_, rfl, .inr ⟨⟨_, SqT.of a2⟩, q H1 Ext.refl d1 _ (wk_tup R1 (SqT.of a2) a4)⟩⟩
    | _ => cases hz⟩
theorem si_rng1 (hm : X.mg "range" = none) (ha : SE X C W a ma) (hg : Gl X "range" := by rfl) (h1 : starEach (a :: []) X.env = (false, eval a X.env) :: starEach [] X.env := by rfl) (hs : starEach [a] X.env = [(false, eval a X.env)] := by rfl) : SI X C W tg (.Call (.Name "range" p) [a] [] pos) (mRng1 ma) :=
  PI.imp (pi_range1 hg hm (pa_cons ha pa_nil h1) hs) fun σ H Q ⟨Γ, env, ds, R, h⟩ => ⟨Γ, env, ds, R, h.bind.imp fun d ds1 H1 e1 d1 q v hv => by
    obtain ⟨z, hz, q⟩ := lift_some q
    cases d with
    | int j =>
      cases hv
      dsimp only at hz
      split at hz
      · rename_i hc
        cases hz
        have hc := of_decide_eq_true hc
        exact ⟨j, rfl, hc.1, hc.2, q H1 Ext.refl d1 _ wk_range⟩
      · cases hz
    | _ => cases hz⟩
theorem si_rng2 (hm : X.mg "range" = none) (ha : SE X C W a ma) (hb : SE X C W b mb) (hg : Gl X "range" := by rfl) (h1 : starEach (a :: [b]) X.env = (false, eval a X.env) :: starEach [b] X.env := by rfl) (h2 : starEach (b :: []) X.env = (false, eval b X.env) :: starEach [] X.env := by rfl)
    (h3 : starEach [a, b] X.env = [(false, eval a X.env), (false, eval b X.env)] := by rfl) : SI X C W tg (.Call (.Name "range" p) [a, b] [] pos) (mRng2 ma mb) :=
  PI.imp (pi_range2 hg hm (pa_cons ha (pa_cons hb pa_nil h2) h1) h3 h2) fun σ H Q ⟨Γ, env, ds, R, h⟩ => ⟨Γ, env, ds, R, h.bind.imp fun d ds1 H1 e1 d1 q v hv => ⟨Γ, env, ds1, R.go e1 d1, q.bind.imp fun d2 ds2 H2 e2 d2' q w hw => by
    obtain ⟨z, hz, q⟩ := lift_some q
    cases d with
    | int i =>
      cases d2 with
      | int j =>
        cases hv
        cases hw
        dsimp only at hz
        split at hz
        · rename_i hc
          cases hz
          have hc := of_decide_eq_true hc
          exact ⟨i, j, rfl, hc, q H2 Ext.refl d2' _ wk_range⟩
        · cases hz
      | _ => cases hz
    | _ => cases hz⟩⟩
end

/-! ### for -/
def forGo (t : Tg) (body : MS) : List PyData → Ev → DS → Option (Fl × DS)
  | [], env, ds => some (.nx env, ds)
  | x :: r, env, ds => match t x env with
    | none => none
    | some env1 => match body env1 ds with
      | some (.nx e, ds') => forGo t body r e ds'
      | some (.ct e, ds') => forGo t body r e ds'
      | some (.bk e, ds') => some (.nx e, ds')
      | some (.rt d, ds') => some (.rt d, ds')
      | some (.ex x e, ds') => some (.ex x e, ds')
      | none => none
def mFor (mi : ME (List PyData)) (t : Tg) (body : MS) : MS := exS mi fun items env ds => forGo t body items env ds
section
variable {K : PySem.W.Frag} {C : Exs} {W : WX} {fr : Bool} {Γ : Gm} {σ : St} {H : Hp} {env : Ev} {ds : DS} {J : It} {items : List PyData} {t : Tg} {is : List Nat} {body : MS} {D : Ends}
theorem drR_kept {H' : Hp} (d : DrR K Γ H ds) (k : ∀ a o, H a = some o → H' a = some o) : DrR K Γ H' ds := by
  unfold DrR at d ⊢
  cases e : Γ.dr with
  | none =>
    rw [e] at d
    cases ds with
    | none => trivial
    | some s => exact d
  | some p =>
    rw [e] at d
    cases ds with
    | none => exact d
    | some s => exact ⟨k _ _ d.1, k _ _ d.2.1, d.2.2⟩
theorem for_loop (hw : ∀ σ' H' env' ds', Rel K Γ σ' H' env' ds' → Wlk K J items (gd Γ σ' env') H') (R : Rel K Γ σ H env ds) (h : Aft2 K C W fr Γ D (forGo t body items env ds)) :
    ∃ W' : Nat → Nat → St → Hp → Prop, (∃ m, W' 0 m σ H) ∧ ∀ i m σ H, W' i m σ H → (J.stop i H ∧ D.nx σ H) ∨ (J.go i H ∧ ∃ N : St → Hp → Prop, (∀ σ' H', N σ' H' → ∃ m', m' < m ∧ W' (i + 1) m' σ' H') ∧
      ∀ x H', J.yld i H x H' → rdTgm K is t x σ H' fun σ2 H2 => rdS K C W fr body { D with nx := N, ct := N, bk := D.nx } σ2 H2) := by
  refine ⟨fun i m σ H => m = items.length - i ∧ i ≤ items.length ∧ ∃ env ds, Rel K Γ σ H env ds ∧ Aft2 K C W fr Γ D (forGo t body (items.drop i) env ds), ⟨_, rfl, Nat.zero_le _, env, ds, R, h⟩, ?_⟩
  rintro i m σ H ⟨rfl, hi, env, ds, R, h⟩
  have wl := hw σ H env ds R
  by_cases hlt : i < items.length
  · refine .inr ⟨wl.go i hlt, fun σ' H' => (items.length - (i + 1)) = items.length - (i + 1) ∧ i + 1 ≤ items.length ∧ ∃ env ds, Rel K Γ σ' H' env ds ∧ Aft2 K C W fr Γ D (forGo t body (items.drop (i + 1)) env ds), fun σ' H' n => ⟨items.length - (i + 1), by omega, n⟩, fun x H' y => ?_⟩
    obtain ⟨d, e1, k, hx⟩ := wl.yld i x H' hlt y
    have e2 : items.drop i = d :: items.drop (i + 1) := by
      rw [List.drop_eq_getElem_cons hlt]
      rw [List.getElem?_eq_getElem hlt] at e1
      rw [Option.some.inj e1]
    rw [e2] at h
    have R' : Rel K Γ σ H' env ds := R.go (fun a o _ q => k a o q) (drR_kept R.draw k)
    unfold forGo at h
    cases ht : t d env with
    | none => rw [ht] at h; exact h.elim
    | some env1 =>
      rw [ht] at h
      dsimp only at h
      refine ⟨Γ, env, ds, d, env1, R', hx, ht, fun σ2 R2 _ _ _ => ⟨Γ, env1, ds, R2, ?_⟩⟩
      show Aft2 K C W fr Γ _ (body env1 ds)
      rcases q : body env1 ds with _ | ⟨f, ds1⟩
      · rw [q] at h; exact h
      · rw [q] at h
        cases f with
        | nx e => exact fun σ' H' R' => ⟨rfl, hlt, e, ds1, R', h⟩
        | ct e => exact fun σ' H' R' => ⟨rfl, hlt, e, ds1, R', h⟩
        | bk e => exact h
        | rt d => exact h
        | ex x e => exact h
  · refine .inl ⟨wl.stop i (by omega), ?_⟩
    rw [List.drop_eq_nil_of_le (by omega)] at h
    exact h σ H R
end
section
variable {X : Cx} {C : Exs} {W : WX} {fr : Bool} {tg iter : Expr} {mi : ME (List PyData)} {t : Tg} {is : List Nat} {body : List Stmt} {m : MS} {pos : Pos}
theorem wk_at {K : PySem.W.Frag} {Γ : Gm} {σ : St} {H : Hp} {env : Ev} {ds : DS} {J : It} {items : List PyData} (R : Rel K Γ σ H env ds) (wk : Wk K Γ σ env J items H) : ∀ σ' H' env' ds', Rel K (Γ.at σ env H) σ' H' env' ds' → Wlk K J items (gd (Γ.at σ env H) σ' env') H' := fun σ' H' env' ds' R' => by
  refine (wk H' fun a o n1 n2 _ q => R'.ext a o n2 (Gm.at_some n1 q)).mono fun a ⟨z, hz⟩ => ⟨z.1, fun q => ?_, z.2.2⟩
  obtain ⟨_, _, _, e, _⟩ := R'.own_at q
  rcases Gm.at_none e with w | w
  · exact z.2.1 w
  · exact hz w
theorem ss_for (hp : PassesOwn (model X.prog X.w) X.A X.env X.xe) (hc : X.calm = true) (hi : SI X C W tg iter mi) (hg : SG X tg is t) (hb : SSs X C W fr body m) (hs : ∀ x, foldedSetIterable iter X.env x = pure x := by intro _; rfl) : SS X C W fr (.For tg iter body [] pos) (mFor mi t m) :=
  PS.imp (ps_for hp hc hi hg hb hs) fun D σ H ⟨Γ, env, ds, R, h⟩ => ⟨Γ, env, ds, R, (exS_aft R h).imp fun items ds1 H1 e1 d1 q J wk =>
    have R1 := R.go e1 d1
    for_loop (wk_at R1 wk) R1.rebase (q.rebase R1)⟩

/-! ### for over one's own list: it is locked meanwhile -/
def mForV (i : Nat) (t : Tg) (body : MS) : MS := fun env ds => match env[i]? with
  | some (.l xs) => match forGo t body xs (env.set i (.lk xs)) ds with
    | some (.nx e, ds') => match e[i]? with
      | some (.lk ys) => some (.nx (e.set i (.l ys)), ds')
      | _ => none
    | some (.bk _, _) => none
    | some (.ct _, _) => none
    | r => r
  | _ => none
end

/-! ### while -/
def whileGo (c : ME Bool) (body : MS) : Nat → Ev → DS → Option (Fl × DS)
  | 0, _, _ => none
  | n + 1, env, ds => match c env ds with
    | some (.ok true, ds1) => match body env ds1 with
      | some (.nx e, ds') => whileGo c body n e ds'
      | some (.ct e, ds') => whileGo c body n e ds'
      | some (.bk e, ds') => some (.nx e, ds')
      | some (.rt d, ds') => some (.rt d, ds')
      | some (.ex x e, ds') => some (.ex x e, ds')
      | none => none
    | some (.ok false, ds1) => some (.nx env, ds1)
    | some (.exc x, ds1) => some (.ex x env, ds1)
    | none => none
section
variable {X : Cx} {C : Exs} {W : WX} {fr : Bool} {c : Expr} {mc : ME Bool} {body : List Stmt} {m : MS} {pos : Pos}
theorem ss_while (n : Nat) (hp : PassesOwn (model X.prog X.w) X.A X.env X.xe) (hc : ST X C W c mc) (hb : SSs X C W fr body m) : SS X C W fr (.While c body [] pos) (whileGo mc m n) :=
  PS.imp (ps_while hp hc hb) fun D σ H ⟨Γ, env, ds, R, h⟩ => by
    refine ⟨fun k σ H => ∃ env ds, Rel X.K Γ σ H env ds ∧ Aft2 X.K C W fr Γ D (whileGo mc m k env ds), ⟨n, env, ds, R, h⟩, ?_⟩
    rintro k σ H ⟨env, ds, R, h⟩
    cases k with
    | zero => exact h.elim
    | succ k =>
      refine ⟨Γ, env, ds, R, ?_⟩
      unfold whileGo at h
      unfold Aft
      rcases q : mc env ds with _ | ⟨b | x, ds1⟩
      · rw [q] at h; exact h
      · rw [q] at h
        intro H1 e1 d1
        cases b with
        | true =>
          rw [if_pos rfl]
          refine ⟨fun σ' H' => ∃ env ds, Rel X.K Γ σ' H' env ds ∧ Aft2 X.K C W fr Γ D (whileGo mc m k env ds), fun σ' H' z => ⟨k, Nat.lt_succ_self _, z⟩, Γ, env, ds1, R.go e1 d1, ?_⟩
          show Aft2 X.K C W fr Γ _ (m env ds1)
          dsimp only at h
          rcases q2 : m env ds1 with _ | ⟨f, ds2⟩
          · rw [q2] at h; exact h
          · rw [q2] at h
            cases f with
            | nx e => exact fun σ' H' R' => ⟨e, ds2, R', h⟩
            | ct e => exact fun σ' H' R' => ⟨e, ds2, R', h⟩
            | bk e => exact h
            | rt d => exact h
            | ex x e => exact h
        | false =>
          rw [if_neg Bool.false_ne_true]
          exact h σ H1 (R.go e1 d1)
      · rw [q] at h
        exact fun cls dd H' e1 d1 hx => h cls dd σ H' (R.go e1 d1) hx
end
end DL

/-! DL7: comprehensions. -/
namespace DL
open PySem PySem.Spec L2
open PyProof.Rows hiding St

/-- a slot of the comprehension's own: told nothing; it may not hold a list of one's own -/
def wipeE (env : Ev) : List Nat → Option Ev
  | [] => some env
  | v :: vs => (wipeE env vs).bind fun e => match e[v]? with
    | some (.l _) => none
    | some (.lk _) => none
    | some (.dc _ _) => none
    | _ => some (e.set v .un)
section
variable {K : PySem.W.Frag} {C : Exs} {W : WX} {Γ : Gm} {σ : St} {H H1 : Hp} {env env' : Ev} {ds : DS} {D : Addr}
theorem wipeE_ok : ∀ {vs : List Nat} {env' : Ev}, wipeE env vs = some env' → env'.length = env.length ∧ (∀ (j : Nat) (x : Sl), env'[j]? = some x → x = .un ∨ (j ∉ vs ∧ env[j]? = some x)) ∧ ∀ (j : Nat) (x : Sl), env[j]? = some x → x.own = true → j ∉ vs ∧ env'[j]? = some x
  | [], env', h => by
    cases h
    exact ⟨rfl, fun j x q => .inr ⟨List.not_mem_nil, q⟩, fun j x q _ => ⟨List.not_mem_nil, q⟩⟩
  | v :: vs, env', h => by
    obtain ⟨e1, h1, h2⟩ := Option.bind_eq_some_iff.mp h
    obtain ⟨i1, i2, i3⟩ := wipeE_ok h1
    have nown : (∀ xs, e1[v]? ≠ some (.l xs)) ∧ (∀ xs, e1[v]? ≠ some (.lk xs)) ∧ (∀ t xs, e1[v]? ≠ some (.dc t xs)) ∧ env' = e1.set v .un := by
      revert h2
      split
      · intro h2; cases h2
      · intro h2; cases h2
      · intro h2; cases h2
      · rename_i n1 n2 n3
        intro h2
        cases h2
        exact ⟨fun xs q => n1 xs q, fun xs q => n2 xs q, fun t xs q => n3 t xs q, rfl⟩
    obtain ⟨n1, n2, n3, rfl⟩ := nown
    refine ⟨by rw [List.length_set]; exact i1, fun j x q => ?_, fun j x q ox => ?_⟩
    · by_cases z : v = j
      · subst z
        by_cases hl : v < e1.length
        · rw [List.getElem?_set_self hl] at q
          cases q
          exact .inl rfl
        · rw [List.getElem?_eq_none (by rw [List.length_set]; omega)] at q
          cases q
      · rw [List.getElem?_set_ne z] at q
        rcases i2 j x q with w | ⟨w1, w2⟩
        · exact .inl w
        · exact .inr ⟨fun m => (List.mem_cons.mp m).elim (fun e => z e.symm) w1, w2⟩
    · obtain ⟨w1, w2⟩ := i3 j x q ox
      have z : v ≠ j := fun z => by
        subst z
        cases x with
        | l xs => exact n1 xs w2
        | lk xs => exact n2 xs w2
        | dc t0 xs => exact n3 t0 xs w2
        | _ => cases ox
      exact ⟨fun m => (List.mem_cons.mp m).elim (fun e => z e.symm) w1, by rw [List.getElem?_set_ne z]; exact w2⟩
theorem wipe_get : ∀ {vs : List Nat} {j : Nat}, j ∉ vs → (wipe σ vs)[j]? = σ[j]?
  | [], j, _ => rfl
  | v :: vs, j, h => by
    show ((wipe σ vs).set v none)[j]? = σ[j]?
    rw [List.getElem?_set_ne fun z => h (by rw [z]; exact List.mem_cons_self)]
    exact wipe_get fun z => h (List.mem_cons_of_mem _ z)
theorem wipe_in : ∀ {vs : List Nat} {j : Nat}, j ∈ vs → j < σ.length → (wipe σ vs)[j]? = some none
  | v :: vs, j, h, hl => by
    show ((wipe σ vs).set v none)[j]? = some none
    by_cases z : v = j
    · subst z
      rw [List.getElem?_set_self (by rw [wipe_length]; exact hl)]
    · rw [List.getElem?_set_ne z]
      exact wipe_in ((List.mem_cons.mp h).resolve_left fun e => z e.symm) hl
/-- slots that stand but for those of vs are alike when vs are wiped -/
theorem wipe_same {vs is : List Nat} {σ' : St} (h : SameBut is σ σ') (hs : ∀ i ∈ is, i ∈ vs) : wipe σ' vs = wipe σ vs := by
  refine List.ext_getElem? fun j => ?_
  by_cases hj : j ∈ vs
  · by_cases hl : j < σ.length
    · rw [wipe_in hj hl, wipe_in hj (by rw [h.1]; exact hl)]
    · rw [List.getElem?_eq_none (by rw [wipe_length, h.1]; omega), List.getElem?_eq_none (by rw [wipe_length]; omega)]
  · rw [wipe_get hj, wipe_get hj]
    exact h.2 j fun z => hj (hs j z)
theorem wipe_idem {vs : List Nat} : wipe (wipe σ vs) vs = wipe σ vs := by
  refine List.ext_getElem? fun j => ?_
  by_cases hj : j ∈ vs
  · by_cases hl : j < σ.length
    · rw [wipe_in hj (by rw [wipe_length]; exact hl), wipe_in hj hl]
    · rw [List.getElem?_eq_none (by rw [wipe_length, wipe_length]; omega), List.getElem?_eq_none (by rw [wipe_length]; omega)]
  · rw [wipe_get hj]
theorem owned_wipe {vs : List Nat} (h : wipeE env vs = some env') {a : Addr} : owned (wipe σ vs) env' a ↔ owned σ env a := by
  obtain ⟨h1, h2, h3⟩ := wipeE_ok h
  constructor
  · rintro ⟨j, x, q1, q2, q3⟩
    rcases h2 j x q1 with rfl | ⟨w1, w2⟩
    · cases q2
    · rw [wipe_get w1] at q3
      exact ⟨j, x, w2, q2, q3⟩
  · rintro ⟨j, x, q1, q2, q3⟩
    obtain ⟨w1, w2⟩ := h3 j x q1 q2
    exact ⟨j, x, w2, q2, by rw [wipe_get w1]; exact q3⟩
/-- the ground of a block: D is apart -/
noncomputable def Gm.blk (Γ : Gm) (σ : St) (env : Ev) (H : Hp) (D : Addr) : Gm := { Γ.at σ env H with ok := fun a => Γ.ok a ∧ a ≠ D, lk := [] }
theorem Rel.cell_ne (R : Rel K Γ σ H1 env ds) (hf : H1 D = none) (p : Addr × Addr) (e : Γ.dr = some p) : p.2 ≠ D := fun z => by
  have d := R.draw
  unfold DrR at d
  rw [e] at d
  cases ds with
  | none => exact d
  | some s =>
    have := d.2.1
    rw [z, hf] at this
    cases this
theorem DrR.blkR {Hb : Hp} (d : DrR K Γ H ds) (cn : ∀ p, Γ.dr = some p → p.2 ≠ D) : DrR K (Γ.blk σ env Hb D) H ds := by
  unfold DrR at d ⊢
  rw [show (Γ.blk σ env Hb D).dr = Γ.dr from rfl]
  cases hdr : Γ.dr with
  | none =>
    rw [hdr] at d
    cases ds with
    | none => trivial
    | some s => exact d
  | some p =>
    rw [hdr] at d
    cases ds with
    | none => exact d
    | some s => exact ⟨d.1, d.2.1, d.2.2.1, d.2.2.2.1, d.2.2.2.2, cn p hdr⟩
theorem DrR.unblk {Hb : Hp} (d : DrR K (Γ.blk σ env Hb D) H ds) : DrR K Γ H ds := by
  unfold DrR at d ⊢
  rw [show (Γ.blk σ env Hb D).dr = Γ.dr from rfl] at d
  cases hdr : Γ.dr with
  | none =>
    rw [hdr] at d
    cases ds with
    | none => trivial
    | some s => exact d
  | some p =>
    rw [hdr] at d
    cases ds with
    | none => exact d
    | some s => exact ⟨d.1, d.2.1, d.2.2.1, d.2.2.2.1, d.2.2.2.2.1⟩
theorem Rel.blk {vs : List Nat} {ds1 : DS} (R1 : Rel K Γ σ H1 env ds1) (hf : H1 D = none) (e : Ext Γ H1 H) (d : DrR K Γ H ds) (hD : ∃ o, H D = some o) (h : wipeE env vs = some env') : Rel K (Γ.blk σ env H D) (wipe σ vs) H env' ds := by
  obtain ⟨h1, h2, h3⟩ := wipeE_ok h
  have R := R1.go e d
  have B := R.rebase
  have oD : ¬ owned σ env D := fun q => by
    obtain ⟨_, w, _⟩ := R1.own_at q
    rw [hf] at w
    cases w
  have cD' : ∀ a, owned σ env a → a ≠ D := fun a q z => oD (by rw [← z]; exact q)
  have gq : ∀ {a : Addr}, H a = none → a ≠ D := fun {a} q z => by
    obtain ⟨o, e⟩ := hD
    rw [z, e] at q
    cases q
  have gg : ∀ a, gd Γ σ env a → a ≠ D → gd (Γ.blk σ env H D) (wipe σ vs) env' a := fun a q n => ⟨⟨q.1, n⟩, fun w => q.2.1 ((owned_wipe h).mp w), q.2.2⟩
  have dm : ∀ {v : V} {x : PyData}, Df K H1 (gd Γ σ env) v x → Df K H (gd (Γ.blk σ env H D) (wipe σ vs) env') v x := fun q =>
    (q.avoid hf).mono (fun a u z k => ⟨gg a z.1 z.2, e a _ z.1.2.2 k⟩) fun _ _ z => tup_ext e R1.draw z
  have dms : ∀ {v : List V} {x : List PyData}, DfAll K H1 (gd Γ σ env) v x → DfAll K H (gd (Γ.blk σ env H D) (wipe σ vs) env') v x := fun q =>
    (q.avoid hf).mono (fun a u z k => ⟨gg a z.1 z.2, e a _ z.1.2.2 k⟩) fun _ _ z => tup_ext e R1.draw z
  refine ⟨by rw [wipe_length, h1]; exact R.len, fun j x q => ?_, fun i j x y hij hi hj oi oj => ?_, fun a q => ⟨B.okf a q, ?_⟩, B.ext, ?_, fun p e q => R.drc p e ((owned_wipe h).mp q), fun p hp => by cases hp⟩
  · rcases h2 j x q with rfl | ⟨w1, w2⟩
    · trivial
    · rw [wipe_get w1]
      have q1 := R1.slot j x w2
      have q2 := B.slot j x w2
      cases x with
      | un => trivial
      | d y =>
        obtain ⟨u, e1, e2⟩ := q1
        exact ⟨u, e1, dm e2⟩
      | l xs =>
        obtain ⟨a, us, e1, e2, e3, e4, e5, e6⟩ := q1
        obtain ⟨a', us', f1, f2, f3, f4, f5, f6⟩ := q2
        rw [e1] at f1
        cases f1
        exact ⟨a, us, e1, e a _ e6 e2, dms e3, e4, f5, e6⟩
      | lk xs =>
        obtain ⟨a, us, e1, e2, e3, e4, e5, e6⟩ := q1
        obtain ⟨a', us', f1, f2, f3, f4, f5, f6⟩ := q2
        rw [e1] at f1
        cases f1
        exact ⟨a, us, e1, e a _ e6 e2, dms e3, e4, f5, e6⟩
      | dc t0 xs =>
        obtain ⟨a, us, e1, e2, e3, e4, e5, e6⟩ := q1
        obtain ⟨a', us', f1, f2, f3, f4, f5, f6⟩ := q2
        rw [e1] at f1
        cases f1
        exact ⟨a, us, e1, e a _ e6 e2, dms e3, e4, f5, e6⟩
      | drw => exact q2
      | scr ns => exact q2
  · obtain ⟨w1, w2⟩ := (h2 i x hi).resolve_left (fun e => by rw [e] at oi; cases oi)
    obtain ⟨w3, w4⟩ := (h2 j y hj).resolve_left (fun e => by rw [e] at oj; cases oj)
    rw [wipe_get w1, wipe_get w3]
    exact R.sep i j x y hij w2 w4 oi oj
  · rcases Gm.at_none (Γ := Γ) q with w | w
    · exact cD' a w
    · exact gq w
  · exact d.blkR (R1.cell_ne hf)
/-- what is told in the block holds outside -/
theorem Gm.blk_gd {vs : List Nat} {σ' : St} {env2 : Ev} {is : List Nat} (h : wipeE env vs = some env') (hs : ∀ i ∈ is, i ∈ vs) (s : SameBut is (wipe σ vs) σ') (v : EvBut is env' env2) {a : Addr} (q : gd (Γ.blk σ env H D) σ' env2 a) : gdx Γ σ env D a := by
  refine ⟨⟨q.1.1, fun w => q.2.1 ?_, q.2.2⟩, q.1.2⟩
  obtain ⟨j, x, w1, w2, w3⟩ := w
  obtain ⟨h1, h2, h3⟩ := wipeE_ok h
  obtain ⟨z1, z2⟩ := h3 j x w1 w2
  have nj : j ∉ is := fun z => z1 (hs j z)
  exact ⟨j, x, by rw [v.2 j nj]; exact z2, w2, by rw [s.2 j nj, wipe_get z1]; exact w3⟩
end

/-! ### the meanings -/
def compGo (t : Tg) (c : ME Bool) (elt : ME PyData) (env : Ev) : List PyData → DS → List PyData → Option (List PyData × DS)
  | [], ds, acc => some (acc, ds)
  | x :: r, ds, acc => match t x env with
    | none => none
    | some env1 => match c env1 ds with
      | some (.ok true, ds1) => match elt env1 ds1 with
        | some (.ok y, ds2) => if decide (acc.length < sizeLine) then compGo t c elt env r ds2 (acc ++ [y]) else none
        | _ => none
      | some (.ok false, ds1) => compGo t c elt env r ds1 acc
      | _ => none
def mComp (vs : List Nat) (mi : ME (List PyData)) (t : Tg) (c : ME Bool) (elt : ME PyData) : ME (List PyData) := mi.bind fun items env ds => match wipeE env vs with
  | none => none
  | some env1 => match compGo t c elt env1 items ds [] with
    | some (xs, ds') => some (.ok xs, ds')
    | none => none
def mYes : ME Bool := ME.pure true
abbrev STs (X : Cx) (C : Exs) (W : WX) (ifs : List Expr) (m : ME Bool) : Prop := PTs X ifs (rdT X.K C W m)
theorem PTs.imp {X : Cx} {e : List Expr} {t t' : TT} (h : PTs X e t) (f : ∀ σ H Q, t' σ H Q → t σ H Q) : PTs X e t' := ⟨fun pins s σ H Q I q => h.run pins s σ H Q I (f σ H Q q)⟩
theorem sts_nil {X : Cx} {C : Exs} {W : WX} : STs X C W [] mYes := PTs.imp pts_nil fun σ H Q ⟨Γ, env, ds, R, h⟩ => Aft.here h R.draw
theorem sts_one {X : Cx} {C : Exs} {W : WX} {c : Expr} {m : ME Bool} (h : ST X C W c m) : STs X C W [c] m := pts_one h
/-- within a comprehension nothing is raised -/
def W0 : WX := fun _ _ _ _ => False
section
variable {K : PySem.W.Frag} {C : Exs} {W : WX} {Γ : Gm} {σ : St} {H1 : Hp} {env env1 : Ev} {ds1 : DS} {D : Addr} {J : It} {items : List PyData} {t : Tg} {is vs : List Nat} {c : ME Bool} {elt : ME PyData} {Qd : Hp → Prop}
/-- what stands between two turns -/
structure CIn (K : PySem.W.Frag) (Γ : Gm) (σ : St) (env : Ev) (H1 : Hp) (D : Addr) (H : Hp) (ds : DS) (acc : List PyData) : Prop where
  ext : Ext Γ H1 H
  draw : DrR K Γ H ds
  lst : ∃ us, H D = some (.lst us) ∧ us.length ≤ sizeLine ∧ DfAll K H (gdx Γ σ env D) us acc
theorem CIn.grow {H H' : Hp} {ds ds' : DS} {acc : List PyData} (R1 : Rel K Γ σ H1 env ds1) (hf : H1 D = none) (c : CIn K Γ σ env H1 D H ds acc) (e : Ext Γ H H') (d : DrR K Γ H' ds') (y : PyData) (v : V) (hy : Df K H' (gdx Γ σ env D) v y) (hs : acc.length < sizeLine) :
    ∃ us, H' D = some (.lst us) ∧ us.length < sizeLine ∧ CIn K Γ σ env H1 D (upd H' D (.lst (us ++ [v]))) ds' (acc ++ [y]) := by
  obtain ⟨us, q1, q2, q3⟩ := c.lst
  have nD := (R1.new_gd hf).2.2
  have h' := e D _ nD q1
  have ln := q3.length
  have tq : ∀ a u, H' a = some (.tup u) → upd H' D (.lst (us ++ [v])) a = some (.tup u) := fun a u q => by
    rw [upd_ne (ne_of q h' (by intro z; cases z))]; exact q
  have q4 : DfAll K H' (gdx Γ σ env D) us acc := q3.mono (fun a u z k => ⟨z, e a _ z.1.2.2 k⟩) fun _ _ z => tup_ext e c.draw z
  refine ⟨us, h', by rw [ln]; exact hs, fun a o n q => ?_, ?_, us ++ [v], upd_same, by rw [List.length_append, ln]; exact hs, ?_⟩
  · rw [upd_ne (ne_of_none q hf)]
    exact e a o n (c.ext a o n q)
  · have cn := R1.cell_ne hf
    unfold DrR at d ⊢
    cases hdr : Γ.dr with
    | none =>
      rw [hdr] at d
      cases ds' with
      | none => trivial
      | some s => exact d
    | some p =>
      rw [hdr] at d
      cases ds' with
      | none => exact d
      | some s =>
        refine ⟨by rw [upd_ne fun z => nD p hdr z.symm]; exact d.1, by rw [upd_ne (cn p hdr)]; exact d.2.1, d.2.2⟩
  · exact (q4.append (.cons hy .nil)).mono (fun a u z k => ⟨z, by rw [upd_ne z.2]; exact k⟩) tq
/-- a turn that goes on -/
theorem CIn.on {H H' : Hp} {ds ds' : DS} {acc : List PyData} (R1 : Rel K Γ σ H1 env ds1) (hf : H1 D = none) (c : CIn K Γ σ env H1 D H ds acc) (e : Ext Γ H H') (d : DrR K Γ H' ds') : CIn K Γ σ env H1 D H' ds' acc := by
  obtain ⟨us, q1, q2, q3⟩ := c.lst
  exact ⟨c.ext.trans e, d, us, e D _ (R1.new_gd hf).2.2 q1, q2, q3.mono (fun a u z k => ⟨z, e a _ z.1.2.2 k⟩) fun _ _ z => tup_ext e c.draw z⟩
theorem CIn.start (R1 : Rel K Γ σ H1 env ds1) (hf : H1 D = none) : CIn K Γ σ env H1 D (upd H1 D (.lst [])) ds1 [] := ⟨ext_new hf, R1.draw.new hf, [], upd_same, Nat.zero_le _, .nil⟩
theorem Wlk.blk {H : Hp} (R1 : Rel K Γ σ H1 env ds1) (hf : H1 D = none) (e : Ext Γ H1 H) (wk : Wk K Γ σ env J items H1) (h : wipeE env vs = some env1) : Wlk K J items (gd (Γ.blk σ env H D) (wipe σ vs) env1) H :=
  (wk H fun a o _ n _ q => e a o n q).mono fun a z => ⟨⟨z.1.1, fun w => z.2 (by rw [w]; exact hf)⟩, fun w => z.1.2.1 ((owned_wipe h).mp w), z.1.2.2⟩
theorem aft_blk {α : Type} {H Hb : Hp} {σ' : St} {r : Rz α} {P : α → DS → Hp → Prop} (h : match r with | some (.ok a, ds') => ∀ H', Ext Γ H H' → DrR K Γ H' ds' → P a ds' H' | _ => False) : Aft K C W0 (Γ.blk σ env Hb D) σ' H r P := by
  unfold Aft
  rcases r with _ | ⟨a | x, ds'⟩
  · exact h
  · exact fun H' e d => h H' e d.unblk
  · exact h.elim
theorem comp_loop (hsub : ∀ i ∈ is, i ∈ vs) (R1 : Rel K Γ σ H1 env ds1) (wk : Wk K Γ σ env J items H1) (hD : H1 D = none) (hw : wipeE env vs = some env1)
    (h : match compGo t c elt env1 items ds1 [] with | some (xs, ds') => ∀ H', CIn K Γ σ env H1 D H' ds' xs → Qd H' | none => False) :
    ∃ W' : Nat → Nat → Hp → Prop, (∃ m, W' 0 m (upd H1 D (.lst []))) ∧ ∀ i m H, W' i m H →
      (J.stop i H ∧ Qd H) ∨ (J.go i H ∧ ∃ Nx : Hp → Prop, (∀ H', Nx H' → ∃ m', m' < m ∧ W' (i + 1) m' H') ∧ ∀ x H', J.yld i H x H' → rdTgm K is t x (wipe σ vs) H' fun σ2 H2 => wipe σ2 vs = wipe σ vs ∧ rdT K C W0 c σ2 H2 fun b H3 =>
        if b = true then rdG MD K C W0 elt σ2 H3 fun y H4 => ∃ acc, H4 D = some (.lst acc) ∧ acc.length < sizeLine ∧ Nx (upd H4 D (.lst (acc ++ [y]))) else Nx H3) := by
  refine ⟨fun i m H => m = items.length - i ∧ i ≤ items.length ∧ ∃ ds acc, CIn K Γ σ env H1 D H ds acc ∧ match compGo t c elt env1 (items.drop i) ds acc with | some (xs, ds') => ∀ H', CIn K Γ σ env H1 D H' ds' xs → Qd H' | none => False,
    ⟨_, rfl, Nat.zero_le _, ds1, [], CIn.start R1 hD, h⟩, ?_⟩
  rintro i m H ⟨rfl, hi, ds, acc, ci, h⟩
  have wl := Wlk.blk R1 hD ci.ext wk hw
  by_cases hlt : i < items.length
  · refine .inr ⟨wl.go i hlt, fun H' => (items.length - (i + 1)) = items.length - (i + 1) ∧ i + 1 ≤ items.length ∧ ∃ ds acc, CIn K Γ σ env H1 D H' ds acc ∧ match compGo t c elt env1 (items.drop (i + 1)) ds acc with | some (xs, ds') => ∀ H', CIn K Γ σ env H1 D H' ds' xs → Qd H' | none => False,
      fun H' n => ⟨items.length - (i + 1), by omega, n⟩, fun x H' y => ?_⟩
    obtain ⟨d, e1, k, hx⟩ := wl.yld i x H' hlt y
    have e2 : items.drop i = d :: items.drop (i + 1) := by
      rw [List.drop_eq_getElem_cons hlt]
      rw [List.getElem?_eq_getElem hlt] at e1
      rw [Option.some.inj e1]
    rw [e2] at h
    have ci' : CIn K Γ σ env H1 D H' ds acc := ci.on R1 hD (fun a o _ q => k a o q) (drR_kept ci.draw k)
    obtain ⟨us, l1, l2, l3⟩ := ci.lst
    have hx' : Df K H' (gd (Γ.blk σ env H' D) (wipe σ vs) env1) x d := hx.mono (fun a u z q => ⟨z, q⟩) fun _ _ z => z
    have RB := R1.blk hD ci'.ext ci'.draw ⟨_, k D _ l1⟩ hw
    unfold compGo at h
    cases ht : t d env1 with
    | none => rw [ht] at h; exact h.elim
    | some env2 =>
      rw [ht] at h
      dsimp only at h
      refine ⟨Γ.blk σ env H' D, env1, ds, d, env2, RB, hx', ht, fun σ2 R2 _ s2 v2 => ⟨(wipe_same s2 hsub).trans wipe_idem, Γ.blk σ env H' D, env2, ds, R2, aft_blk ?_⟩⟩
      rcases q : c env2 ds with _ | ⟨b | ex, ds2⟩
      · rw [q] at h; exact h.elim
      · rw [q] at h
        intro H3 e3 d3
        have ci3 := ci'.on R1 hD e3 d3
        cases b with
        | false =>
          rw [if_neg Bool.false_ne_true]
          exact ⟨rfl, hlt, ds2, acc, ci3, h⟩
        | true =>
          rw [if_pos rfl]
          have g3 := R2.go (H1 := H3) e3 (by
            have RB3 := R1.blk (vs := vs) hD ci3.ext ci3.draw (let ⟨us, l1, _⟩ := ci3.lst; ⟨_, l1⟩) hw
            exact RB3.draw)
          refine ⟨Γ.blk σ env H' D, env2, ds2, g3, aft_blk ?_⟩
          dsimp only at h
          rcases q2 : elt env2 ds2 with _ | ⟨y | ex, ds3⟩
          · rw [q2] at h; exact h.elim
          · rw [q2] at h
            intro H4 e4 d4 v hv
            dsimp only at h
            by_cases hs : acc.length < sizeLine
            · rw [if_pos (decide_eq_true hs)] at h
              have hy : Df K H4 (gdx Γ σ env D) v y := hv.mono (fun a u z q => ⟨Gm.blk_gd hw hsub s2 v2 z, q⟩) fun _ _ z => z
              obtain ⟨us, w1, w2, w3⟩ := ci3.grow R1 hD e4 d4 y v hy hs
              exact ⟨us, w1, w2, rfl, hlt, ds3, _, w3, h⟩
            · rw [if_neg (by rw [decide_eq_false hs]; exact Bool.false_ne_true)] at h
              exact h.elim
          · rw [q2] at h; exact h.elim
      · rw [q] at h; exact h.elim
  · refine .inl ⟨wl.stop i (by omega), ?_⟩
    rw [List.drop_eq_nil_of_le (by omega)] at h
    exact h H ci
end
section
variable {X : Cx} {C : Exs} {W : WX} {fr : Bool} {elt tg iter : Expr} {ifs : List Expr} {scope : Scope} {own : List (Str × Nat)} {pos : Pos} {mi : ME (List PyData)} {t : Tg} {is : List Nat} {c : ME Bool} {me : ME PyData}
theorem comp_rd {K : PySem.W.Frag} (hsub : ∀ i ∈ is, i ∈ own.map (·.2)) {σ : St} {H : Hp} {Q : VK} (h : rdF K C W (mComp (own.map (·.2)) mi t c me) σ H Q) : tLc (rdI K C W mi) (rdTgm K is t) (rdT K C W0 c) (rdG MD K C W0 me) (own.map (·.2)) σ H Q := by
  obtain ⟨Γ, env, ds, R, h⟩ := h
  refine ⟨Γ, env, ds, R, h.bind.imp fun items ds1 H1 e1 d1 q J wk D hD => ?_⟩
  have R1 := R.go e1 d1
  have hD0 := R.none_back e1 d1 hD
  dsimp only at q
  cases hw : wipeE env (own.map (·.2)) with
  | none => rw [hw] at q; exact q.elim
  | some env1 =>
    rw [hw] at q
    dsimp only at q
    refine comp_loop hsub R1 wk hD hw ?_
    rcases z : compGo t c me env1 items ds1 [] with _ | ⟨xs, ds'⟩
    · rw [z] at q; exact q
    · rw [z] at q
      intro H' ci
      obtain ⟨us, l1, l2, l3⟩ := ci.lst
      exact q H' ci.ext ci.draw D us hD0 l1 l2 l3
theorem sf_comp (hc : X.calm = true) (hN : X.N.Nodup) (hi : SI X C W tg iter mi) (ok : BlkOk X.N X.env.scope scope own) (hsub : ∀ i ∈ is, i ∈ own.map (·.2))
    (hg : ∀ (s : Shared) (H : Hp) (k : Addr) (cl : List (Str × Addr)) (fp : List Addr), SG (X.blk s H scope (compEnvC scope cl k X.env) fp) tg is t) (ht : ∀ (s : Shared) (H : Hp) (k : Addr) (cl : List (Str × Addr)) (fp : List Addr), STs (X.blk s H scope (compEnvC scope cl k X.env) fp) C W0 ifs c)
    (he : ∀ (s : Shared) (H : Hp) (k : Addr) (cl : List (Str × Addr)) (fp : List Addr), SE (X.blk s H scope (compEnvC scope cl k X.env) fp) C W0 elt me) (hs : ∀ x, foldedSetIterable iter X.env x = pure x := by intro _; rfl) :
    SF X C W (.ListComp elt [⟨tg, iter, ifs, 0⟩] scope pos) (mComp (own.map (·.2)) mi t c me) :=
  PE.imp (pe_lc hc hN hi ok hg ht he hs) fun σ H Q h => comp_rd hsub h
/-- name = [..] -/
theorem ss_setLc (i : Nat) {y : Str} {py spos : Pos} (hc : X.calm = true) (hN : X.N.Nodup) (hsw : swapsWith (.ListComp elt [⟨tg, iter, ifs, 0⟩] scope pos) (some (.Name y py)) spos.line X.env = pure true) (hi : SI X C W tg iter mi) (ok : BlkOk X.N X.env.scope scope own) (hsub : ∀ i ∈ is, i ∈ own.map (·.2))
    (hg : ∀ (s : Shared) (H : Hp) (k : Addr) (cl : List (Str × Addr)) (fp : List Addr), SG (X.blk s H scope (compEnvC scope cl k X.env) fp) tg is t) (ht : ∀ (s : Shared) (H : Hp) (k : Addr) (cl : List (Str × Addr)) (fp : List Addr), STs (X.blk s H scope (compEnvC scope cl k X.env) fp) C W0 ifs c)
    (he : ∀ (s : Shared) (H : Hp) (k : Addr) (cl : List (Str × Addr)) (fp : List Addr), SE (X.blk s H scope (compEnvC scope cl k X.env) fp) C W0 elt me) (hy : X.N[i]? = some y := by rfl) (hyl : X.env.scope.names.lookup y = some .local := by rfl) (hs : ∀ x, foldedSetIterable iter X.env x = pure x := by intro _; rfl) :
    SS X C W fr (.Assign [.Name y py] (.ListComp elt [⟨tg, iter, ifs, 0⟩] scope pos) spos) (mSet i (mF (mComp (own.map (·.2)) mi t c me))) :=
  PS.imp (L2.ps_setLc hc hN hy hyl hsw hi ok hg ht he hs) fun D σ H ⟨Γ, env, ds, R, h⟩ => comp_rd hsub ⟨Γ, env, ds, R, (exS_aft R h).bind.imp fun xs ds1 H1 e1 d1 q a us h1 h2 h3 h4 => by
    have q := Aft.here q d1
    cases hp : put i (.d (.list xs)) env with
    | none => rw [hp] at q; exact q.elim
    | some env' =>
      rw [hp] at q
      have R1 := R.go e1 d1
      exact q _ _ (R1.set_d (.lst (R.new_gd h1) h2 h3 h4.unavoid) hp)⟩
theorem ss_setLcL (i : Nat) {y : Str} {py spos : Pos} (hc : X.calm = true) (hN : X.N.Nodup) (hsw : swapsWith (.ListComp elt [⟨tg, iter, ifs, 0⟩] scope pos) (some (.Name y py)) spos.line X.env = pure true) (hi : SI X C W tg iter mi) (ok : BlkOk X.N X.env.scope scope own) (hsub : ∀ i ∈ is, i ∈ own.map (·.2))
    (hg : ∀ (s : Shared) (H : Hp) (k : Addr) (cl : List (Str × Addr)) (fp : List Addr), SG (X.blk s H scope (compEnvC scope cl k X.env) fp) tg is t) (ht : ∀ (s : Shared) (H : Hp) (k : Addr) (cl : List (Str × Addr)) (fp : List Addr), STs (X.blk s H scope (compEnvC scope cl k X.env) fp) C W0 ifs c)
    (he : ∀ (s : Shared) (H : Hp) (k : Addr) (cl : List (Str × Addr)) (fp : List Addr), SE (X.blk s H scope (compEnvC scope cl k X.env) fp) C W0 elt me) (hy : X.N[i]? = some y := by rfl) (hyl : X.env.scope.names.lookup y = some .local := by rfl) (hs : ∀ x, foldedSetIterable iter X.env x = pure x := by intro _; rfl) :
    SS X C W fr (.Assign [.Name y py] (.ListComp elt [⟨tg, iter, ifs, 0⟩] scope pos) spos) (mSetL i (mComp (own.map (·.2)) mi t c me)) :=
  PS.imp (L2.ps_setLc hc hN hy hyl hsw hi ok hg ht he hs) fun D σ H ⟨Γ, env, ds, R, h⟩ => comp_rd hsub ⟨Γ, env, ds, R, (exS_aft R h).imp fun xs ds1 H1 e1 d1 q a us h1 h2 h3 h4 => by
    cases hp : put i (.l xs) env with
    | none => rw [hp] at q; exact q.elim
    | some env' =>
      rw [hp] at q
      exact q _ _ (R.set_l e1 d1 h1 h2 h3 h4 hp)⟩
end
end DL

/-! DL8: comprehensions of two clauses. -/
namespace DL
open PySem PySem.Spec L2
open PyProof.Rows hiding St

def comp2Go (t : Tg) (c : ME Bool) (mi : ME (List PyData)) (vs1 : List Nat) (t1 : Tg) (c1 : ME Bool) (elt : ME PyData) (env : Ev) : List PyData → DS → List PyData → Option (List PyData × DS)
  | [], ds, acc => some (acc, ds)
  | x :: r, ds, acc => match t x env with
    | none => none
    | some env1 => match c env1 ds with
      | some (.ok true, ds1) => match mi env1 ds1 with
        | some (.ok items, ds2) => match wipeE env1 vs1 with
          | none => none
          | some env2 => match compGo t1 c1 elt env2 items ds2 acc with
            | some (acc', ds3) => comp2Go t c mi vs1 t1 c1 elt env r ds3 acc'
            | none => none
        | _ => none
      | some (.ok false, ds1) => comp2Go t c mi vs1 t1 c1 elt env r ds1 acc
      | _ => none
def mComp2 (vs : List Nat) (mi : ME (List PyData)) (t : Tg) (c : ME Bool) (mi1 : ME (List PyData)) (vs1 : List Nat) (t1 : Tg) (c1 : ME Bool) (elt : ME PyData) : ME (List PyData) := mi.bind fun items env ds => match wipeE env vs with
  | none => none
  | some env1 => match comp2Go t c mi1 vs1 t1 c1 elt env1 items ds [] with
    | some (xs, ds') => some (.ok xs, ds')
    | none => none
section
variable {K : PySem.W.Frag} {C : Exs} {W : WX} {Γ : Gm} {σ σ2 : St} {H H' H1 : Hp} {env env1 env2 env' : Ev} {ds ds1 ds' : DS} {D : Addr} {vs : List Nat}
theorem Rel.wipes (R : Rel K Γ σ H env ds) (hk : Γ.lk = []) (h : wipeE env vs = some env') : Rel K Γ (wipe σ vs) H env' ds := by
  obtain ⟨h1, h2, h3⟩ := wipeE_ok h
  refine ⟨by rw [wipe_length, h1]; exact R.len, fun j x q => ?_, fun i j x y hij hi hj oi oj => ?_, R.okf, R.ext, R.draw, fun p e q => R.drc p e ((owned_wipe h).mp q), fun p hp => by rw [hk] at hp; cases hp⟩
  · rcases h2 j x q with rfl | ⟨w1, w2⟩
    · trivial
    · rw [wipe_get w1]
      exact (R.slot j x w2).mono fun a z => ⟨z.1, fun w => z.2.1 ((owned_wipe h).mp w), z.2.2⟩
  · obtain ⟨w1, w2⟩ := (h2 i x hi).resolve_left (fun e => by rw [e] at oi; cases oi)
    obtain ⟨w3, w4⟩ := (h2 j y hj).resolve_left (fun e => by rw [e] at oj; cases oj)
    rw [wipe_get w1, wipe_get w3]
    exact R.sep i j x y hij w2 w4 oi oj
/-- the frame of a block, when D has changed -/
theorem Rel.move (R2 : Rel K (Γ.blk σ env H D) σ2 H env2 ds) (e : ∀ a o, Γ.nd a → a ≠ D → H a = some o → H' a = some o) (hD : ∃ us, H D = some (.lst us)) (hD' : ∃ o, H' D = some o) (d : DrR K Γ H' ds') (cn : ∀ p, Γ.dr = some p → p.2 ≠ D) (hn : ∀ a, H' a = none → Γ.ok a) :
    Rel K (Γ.blk σ env H' D) σ2 H' env2 ds' := by
  obtain ⟨us, hD⟩ := hD
  have own : ∀ a, owned σ2 env2 a → owned σ env a := fun a q => by
    obtain ⟨us, z1, _, z2, _⟩ := R2.own_at q
    rcases Gm.at_none (Γ := Γ) z2 with w | w
    · exact w
    · rw [z1] at w; cases w
  have nD : ∀ a, owned σ2 env2 a → a ≠ D := fun a q => by
    obtain ⟨us, z1, _, z2, _⟩ := R2.own_at q
    exact (R2.okf a z2).2
  have tq : ∀ a u, H a = some (.tup u) → H' a = some (.tup u) := fun a u q => by
    have nd : ∀ {o}, H a = some o → ¬ MutO o → Γ.nd a ∧ a ≠ D := fun {o} h1 h2 => by
      refine ⟨(kept_nd R2 h1 h2).2, fun z => ?_⟩
      rw [z, hD] at h1
      cases h1
      exact h2 (.inl ⟨_, rfl⟩)
    obtain ⟨n1, n2⟩ := nd q imm_tup
    exact e a _ n1 n2 q
  have dm : ∀ {v : V} {x : PyData}, Df K H (gd (Γ.blk σ env H D) σ2 env2) v x → Df K H' (gd (Γ.blk σ env H' D) σ2 env2) v x := fun q => q.mono (fun a u z k => ⟨z, e a _ z.2.2 z.1.2 k⟩) tq
  have dms : ∀ {v : List V} {x : List PyData}, DfAll K H (gd (Γ.blk σ env H D) σ2 env2) v x → DfAll K H' (gd (Γ.blk σ env H' D) σ2 env2) v x := fun q => q.mono (fun a u z k => ⟨z, e a _ z.2.2 z.1.2 k⟩) tq
  refine ⟨R2.len, fun i x hx => ?_, R2.sep, fun a q => ?_, fun a o _ q => Gm.at_le (Γ := Γ) q, d.blkR cn, R2.drc, fun p hp => by cases hp⟩
  · have q := R2.slot i x hx
    cases x with
    | un => trivial
    | d y =>
      obtain ⟨u, e1, e2⟩ := q
      exact ⟨u, e1, dm e2⟩
    | l xs =>
      obtain ⟨a, us, e1, e2, e3, e4, e5, e6⟩ := q
      have oa : owned σ2 env2 a := ⟨i, _, hx, rfl, e1⟩
      exact ⟨a, us, e1, e a _ e6 (nD a oa) e2, dms e3, e4, Gm.at_owned (Γ := Γ) (own a oa), e6⟩
    | lk xs =>
      obtain ⟨a, us, e1, e2, e3, e4, e5, e6⟩ := q
      have oa : owned σ2 env2 a := ⟨i, _, hx, rfl, e1⟩
      exact ⟨a, us, e1, e a _ e6 (nD a oa) e2, dms e3, e4, Gm.at_owned (Γ := Γ) (own a oa), e6⟩
    | dc t0 xs =>
      obtain ⟨a, us, e1, e2, e3, e4, e5, e6⟩ := q
      have oa : owned σ2 env2 a := ⟨i, _, hx, rfl, e1⟩
      exact ⟨a, us, e1, e a _ e6 (nD a oa) e2, dms e3, e4, Gm.at_owned (Γ := Γ) (own a oa), e6⟩
    | drw => exact q
    | scr ns =>
      obtain ⟨a, e1, e2, e3⟩ := q
      refine ⟨a, e1, ?_, e3⟩
      rcases e2 with ⟨o, e2⟩ | e2
      · refine .inl ⟨o, e a _ (kept_nd R2 e2 imm_frz).2 (fun z => ?_) e2⟩
        rw [z, hD] at e2
        cases e2
      · exact .inr e2
  · rcases Gm.at_none (Γ := Γ) q with w | w
    · exact R2.okf a (Gm.at_owned (Γ := Γ) w)
    · refine ⟨hn a w, fun z => ?_⟩
      obtain ⟨o, hD'⟩ := hD'
      rw [z, hD'] at w
      cases w
theorem CIn.rel (R1 : Rel K Γ σ H1 env ds1) (hf : H1 D = none) {acc : List PyData} (c : CIn K Γ σ env H1 D H ds acc) : Rel K Γ σ H env ds := R1.go c.ext c.draw
variable {J : It} {items : List PyData} {t t1 : Tg} {is is1 vs1 : List Nat} {c c1 : ME Bool} {mi1 : ME (List PyData)} {elt : ME PyData} {Qd : Hp → Prop}
/-- the inner loop: H4 where it begins -/
theorem comp_inner {H4 : Hp} {ds4 : DS} {acc : List PyData} {env3 : Ev} {Nx : Hp → Prop} (R1 : Rel K Γ σ H1 env ds1) (hD : H1 D = none) (hw : wipeE env vs = some env1) (hsub : ∀ i ∈ is, i ∈ vs) (hsub1 : ∀ i ∈ is1, i ∈ vs1) (s2 : SameBut is (wipe σ vs) σ2) (v2 : EvBut is env1 env2)
    (hv1 : ∀ i ∈ vs1, i ∈ vs) (R4 : Rel K (Γ.blk σ env H4 D) σ2 H4 env2 ds4) (ci : CIn K Γ σ env H1 D H4 ds4 acc) (wk : ∀ H5, (∀ a o, Γ.nd a → a ≠ D → H4 a = some o → H5 a = some o) → Wlk K J items (fun b => gd (Γ.blk σ env H4 D) σ2 env2 b ∧ H4 b ≠ none) H5) (hw1 : wipeE env2 vs1 = some env3)
    (h : match compGo t1 c1 elt env3 items ds4 acc with | some (xs, ds') => ∀ H', CIn K Γ σ env H1 D H' ds' xs → Nx H' | none => False) :
    ∃ W1 : Nat → Nat → Hp → Prop, (∃ m, W1 0 m H4) ∧ ∀ j k H, W1 j k H →
      (J.stop j H ∧ Nx H) ∨ (J.go j H ∧ ∃ Nx1 : Hp → Prop, (∀ H', Nx1 H' → ∃ k', k' < k ∧ W1 (j + 1) k' H') ∧ ∀ x H', J.yld j H x H' → rdTgm K is1 t1 x (wipe σ2 vs1) H' fun σ3 H5 => wipe σ3 vs1 = wipe σ2 vs1 ∧ rdT K C W0 c1 σ3 H5 fun b H6 =>
        if b = true then rdG MD K C W0 elt σ3 H6 fun y H7 => ∃ acc, H7 D = some (.lst acc) ∧ acc.length < sizeLine ∧ Nx1 (upd H7 D (.lst (acc ++ [y]))) else Nx1 H6) := by
  have cn := R1.cell_ne hD
  have nD := (R1.new_gd hD).2.2
  refine ⟨fun i m H => m = items.length - i ∧ i ≤ items.length ∧ (∀ a o, Γ.nd a → a ≠ D → H4 a = some o → H a = some o) ∧ ∃ ds acc, CIn K Γ σ env H1 D H ds acc ∧ match compGo t1 c1 elt env3 (items.drop i) ds acc with | some (xs, ds') => ∀ H', CIn K Γ σ env H1 D H' ds' xs → Nx H' | none => False,
    ⟨_, rfl, Nat.zero_le _, fun _ _ _ _ q => q, ds4, acc, ci, h⟩, ?_⟩
  rintro i m H ⟨rfl, hi, kp, ds, acc, ci, h⟩
  have rel : ∀ {H : Hp} {ds : DS} {acc : List PyData}, (∀ a o, Γ.nd a → a ≠ D → H4 a = some o → H a = some o) → CIn K Γ σ env H1 D H ds acc → Rel K (Γ.blk σ env H D) σ2 H env2 ds := fun {H ds acc} kp ci' => by
    obtain ⟨us, l1, _⟩ := ci.lst
    obtain ⟨us', l2, _⟩ := ci'.lst
    refine R4.move kp ?_ ⟨_, l2⟩ ci'.draw cn fun a q => ((CIn.rel R1 hD ci').new_gd q).1
    obtain ⟨us0, l0, _⟩ := (‹CIn K Γ σ env H1 D H4 ds4 _›).lst
    exact ⟨_, l0⟩
  have R := rel kp ci
  have wl0 := wk H kp
  have gm : ∀ {H : Hp} a, gd (Γ.blk σ env H4 D) σ2 env2 a ∧ H4 a ≠ none → gd (Γ.blk σ env H D) (wipe σ2 vs1) env3 a := fun {H} a z => ⟨z.1.1, fun w => z.1.2.1 ((owned_wipe hw1).mp w), z.1.2.2⟩
  by_cases hlt : i < items.length
  · refine .inr ⟨wl0.go i hlt, fun H' => (items.length - (i + 1)) = items.length - (i + 1) ∧ i + 1 ≤ items.length ∧ (∀ a o, Γ.nd a → a ≠ D → H4 a = some o → H' a = some o) ∧ ∃ ds acc, CIn K Γ σ env H1 D H' ds acc ∧ match compGo t1 c1 elt env3 (items.drop (i + 1)) ds acc with | some (xs, ds') => ∀ H', CIn K Γ σ env H1 D H' ds' xs → Nx H' | none => False,
      fun H' n => ⟨items.length - (i + 1), by omega, n⟩, fun x H' y => ?_⟩
    obtain ⟨d, e1, k, hx⟩ := wl0.yld i x H' hlt y
    have e2 : items.drop i = d :: items.drop (i + 1) := by
      rw [List.drop_eq_getElem_cons hlt]
      rw [List.getElem?_eq_getElem hlt] at e1
      rw [Option.some.inj e1]
    rw [e2] at h
    have ci' : CIn K Γ σ env H1 D H' ds acc := ci.on R1 hD (fun a o _ q => k a o q) (drR_kept ci.draw k)
    have kp' : ∀ a o, Γ.nd a → a ≠ D → H4 a = some o → H' a = some o := fun a o n1 n2 q => k a o (kp a o n1 n2 q)
    have hx' : Df K H' (gd (Γ.blk σ env H' D) (wipe σ2 vs1) env3) x d := hx.mono (fun a u z q => ⟨gm a z, q⟩) fun _ _ z => z
    have RB := (rel kp' ci').wipes rfl hw1
    unfold compGo at h
    cases ht : t1 d env3 with
    | none => rw [ht] at h; exact h.elim
    | some env4 =>
      rw [ht] at h
      dsimp only at h
      refine ⟨Γ.blk σ env H' D, env3, ds, d, env4, RB, hx', ht, fun σ3 R3 _ s3 v3 => ⟨(wipe_same s3 hsub1).trans wipe_idem, Γ.blk σ env H' D, env4, ds, R3, aft_blk ?_⟩⟩
      have back : ∀ {a : Addr}, gd (Γ.blk σ env H' D) σ3 env4 a → gdx Γ σ env D a := fun {a} q => by
        refine ⟨⟨q.1.1, fun w => q.2.1 ?_, q.2.2⟩, q.1.2⟩
        obtain ⟨j, x, w1, w2, w3⟩ := w
        obtain ⟨_, _, h3⟩ := wipeE_ok hw
        obtain ⟨z1, z2⟩ := h3 j x w1 w2
        obtain ⟨_, _, h4⟩ := wipeE_ok hw1
        have nj : j ∉ is := fun z => z1 (hsub j z)
        have y1 : env2[j]? = some x := by rw [v2.2 j nj]; exact z2
        obtain ⟨z3, z4⟩ := h4 j x y1 w2
        have nj1 : j ∉ is1 := fun z => z3 (hsub1 j z)
        exact ⟨j, x, by rw [v3.2 j nj1]; exact z4, w2, by rw [s3.2 j nj1, wipe_get z3, s2.2 j nj, wipe_get z1]; exact w3⟩
      rcases q : c1 env4 ds with _ | ⟨b | ex, ds2⟩
      · rw [q] at h; exact h.elim
      · rw [q] at h
        intro H5 e5 d5
        have ci5 := ci'.on R1 hD e5 d5
        have kp5 : ∀ a o, Γ.nd a → a ≠ D → H4 a = some o → H5 a = some o := fun a o n1 n2 q => e5 a o n1 (kp' a o n1 n2 q)
        cases b with
        | false =>
          rw [if_neg Bool.false_ne_true]
          exact ⟨rfl, hlt, kp5, ds2, acc, ci5, h⟩
        | true =>
          rw [if_pos rfl]
          have g5 := R3.go (H1 := H5) e5 (d5.blkR cn)
          refine ⟨Γ.blk σ env H' D, env4, ds2, g5, aft_blk ?_⟩
          dsimp only at h
          rcases q2 : elt env4 ds2 with _ | ⟨y | ex, ds3⟩
          · rw [q2] at h; exact h.elim
          · rw [q2] at h
            intro H6 e6 d6 v hv
            dsimp only at h
            by_cases hs : acc.length < sizeLine
            · rw [if_pos (decide_eq_true hs)] at h
              have hy : Df K H6 (gdx Γ σ env D) v y := hv.mono (fun a u z q => ⟨back z, q⟩) fun _ _ z => z
              obtain ⟨us, w1, w2, w3⟩ := ci5.grow R1 hD e6 d6 y v hy hs
              exact ⟨us, w1, w2, rfl, hlt, fun a o n1 n2 q => by rw [upd_ne n2]; exact e6 a o n1 (kp5 a o n1 n2 q), ds3, _, w3, h⟩
            · rw [if_neg (by rw [decide_eq_false hs]; exact Bool.false_ne_true)] at h
              exact h.elim
          · rw [q2] at h; exact h.elim
      · rw [q] at h; exact h.elim
  · refine .inl ⟨wl0.stop i (by omega), ?_⟩
    rw [List.drop_eq_nil_of_le (by omega)] at h
    exact h H ci
theorem comp2_loop (hsub : ∀ i ∈ is, i ∈ vs) (hsub1 : ∀ i ∈ is1, i ∈ vs1) (hv1 : ∀ i ∈ vs1, i ∈ vs) (R1 : Rel K Γ σ H1 env ds1) (wk : Wk K Γ σ env J items H1) (hD : H1 D = none) (hw : wipeE env vs = some env1)
    (h : match comp2Go t c mi1 vs1 t1 c1 elt env1 items ds1 [] with | some (xs, ds') => ∀ H', CIn K Γ σ env H1 D H' ds' xs → Qd H' | none => False) :
    ∃ W' : Nat → Nat → Hp → Prop, (∃ m, W' 0 m (upd H1 D (.lst []))) ∧ ∀ i m H, W' i m H →
      (J.stop i H ∧ Qd H) ∨ (J.go i H ∧ ∃ Nx : Hp → Prop, (∀ H', Nx H' → ∃ m', m' < m ∧ W' (i + 1) m' H') ∧ ∀ x H', J.yld i H x H' → rdTgm K is t x (wipe σ vs) H' fun σ2 H2 => wipe σ2 vs = wipe σ vs ∧ rdT K C W0 c σ2 H2 fun b H3 =>
        if b = true then rdI K C W0 mi1 σ2 H3 fun J1 H4 => ∃ W1 : Nat → Nat → Hp → Prop, (∃ m, W1 0 m H4) ∧ ∀ j k H, W1 j k H →
          (J1.stop j H ∧ Nx H) ∨ (J1.go j H ∧ ∃ Nx1 : Hp → Prop, (∀ H', Nx1 H' → ∃ k', k' < k ∧ W1 (j + 1) k' H') ∧ ∀ x H', J1.yld j H x H' → rdTgm K is1 t1 x (wipe σ2 vs1) H' fun σ3 H5 => wipe σ3 vs1 = wipe σ2 vs1 ∧ rdT K C W0 c1 σ3 H5 fun b H6 =>
            if b = true then rdG MD K C W0 elt σ3 H6 fun y H7 => ∃ acc, H7 D = some (.lst acc) ∧ acc.length < sizeLine ∧ Nx1 (upd H7 D (.lst (acc ++ [y]))) else Nx1 H6)
        else Nx H3) := by
  have cn := R1.cell_ne hD
  refine ⟨fun i m H => m = items.length - i ∧ i ≤ items.length ∧ ∃ ds acc, CIn K Γ σ env H1 D H ds acc ∧ match comp2Go t c mi1 vs1 t1 c1 elt env1 (items.drop i) ds acc with | some (xs, ds') => ∀ H', CIn K Γ σ env H1 D H' ds' xs → Qd H' | none => False,
    ⟨_, rfl, Nat.zero_le _, ds1, [], CIn.start R1 hD, h⟩, ?_⟩
  rintro i m H ⟨rfl, hi, ds, acc, ci, h⟩
  have wl := Wlk.blk R1 hD ci.ext wk hw
  by_cases hlt : i < items.length
  · refine .inr ⟨wl.go i hlt, fun H' => (items.length - (i + 1)) = items.length - (i + 1) ∧ i + 1 ≤ items.length ∧ ∃ ds acc, CIn K Γ σ env H1 D H' ds acc ∧ match comp2Go t c mi1 vs1 t1 c1 elt env1 (items.drop (i + 1)) ds acc with | some (xs, ds') => ∀ H', CIn K Γ σ env H1 D H' ds' xs → Qd H' | none => False,
      fun H' n => ⟨items.length - (i + 1), by omega, n⟩, fun x H' y => ?_⟩
    obtain ⟨d, e1, k, hx⟩ := wl.yld i x H' hlt y
    have e2 : items.drop i = d :: items.drop (i + 1) := by
      rw [List.drop_eq_getElem_cons hlt]
      rw [List.getElem?_eq_getElem hlt] at e1
      rw [Option.some.inj e1]
    rw [e2] at h
    have ci' : CIn K Γ σ env H1 D H' ds acc := ci.on R1 hD (fun a o _ q => k a o q) (drR_kept ci.draw k)
    obtain ⟨us, l1, l2, l3⟩ := ci'.lst
    have hx' : Df K H' (gd (Γ.blk σ env H' D) (wipe σ vs) env1) x d := hx.mono (fun a u z q => ⟨z, q⟩) fun _ _ z => z
    have RB := R1.blk hD ci'.ext ci'.draw ⟨_, l1⟩ hw
    unfold comp2Go at h
    cases ht : t d env1 with
    | none => rw [ht] at h; exact h.elim
    | some env2 =>
      rw [ht] at h
      dsimp only at h
      refine ⟨Γ.blk σ env H' D, env1, ds, d, env2, RB, hx', ht, fun σ2 R2 _ s2 v2 => ⟨(wipe_same s2 hsub).trans wipe_idem, Γ.blk σ env H' D, env2, ds, R2, aft_blk ?_⟩⟩
      rcases q : c env2 ds with _ | ⟨b | ex, ds2⟩
      · rw [q] at h; exact h.elim
      · rw [q] at h
        intro H3 e3 d3
        have ci3 := ci'.on R1 hD e3 d3
        cases b with
        | false =>
          rw [if_neg Bool.false_ne_true]
          exact ⟨rfl, hlt, ds2, acc, ci3, h⟩
        | true =>
          rw [if_pos rfl]
          have mv : ∀ {H4 : Hp} {ds4 : DS}, Ext Γ H' H4 → DrR K Γ H4 ds4 → Rel K (Γ.blk σ env H4 D) σ2 H4 env2 ds4 := fun {H4 ds4} e4 d4 => by
            have ci4 := ci'.on R1 hD e4 d4
            obtain ⟨us4, w, _⟩ := ci4.lst
            exact R2.move (fun a o n _ q => e4 a o n q) ⟨_, l1⟩ ⟨_, w⟩ d4 cn fun a q => ((CIn.rel R1 hD ci4).new_gd q).1
          have R3 := mv e3 d3
          refine ⟨Γ.blk σ env H3 D, env2, ds2, R3, aft_blk ?_⟩
          dsimp only at h
          rcases q2 : mi1 env2 ds2 with _ | ⟨items1 | ex, ds3⟩
          · rw [q2] at h; exact h.elim
          · rw [q2] at h
            intro H4 e4 d4 J1 wk1
            dsimp only at h
            cases hw1 : wipeE env2 vs1 with
            | none => rw [hw1] at h; exact h.elim
            | some env3 =>
              rw [hw1] at h
              dsimp only at h
              have ci4 := ci3.on R1 hD e4 d4
              have R4 := mv (e3.trans e4) d4
              refine comp_inner (items := items1) (t1 := t1) (c1 := c1) (elt := elt) (C := C) R1 hD hw hsub hsub1 s2 v2 hv1 R4 ci4 (fun H5 kp => ?_) hw1 ?_
              · exact wk1 H5 fun a o n1 n2 n3 q => by
                  refine kp a o n2 (fun z => ?_) q
                  obtain ⟨us4, w, _⟩ := ci4.lst
                  rw [z, w] at q
                  cases q
                  exact (n3 _ rfl).2 z
              · rcases q3 : compGo t1 c1 elt env3 items1 ds3 acc with _ | ⟨acc', ds4⟩
                · rw [q3] at h; exact h
                · rw [q3] at h
                  exact fun H5 ci5 => ⟨rfl, hlt, ds4, acc', ci5, h⟩
          · rw [q2] at h; exact h.elim
      · rw [q] at h; exact h.elim
  · refine .inl ⟨wl.stop i (by omega), ?_⟩
    rw [List.drop_eq_nil_of_le (by omega)] at h
    exact h H ci
end
section
variable {X : Cx} {C : Exs} {W : WX} {fr : Bool} {elt tg iter tg1 iter1 : Expr} {ifs ifs1 : List Expr} {scope : Scope} {own : List (Str × Nat)} {pos : Pos} {mi mi1 : ME (List PyData)} {t t1 : Tg} {is is1 vs1 : List Nat} {c c1 : ME Bool} {me : ME PyData}
theorem comp2_rd {K : PySem.W.Frag} (hv : ∀ i ∈ vs1, i ∈ own.map (·.2)) (hsub : ∀ i ∈ is, i ∈ own.map (·.2)) (hsub1 : ∀ i ∈ is1, i ∈ vs1) {σ : St} {H : Hp} {Q : VK} (h : rdF K C W (mComp2 (own.map (·.2)) mi t c mi1 vs1 t1 c1 me) σ H Q) :
    tLc2 (rdI K C W mi) (rdTgm K is t) (rdT K C W0 c) (rdI K C W0 mi1) (rdTgm K is1 t1) (rdT K C W0 c1) (rdG MD K C W0 me) (own.map (·.2)) vs1 σ H Q := by
  obtain ⟨Γ, env, ds, R, h⟩ := h
  refine ⟨Γ, env, ds, R, h.bind.imp fun items ds1 H1 e1 d1 q J wk D hD => ?_⟩
  have R1 := R.go e1 d1
  have hD0 := R.none_back e1 d1 hD
  dsimp only at q
  cases hw : wipeE env (own.map (·.2)) with
  | none => rw [hw] at q; exact q.elim
  | some env1 =>
    rw [hw] at q
    dsimp only at q
    refine comp2_loop hsub hsub1 hv R1 wk hD hw ?_
    rcases z : comp2Go t c mi1 vs1 t1 c1 me env1 items ds1 [] with _ | ⟨xs, ds'⟩
    · rw [z] at q; exact q
    · rw [z] at q
      intro H' ci
      obtain ⟨us, l1, l2, l3⟩ := ci.lst
      exact q H' ci.ext ci.draw D us hD0 l1 l2 l3
abbrev Blk (X : Cx) (scope : Scope) (P : Cx → Prop) : Prop := ∀ (s : Shared) (H : Hp) (k : Addr) (cl : List (Str × Addr)) (fp : List Addr), P (X.blk s H scope (compEnvC scope cl k X.env) fp)
theorem sf_comp2 (hc : X.calm = true) (hN : X.N.Nodup) (hi : SI X C W tg iter mi) (ok : BlkOk X.N X.env.scope scope own) (hv : ∀ i ∈ vs1, i ∈ own.map (·.2)) (hsub : ∀ i ∈ is, i ∈ own.map (·.2)) (hsub1 : ∀ i ∈ is1, i ∈ vs1)
    (hg : Blk X scope fun Y => SG Y tg is t) (ht : Blk X scope fun Y => STs Y C W0 ifs c) (hi1 : Blk X scope fun Y => SI Y C W0 tg1 iter1 mi1) (hg1 : Blk X scope fun Y => SG Y tg1 is1 t1) (ht1 : Blk X scope fun Y => STs Y C W0 ifs1 c1) (he : Blk X scope fun Y => SE Y C W0 elt me)
    (hs : ∀ x, foldedSetIterable iter X.env x = pure x := by intro _; rfl) (hs1 : ∀ env x, foldedSetIterable iter1 env x = pure x := by intro _ _; rfl) : SF X C W (.ListComp elt [⟨tg, iter, ifs, 0⟩, ⟨tg1, iter1, ifs1, 0⟩] scope pos) (mComp2 (own.map (·.2)) mi t c mi1 vs1 t1 c1 me) :=
  PE.imp (pe_lc2 hc hN hi ok hv hg ht hi1 hg1 ht1 he hs hs1) fun σ H Q h => comp2_rd hv hsub hsub1 h
theorem ss_setLc2 (i : Nat) {y : Str} {py spos : Pos} (hc : X.calm = true) (hN : X.N.Nodup) (hsw : swapsWith (.ListComp elt [⟨tg, iter, ifs, 0⟩, ⟨tg1, iter1, ifs1, 0⟩] scope pos) (some (.Name y py)) spos.line X.env = pure true) (hi : SI X C W tg iter mi) (ok : BlkOk X.N X.env.scope scope own) (hv : ∀ i ∈ vs1, i ∈ own.map (·.2)) (hsub : ∀ i ∈ is, i ∈ own.map (·.2)) (hsub1 : ∀ i ∈ is1, i ∈ vs1)
    (hg : Blk X scope fun Y => SG Y tg is t) (ht : Blk X scope fun Y => STs Y C W0 ifs c) (hi1 : Blk X scope fun Y => SI Y C W0 tg1 iter1 mi1) (hg1 : Blk X scope fun Y => SG Y tg1 is1 t1) (ht1 : Blk X scope fun Y => STs Y C W0 ifs1 c1) (he : Blk X scope fun Y => SE Y C W0 elt me)
    (hy : X.N[i]? = some y := by rfl) (hyl : X.env.scope.names.lookup y = some .local := by rfl) (hs : ∀ x, foldedSetIterable iter X.env x = pure x := by intro _; rfl) (hs1 : ∀ env x, foldedSetIterable iter1 env x = pure x := by intro _ _; rfl) :
    SS X C W fr (.Assign [.Name y py] (.ListComp elt [⟨tg, iter, ifs, 0⟩, ⟨tg1, iter1, ifs1, 0⟩] scope pos) spos) (mSet i (mF (mComp2 (own.map (·.2)) mi t c mi1 vs1 t1 c1 me))) :=
  PS.imp (L2.ps_setLc2 hc hN hy hyl hsw hi ok hv hg ht hi1 hg1 ht1 he hs hs1) fun D σ H ⟨Γ, env, ds, R, h⟩ => comp2_rd hv hsub hsub1 ⟨Γ, env, ds, R, (exS_aft R h).bind.imp fun xs ds1 H1 e1 d1 q a us h1 h2 h3 h4 => by
    have q := Aft.here q d1
    cases hp : put i (.d (.list xs)) env with
    | none => rw [hp] at q; exact q.elim
    | some env' =>
      rw [hp] at q
      exact q _ _ ((R.go e1 d1).set_d (.lst (R.new_gd h1) h2 h3 h4.unavoid) hp)⟩
end
end DL

/-! DL9: one's own lists changed, the draw, calls of defs, the rule for a def, try. -/
namespace DL
open PySem PySem.Spec L2
open PyProof.Rows hiding St

/-! ### one's own lists -/
/-- the list in a slot, ahead of all else -/
def onL (i : Nat) (f : List PyData → MS) : MS := fun env ds => match env[i]? with
  | some (.l xs) => f xs env ds
  | _ => none
def mApp (i : Nat) (a : ME PyData) : MS := onL i fun xs => exS a fun x env ds => if decide (xs.length < sizeLine) then some (.nx (env.set i (.l (xs ++ [x]))), ds) else none
def mExt (i : Nat) (a : ME PyData) : MS := onL i fun xs => exS a fun x env ds => match x with
  | .list ys => if short (xs.length + ys.length) then some (.nx (env.set i (.l (xs ++ ys))), ds) else none
  | _ => none
def mPut (i : Nat) (ix a : ME PyData) : MS := onL i fun xs => exS a fun x => exS ix fun k env ds => match k with
  | .int k => match ixN xs.length k with
    | some j => some (.nx (env.set i (.l (xs.set j x))), ds)
    | none => none
  | _ => none
/-- x.append(y.pop(e)) -/
def mAppPop (i j : Nat) (ix : ME PyData) : MS := onL i fun xs => onL j fun ys => exS ix fun k env ds => match k with
  | .int k => if decide (0 ≤ k ∧ k < 2 ^ 62) && decide (i ≠ j) && decide (xs.length < sizeLine) then match ys[k.toNat]? with
      | some y => some (.nx ((env.set j (.l (ys.eraseIdx k.toNat))).set i (.l (xs ++ [y]))), ds)
      | none => none
    else none
  | _ => none
/-- x = y.pop() -/
def mSetPop (i j : Nat) : MS := onL j fun ys env ds => match ys[ys.length - 1]? with
  | some y => match put i (.d y) (env.set j (.l ys.dropLast)) with
    | some env' => if decide (i ≠ j) then some (.nx env', ds) else none
    | none => none
  | none => none
theorem onL_aft {K : PySem.W.Frag} {C : Exs} {W : WX} {fr : Bool} {Γ : Gm} {D : Ends} {i : Nat} {f : List PyData → MS} {env : Ev} {ds : DS} (h : Aft2 K C W fr Γ D (onL i f env ds)) : ∃ xs, env[i]? = some (.l xs) ∧ Aft2 K C W fr Γ D (f xs env ds) := by
  unfold onL at h
  split at h
  · rename_i xs q
    exact ⟨xs, q, h⟩
  · exact h.elim
section
variable {X : Cx} {C : Exs} {W : WX} {fr : Bool} {e o ix : Expr} {me mi : ME PyData} {K : PySem.W.Frag} {Γ : Gm} {σ : St} {H : Hp} {env : Ev} {ds : DS}
theorem Rel.l_at (R : Rel K Γ σ H env ds) {i : Nat} {xs : List PyData} (h : env[i]? = some (.l xs)) : ∃ a us, σ[i]? = some (some (V.ref a)) ∧ H a = some (.lst us) ∧ DfAll K H (gd Γ σ env) us xs ∧ us.length ≤ sizeLine := by
  obtain ⟨a, us, e1, e2, e3, e4, _⟩ := R.slot i _ h
  exact ⟨a, us, e1, e2, e3, e4⟩
theorem tyV_list {a : Addr} {us : List V} (h : H a = some (.lst us)) : tyV K "list" (.ref a) H := .inl ⟨rfl, us, SqL.of h⟩
theorem Rel.l_same {H1 : Hp} {ds1 : DS} (R : Rel K Γ σ H env ds) (e1 : Ext Γ H H1) (d1 : DrR K Γ H1 ds1) {i : Nat} {xs : List PyData} {a : Addr} (h : env[i]? = some (.l xs)) (hs : σ[i]? = some (some (V.ref a))) : ∃ us, H1 a = some (.lst us) ∧ DfAll K H1 (gd Γ σ env) us xs ∧ us.length ≤ sizeLine := by
  obtain ⟨b, us, q1, q2, q3, q4⟩ := (R.go e1 d1).l_at h
  rw [hs] at q1
  cases q1
  exact ⟨us, q2, q3, q4⟩
theorem ss_app (i : Nat) {x : Str} {p ap cp ep : Pos} (he : SE X C W e me) (hN : X.N[i]? = some x := by rfl) (hv : Vis X.env.scope x := by first | exact Or.inl rfl | exact Or.inr (Or.inl rfl) | exact Or.inr (Or.inr rfl)) (hd : (x == ("__debug__" : Str)) = false := by decide) (hcd : (x == ("__classdict__" : Str)) = false := by decide)
    (hbase : attributeBase (.Name x p) "append" X.env (eval (.Name x p) X.env) = eval (.Name x p) X.env := by rfl)
    (hfew : ((backTo cp (starEach [e] X.env)).all (fun x => !x.1) && (backToKw cp (keywordEach [] X.env)).all (fun x => x.1.isSome) && decide ([e].length + ([] : List Keyword).length + (if ([] : List Keyword).isEmpty then 0 else 1) < 30)) = true := by rfl)
    (hline : (ap.endLine == cp.line) = true := by rfl) (hs : starEach (e :: []) X.env = (false, eval e X.env) :: starEach [] X.env := by rfl) (hplain : (backTo cp (starEach [] X.env)).any (·.1) = false := by rfl)
    (hsw : swapsWith (.Call (.Attribute (.Name x p) "append" ap) [e] [] cp) none ep.line X.env = pure false := by rfl) :
    SS X C W fr (.Expr (.Call (.Attribute (.Name x p) "append" ap) [e] [] cp) ep) (mApp i me) :=
  PS.imp (ps_expr (pe_bm PySem.F.plainAttrs_list PySem.F.slot_list_append PySem.F.type_list_append mt_append (pe_var hN hv hd hcd) (pa_cons he pa_nil hs) hbase hfew hline hs hplain) hsw) fun D σ H ⟨Γ, env, ds, R, h⟩ => by
    obtain ⟨xs, q0, h⟩ := onL_aft h
    obtain ⟨a, us, q1, q2, q3, q4⟩ := R.l_at q0
    refine ⟨_, q1, tyV_list q2, Γ, env, ds, R, (exS_aft R h).imp fun d ds1 H1 e1 d1 q v hv => ?_⟩
    obtain ⟨us1, w1, w2, w3⟩ := R.l_same e1 d1 q0 q1
    by_cases hs : xs.length < sizeLine
    · rw [if_pos (decide_eq_true hs)] at q
      have ln := w2.length
      refine ⟨a, us1, v, rfl, rfl, w1, by rw [ln]; exact hs, q _ _ ((R.go e1 d1).upd_l q0 q1 (by rw [List.length_append, ln]; exact hs) (w2.append (.cons hv .nil)))⟩
    · rw [if_neg (by rw [decide_eq_false hs]; exact Bool.false_ne_true)] at q
      exact q.elim
theorem ss_ext (i : Nat) {x : Str} {p ap cp ep : Pos} (he : SE X C W e me) (hN : X.N[i]? = some x := by rfl) (hv : Vis X.env.scope x := by first | exact Or.inl rfl | exact Or.inr (Or.inl rfl) | exact Or.inr (Or.inr rfl)) (hd : (x == ("__debug__" : Str)) = false := by decide) (hcd : (x == ("__classdict__" : Str)) = false := by decide)
    (hbase : attributeBase (.Name x p) "extend" X.env (eval (.Name x p) X.env) = eval (.Name x p) X.env := by rfl)
    (hfew : ((backTo cp (starEach [e] X.env)).all (fun x => !x.1) && (backToKw cp (keywordEach [] X.env)).all (fun x => x.1.isSome) && decide ([e].length + ([] : List Keyword).length + (if ([] : List Keyword).isEmpty then 0 else 1) < 30)) = true := by rfl)
    (hline : (ap.endLine == cp.line) = true := by rfl) (hs : starEach (e :: []) X.env = (false, eval e X.env) :: starEach [] X.env := by rfl) (hplain : (backTo cp (starEach [] X.env)).any (·.1) = false := by rfl)
    (hsw : swapsWith (.Call (.Attribute (.Name x p) "extend" ap) [e] [] cp) none ep.line X.env = pure false := by rfl) :
    SS X C W fr (.Expr (.Call (.Attribute (.Name x p) "extend" ap) [e] [] cp) ep) (mExt i me) :=
  PS.imp (ps_expr (pe_bm PySem.F.plainAttrs_list PySem.F.slot_list_extend PySem.F.type_list_extend mt_extend (pe_var hN hv hd hcd) (pa_cons he pa_nil hs) hbase hfew hline hs hplain) hsw) fun D σ H ⟨Γ, env, ds, R, h⟩ => by
    obtain ⟨xs, q0, h⟩ := onL_aft h
    obtain ⟨a, us, q1, q2, q3, q4⟩ := R.l_at q0
    refine ⟨_, q1, tyV_list q2, Γ, env, ds, R, (exS_aft R h).imp fun d ds1 H1 e1 d1 q v hv => ?_⟩
    obtain ⟨us1, w1, w2, w3⟩ := R.l_same e1 d1 q0 q1
    cases d with
    | list ys =>
      cases hv with
      | lst a1 a2 a3 a4 =>
        dsimp only at q
        by_cases hs' : short (xs.length + ys.length) = true
        · rw [if_pos hs'] at q
          have hs := short_iff hs'
          have ln := w2.length
          have ln2 := a4.length
          refine ⟨a, _, us1, _, rfl, rfl, w1, a2, by rw [ln, ln2]; exact hs, q _ _ ((R.go e1 d1).upd_l q0 q1 (by rw [List.length_append, ln, ln2]; exact hs) (w2.append a4))⟩
        · rw [if_neg hs'] at q
          exact q.elim
    | _ => exact q.elim
theorem ss_put (i : Nat) {x : Str} {p sp : Pos} {pos : Pos} (he : SE X C W e me) (hi : SE X C W ix mi) (hN : X.N[i]? = some x := by rfl) (hv : Vis X.env.scope x := by first | exact Or.inl rfl | exact Or.inr (Or.inl rfl) | exact Or.inr (Or.inr rfl)) (hd : (x == ("__debug__" : Str)) = false := by decide) (hcd : (x == ("__classdict__" : Str)) = false := by decide)
    (ha : ∀ v, assign (.Subscript (.Name x p) ix sp) X.env v = (do
      let ov ← holding [v] (eval (.Name x p) X.env)
      let iv ← holding [v, ov] (eval ix X.env)
      standAt sp
      holding [v, ov, iv] (setItem ov iv v)
      release [v, ov, iv] []) := by intro _; rfl)
    (hs : swapsWithSole [.Subscript (.Name x p) ix sp] e pos.line X.env = pure false := by rfl) (hw : swappedStores [.Subscript (.Name x p) ix sp] e X.env = pure none := by rfl)
    (h1 : (assignEach [.Subscript (.Name x p) ix sp] X.env).map (·.2) = [assign (.Subscript (.Name x p) ix sp) X.env] := by rfl) :
    SS X C W fr (.Assign [.Subscript (.Name x p) ix sp] e pos) (mPut i mi me) :=
  PS.imp (ps_asg he (pg_sub (pe_var hN hv hd hcd) hi set_list ha) hs hw h1) fun D σ H ⟨Γ, env, ds, R, h⟩ => by
    obtain ⟨xs, q0, h⟩ := onL_aft h
    obtain ⟨a, us, q1, q2, q3, q4⟩ := R.l_at q0
    refine ⟨Γ, env, ds, R, (exS_aft R h).imp fun d ds1 H1 e1 d1 q v hv => ⟨_, q1, ?_⟩⟩
    have R1 := R.go e1 d1
    refine ⟨Γ, env, ds1, R1, (exS_aft R1 q).imp fun k ds2 H2 e2 d2 q w hw => ?_⟩
    obtain ⟨us1, w1, w2, w3⟩ := R1.l_same e2 d2 q0 q1
    cases k with
    | int k =>
      cases hw
      dsimp only at q
      cases hj : ixN xs.length k with
      | none => rw [hj] at q; exact q.elim
      | some j =>
        rw [hj] at q
        refine ⟨a, us1, k, j, rfl, rfl, w1, by rw [w2.length]; exact hj, q _ _ ((R1.go e2 d2).upd_l q0 q1 (by rw [List.length_set]; exact w3) (w2.set j (hv.ext e2 d1)))⟩
    | _ => exact q.elim
theorem seqIndex_nat {k : Int} {n j : Nat} (h0 : 0 ≤ k) (h1 : k.toNat < n) (hj : k.toNat = j) : seqIndex? k n = some j := by
  have := ixN_seq (n := n) (i := k) (j := j) (by
    unfold ixN
    rw [if_pos h0, if_pos (by omega), hj])
  exact this.1
theorem DfAll.erase {g : Addr → Prop} : ∀ {us : List V} {xs : List PyData} (n : Nat), DfAll K H g us xs → DfAll K H g (us.eraseIdx n) (xs.eraseIdx n)
  | _, _, _, .nil => .nil
  | _, _, 0, .cons _ t => t
  | _, _, n + 1, .cons h t => .cons h (DfAll.erase n t)
theorem DfAll.dropLast {g : Addr → Prop} {us : List V} {xs : List PyData} (h : DfAll K H g us xs) : DfAll K H g us.dropLast xs.dropLast := by
  rw [List.dropLast_eq_take, List.dropLast_eq_take, h.length]
  exact h.take _
theorem ss_appPop (i j : Nat) {x y : Str} {p ap cp p2 ap2 cp2 ep : Pos} (he : SE X C W e me) (hN : X.N[i]? = some x := by rfl) (hv : Vis X.env.scope x := by first | exact Or.inl rfl | exact Or.inr (Or.inl rfl) | exact Or.inr (Or.inr rfl)) (hd : (x == ("__debug__" : Str)) = false := by decide) (hcd : (x == ("__classdict__" : Str)) = false := by decide)
    (hN2 : X.N[j]? = some y := by rfl) (hv2 : Vis X.env.scope y := by first | exact Or.inl rfl | exact Or.inr (Or.inl rfl) | exact Or.inr (Or.inr rfl)) (hd2 : (y == ("__debug__" : Str)) = false := by decide) (hcd2 : (y == ("__classdict__" : Str)) = false := by decide)
    (hbase : attributeBase (.Name x p) "append" X.env (eval (.Name x p) X.env) = eval (.Name x p) X.env := by rfl) (hbase2 : attributeBase (.Name y p2) "pop" X.env (eval (.Name y p2) X.env) = eval (.Name y p2) X.env := by rfl)
    (hfew : ((backTo cp (starEach [.Call (.Attribute (.Name y p2) "pop" ap2) [e] [] cp2] X.env)).all (fun x => !x.1) && (backToKw cp (keywordEach [] X.env)).all (fun x => x.1.isSome) && decide ([Expr.Call (.Attribute (.Name y p2) "pop" ap2) [e] [] cp2].length + ([] : List Keyword).length + (if ([] : List Keyword).isEmpty then 0 else 1) < 30)) = true := by rfl)
    (hfew2 : ((backTo cp2 (starEach [e] X.env)).all (fun x => !x.1) && (backToKw cp2 (keywordEach [] X.env)).all (fun x => x.1.isSome) && decide ([e].length + ([] : List Keyword).length + (if ([] : List Keyword).isEmpty then 0 else 1) < 30)) = true := by rfl)
    (hline : (ap.endLine == cp.line) = true := by rfl) (hline2 : (ap2.endLine == cp2.line) = true := by rfl) (hs2 : starEach (e :: []) X.env = (false, eval e X.env) :: starEach [] X.env := by rfl) (hplain2 : (backTo cp2 (starEach [] X.env)).any (·.1) = false := by rfl)
    (hs : starEach (Expr.Call (.Attribute (.Name y p2) "pop" ap2) [e] [] cp2 :: []) X.env = (false, eval (Expr.Call (.Attribute (.Name y p2) "pop" ap2) [e] [] cp2) X.env) :: starEach [] X.env := by rfl) (hplain : (backTo cp (starEach [] X.env)).any (·.1) = false := by rfl)
    (hsw : swapsWith (.Call (.Attribute (.Name x p) "append" ap) [.Call (.Attribute (.Name y p2) "pop" ap2) [e] [] cp2] [] cp) none ep.line X.env = pure false := by rfl) :
    SS X C W fr (.Expr (.Call (.Attribute (.Name x p) "append" ap) [.Call (.Attribute (.Name y p2) "pop" ap2) [e] [] cp2] [] cp) ep) (mAppPop i j me) :=
  PS.imp (ps_expr (pe_bm PySem.F.plainAttrs_list PySem.F.slot_list_append PySem.F.type_list_append mt_append (pe_var hN hv hd hcd) (pa_cons (pe_bm PySem.F.plainAttrs_list PySem.F.slot_list_pop PySem.F.type_list_pop mt_popAt (pe_var hN2 hv2 hd2 hcd2) (pa_cons he pa_nil hs2) hbase2 hfew2 hline2 hs2 hplain2) pa_nil hs) hbase hfew hline hs hplain) hsw) fun D σ H ⟨Γ, env, ds, R, h⟩ => by
    obtain ⟨xs, q0, h⟩ := onL_aft h
    obtain ⟨ys, r0, h⟩ := onL_aft h
    obtain ⟨a, us, q1, q2, q3, q4⟩ := R.l_at q0
    obtain ⟨b, ws, r1, r2, r3, r4⟩ := R.l_at r0
    refine ⟨_, q1, tyV_list q2, ?_⟩
    refine ⟨_, r1, tyV_list r2, Γ, env, ds, R, (exS_aft R h).imp fun d ds1 H1 e1 d1 q v hv => ?_⟩
    have R1 := R.go e1 d1
    cases d with
    | int k =>
      cases hv
      dsimp only at q
      by_cases hc : (decide (0 ≤ k ∧ k < 2 ^ 62) && decide (i ≠ j) && decide (xs.length < sizeLine)) = true
      · rw [if_pos hc] at q
        rw [Bool.and_eq_true, Bool.and_eq_true] at hc
        have hk := of_decide_eq_true hc.1.1
        have hij : i ≠ j := of_decide_eq_true hc.1.2
        have hl := of_decide_eq_true hc.2
        cases hy : ys[k.toNat]? with
        | none => rw [hy] at q; exact q.elim
        | some y =>
          rw [hy] at q
          dsimp only at q
          obtain ⟨us1, w1, w2, w3⟩ := R.l_same e1 d1 q0 q1
          obtain ⟨ws1, z1, z2, z3⟩ := R.l_same e1 d1 r0 r1
          obtain ⟨vy, y1, y2⟩ := z2.get hy
          have hn : k.toNat < ys.length := (List.getElem?_eq_some_iff.mp hy).1
          refine ⟨b, ws1, k, k.toNat, vy, rfl, rfl, z1, by omega, by omega, seqIndex_nat hk.1 (by rw [z2.length]; exact hn) rfl, y1, ?_⟩
          have hle : (ws1.eraseIdx k.toNat).length ≤ sizeLine := Nat.le_trans (List.length_eraseIdx_le ..) z3
          have R2 := R1.upd_l r0 r1 hle (z2.erase k.toNat)
          have q0' : (env.set j (.l (ys.eraseIdx k.toNat)))[i]? = some (.l xs) := by rw [List.getElem?_set_ne hij.symm]; exact q0
          obtain ⟨a', us2, f1, f2, f3, f4⟩ := R2.l_at q0'
          rw [q1] at f1
          cases f1
          have ln := f3.length
          have ob : owned σ env b := ⟨j, _, r0, rfl, r1⟩
          have nb : ∀ c, gd Γ σ env c → c ≠ b := fun c g z => g.2.1 (by rw [z]; exact ob)
          have ow : ∀ c, owned σ (env.set j (.l (ys.eraseIdx k.toNat))) c → owned σ env c := by
            rintro c ⟨l, s, w1, w2, w3⟩
            by_cases z : j = l
            · subst z; exact ⟨j, _, r0, rfl, w3⟩
            · rw [List.getElem?_set_ne z] at w1; exact ⟨l, s, w1, w2, w3⟩
          have tq : ∀ c u, H1 c = some (.tup u) → upd H1 b (.lst (ws1.eraseIdx k.toNat)) c = some (.tup u) := by
            intro c u t
            rw [upd_ne (ne_of t z1 (by intro z; cases z))]; exact t
          have vy' : Df X.K (upd H1 b (.lst (ws1.eraseIdx k.toNat))) (gd Γ σ (env.set j (.l (ys.eraseIdx k.toNat)))) vy y :=
            y2.mono (fun c u g k => ⟨⟨g.1, fun w => g.2.1 (ow c w), g.2.2⟩, by rw [upd_ne (nb c g)]; exact k⟩) tq
          refine ⟨a, us2, vy, rfl, rfl, f2, by rw [ln]; exact hl, q _ _ (R2.upd_l q0' q1 (by rw [List.length_append, ln]; exact hl) (f3.append (.cons vy' .nil)))⟩
      · rw [if_neg hc] at q
        exact q.elim
    | _ => exact q.elim
end
end DL

/-! DL10: the script, the draw, calls of defs, the rule for a def, try. -/
namespace DL
open PySem PySem.Spec L2
open PyProof.Rows hiding St

section
variable {X : Cx} {C : Exs} {W : WX} {fr : Bool} {tg e : Expr} {me : ME PyData} {K : PySem.W.Frag} {Γ : Gm} {σ : St} {H : Hp} {env : Ev} {ds : DS}
/-! ### the script -/
def mScr (i : Nat) : ME (List PyData) := fun env ds => match env[i]? with
  | some (.scr ns) => some (.ok (ns.map .int), ds)
  | _ => none
theorem kept_scr {H2 : Hp} (R : Rel K Γ σ H env ds) (k : Kept Γ σ env H H2) {a : Addr} {xs : List V} (h : ScrAt K H a xs) : ScrAt K H2 a xs := by
  rcases h with ⟨o, h⟩ | h
  · obtain ⟨n1, n2⟩ := kept_nd R h imm_frz
    exact .inl ⟨o, k a _ n1 n2 (fun _ z => by cases z) h⟩
  · exact .inr h
theorem si_scr (i : Nat) {x : Str} {p : Pos} (hN : X.N[i]? = some x := by rfl) (hv : Vis X.env.scope x := by first | exact Or.inl rfl | exact Or.inr (Or.inl rfl) | exact Or.inr (Or.inr rfl)) (hd : (x == ("__debug__" : Str)) = false := by decide) (hcd : (x == ("__classdict__" : Str)) = false := by decide) : SI X C W tg (.Name x p) (mScr i) :=
  PI.imp (pi_list (pe_var hN hv hd hcd)) fun σ H Q ⟨Γ, env, ds, R, h⟩ => by
    unfold mScr at h
    rcases q : env[i]? with _ | y
    · rw [q] at h; exact h.elim
    · rw [q] at h
      have s := R.slot i _ q
      cases y with
      | scr ns =>
        obtain ⟨a, e1, e2, e3⟩ := s
        refine ⟨_, e1, a, rfl, ⟨_, e2.sq⟩, Aft.here h R.draw _ fun H2 k => ?_⟩
        have s2 := kept_scr R k e2
        refine ⟨fun j hj => ?_, fun j x H' hj q => ?_, fun j hj => ⟨_, s2.sq, by rw [List.length_map] at hj ⊢; exact hj⟩⟩
        · rw [List.length_map] at hj
          exact ⟨_, .int ns[j], s2.sq, by rw [List.getElem?_map, List.getElem?_eq_getElem hj]; rfl⟩
        · obtain ⟨rfl, q⟩ := q
          rw [List.length_map] at hj
          have q := q _ s2.sq
          rw [List.getElem?_map, List.getElem?_eq_getElem hj] at q
          cases q
          exact ⟨.int ns[j], by rw [List.getElem?_map, List.getElem?_eq_getElem hj]; rfl, fun _ _ z => z, .int _⟩
      | _ => exact h.elim

/-! ### the draw -/
def drGet (s : DSt) : Nat → Option PyData
  | 0 => some (.list (s.cells.map .int))
  | 1 => some (.int s.place)
  | 2 => some (.int s.cur)
  | 3 => some (.int s.seed)
  | _ => none
def drSet (s : DSt) : Nat → Int → Option DSt
  | 1, i => some { s with place := i }
  | 2, i => some { s with cur := i }
  | 3, i => some { s with seed := i }
  | _, _ => none
def mDrw (i k : Nat) : ME PyData := fun env ds => match env[i]?, ds with
  | some .drw, some s => match drGet s k with
    | some x => some (.ok x, ds)
    | none => none
  | _, _ => none
def mDrwSet (i k : Nat) (a : ME PyData) : MS := exS a fun x env ds => match env[i]?, ds, x with
  | some .drw, some s, .int j => match drSet s k j with
    | some s' => some (.nx env, some s')
    | none => none
  | _, _, _ => none
theorem Rel.drw (R : Rel K Γ σ H env ds) {i : Nat} (h : env[i]? = some .drw) : ∃ p s, Γ.dr = some p ∧ ds = some s ∧ σ[i]? = some (some (V.ref p.1)) ∧ H p.1 = some (.lst [.ref p.2, .int s.place, .int s.cur, .int s.seed]) ∧ H p.2 = some (.lst (s.cells.map V.int)) ∧ s.cells.length ≤ sizeLine ∧ p.2 ≠ p.1 ∧ gd Γ σ env p.2 := by
  obtain ⟨p, e1, e2⟩ := R.slot i _ h
  have d := R.draw
  have dc := R.drc p e1
  unfold DrR at d
  rw [e1] at d
  cases ds with
  | none => exact d.elim
  | some s =>
    refine ⟨p, s, e1, rfl, e2, d.1, d.2.1, d.2.2.1, d.2.2.2.1, d.2.2.2.2, dc, fun q e z => ?_⟩
    rw [e1] at e
    cases e
    exact d.2.2.2.1 z
theorem se_drw (i k : Nat) {x : Str} {p p2 pos : Pos} {j : Nat} (hN : X.N[i]? = some x := by rfl) (hv : Vis X.env.scope x := by first | exact Or.inl rfl | exact Or.inr (Or.inl rfl) | exact Or.inr (Or.inr rfl)) (hd : (x == ("__debug__" : Str)) = false := by decide) (hcd : (x == ("__classdict__" : Str)) = false := by decide)
    (hs : PlainIx (.Constant (.int k) j p2) := by exact fun _ _ => rfl) : SE X C W (.Subscript (.Name x p) (.Constant (.int k) j p2) pos) (mDrw i k) :=
  PE.imp (pe_ix ix_list (pe_var hN hv hd hcd) pe_int hs) fun σ H Q ⟨Γ, env, ds, R, h⟩ => by
    unfold mDrw at h
    rcases q : env[i]? with _ | y
    · rw [q] at h; exact h.elim
    · rw [q] at h
      cases y with
      | drw =>
        obtain ⟨p, s, e1, rfl, e2, e3, e4, e5, e6, e7⟩ := R.drw q
        dsimp only at h
        cases g : drGet s k with
        | none => rw [g] at h; exact h.elim
        | some x =>
          rw [g] at h
          have fin := Aft.here h R.draw
          have go : ∀ v, atI [V.ref p.2, .int s.place, .int s.cur, .int s.seed] ((k : Nat) : Int) = some v → Df X.K H (gd Γ σ env) v x → _ := fun v e h => (⟨_, e2, p.1, _, _, v, rfl, rfl, SqL.of e3, e, fin v h⟩ : tOp (rIxL X.K) (tVar i) (tC (V.int k)) σ H Q)
          match k, g with
          | 0, g => cases g; exact go _ rfl (.lst e7 e4 (by rw [List.length_map]; exact e5) (DfAll.of_ints _))
          | 1, g => cases g; exact go _ rfl (.int _)
          | 2, g => cases g; exact go _ rfl (.int _)
          | 3, g => cases g; exact go _ rfl (.int _)
          | _ + 4, g => cases g
      | _ => exact h.elim
theorem ss_drwSet (i k : Nat) {x : Str} {p p2 sp pos : Pos} {j : Nat} (he : SE X C W e me) (hN : X.N[i]? = some x := by rfl) (hv : Vis X.env.scope x := by first | exact Or.inl rfl | exact Or.inr (Or.inl rfl) | exact Or.inr (Or.inr rfl)) (hd : (x == ("__debug__" : Str)) = false := by decide) (hcd : (x == ("__classdict__" : Str)) = false := by decide)
    (ha : ∀ v, assign (.Subscript (.Name x p) (.Constant (.int k) j p2) sp) X.env v = (do
      let ov ← holding [v] (eval (.Name x p) X.env)
      let iv ← holding [v, ov] (eval (.Constant (.int k) j p2) X.env)
      standAt sp
      holding [v, ov, iv] (setItem ov iv v)
      release [v, ov, iv] []) := by intro _; rfl)
    (hs : swapsWithSole [.Subscript (.Name x p) (.Constant (.int k) j p2) sp] e pos.line X.env = pure false := by rfl) (hw : swappedStores [.Subscript (.Name x p) (.Constant (.int k) j p2) sp] e X.env = pure none := by rfl)
    (h1 : (assignEach [.Subscript (.Name x p) (.Constant (.int k) j p2) sp] X.env).map (·.2) = [assign (.Subscript (.Name x p) (.Constant (.int k) j p2) sp) X.env] := by rfl) :
    SS X C W fr (.Assign [.Subscript (.Name x p) (.Constant (.int k) j p2) sp] e pos) (mDrwSet i k me) :=
  PS.imp (ps_asg he (pg_sub (pe_var hN hv hd hcd) pe_int set_list ha) hs hw h1) fun D σ H ⟨Γ, env, ds, R, h⟩ => ⟨Γ, env, ds, R, (exS_aft R h).imp fun d ds1 H1 x1 d1 h v hv => by
    have R1 := R.go x1 d1
    rcases q : env[i]? with _ | y
    · rw [q] at h; exact h.elim
    · rw [q] at h
      cases y with
      | drw =>
        obtain ⟨p, s, e1, rfl, e2, e3, e4, e5, e6, e7⟩ := R1.drw q
        cases d with
        | int n =>
          cases hv
          dsimp only at h
          cases g : drSet s k n with
          | none => rw [g] at h; exact h.elim
          | some s' =>
            rw [g] at h
            have go : ∀ l, l < 4 → k = l → ([V.ref p.2, .int s.place, .int s.cur, .int s.seed].set l (.int n) = [V.ref p.2, .int s'.place, .int s'.cur, .int s'.seed]) → s'.cells = s.cells → (gSub (tVar i) (tC (V.int k)) rSetL (V.int n) σ H1 D.nx) := fun l hl hk hs hc => by
              refine ⟨_, e2, p.1, _, _, l, rfl, rfl, e3, ?_, ?_⟩
              · unfold ixN
                subst hk
                show (if (0 : Int) ≤ ((k : Nat) : Int) then (if ((k : Nat) : Int) < ((4 : Nat) : Int) then some ((k : Nat) : Int).toNat else none) else _) = some k
                rw [if_pos (by omega), if_pos (by omega)]
                rfl
              · rw [hs]
                refine h σ _ (R1.go (fun a o n q => ?_) ?_)
                · rw [upd_ne (n p e1)]; exact q
                · unfold DrR
                  rw [e1]
                  exact ⟨upd_same, by rw [upd_ne e6, hc]; exact e4, by rw [hc]; exact e5, e6, e7.1⟩
            match k, g with
            | 0, g => cases g
            | 1, g => cases g; exact go 1 (by decide) rfl rfl rfl
            | 2, g => cases g; exact go 2 (by decide) rfl rfl rfl
            | 3, g => cases g; exact go 3 (by decide) rfl rfl rfl
            | _ + 4, g => cases g
        | _ => exact h.elim
      | _ => exact h.elim⟩
end

/-! ### calls -/
def ArgR (K : PySem.W.Frag) (Γ : Gm) (g : Addr → Prop) (H : Hp) (v : V) : Sl → Prop
  | .d x => Df K H g v x
  | .drw => ∃ p, Γ.dr = some p ∧ v = .ref p.1
  | .scr ns => ∃ a, v = .ref a ∧ ScrAt K H a (ns.map V.int) ∧ ns.length ≤ 63
  | _ => False
inductive ArgsR (K : PySem.W.Frag) (Γ : Gm) (g : Addr → Prop) (H : Hp) : List V → List Sl → Prop
  | nil : ArgsR K Γ g H [] []
  | cons {v : V} {x : Sl} {vs : List V} {xs : List Sl} : ArgR K Γ g H v x → ArgsR K Γ g H vs xs → ArgsR K Γ g H (v :: vs) (x :: xs)
abbrev FS := List Sl → DS → Rz PyData
/-- what a def promises -/
def spD (K : PySem.W.Frag) (C : Exs) (fr : Bool) (np : Nat) (f : FS) : Sp := fun vs H Q E => ∃ Γ args ds, Γ.H0 = H ∧ Γ.lk = [] ∧ (∀ a, H a = none → Γ.ok a) ∧ DrR K Γ H ds ∧ ArgsR K Γ (fun a => Γ.ok a ∧ Γ.nd a) H vs args ∧ args.length = np ∧
  match f args ds with
  | some (.ok d, ds') => ∀ v H', RetR fr K Γ H' ds' v d → Q v H'
  | some (.exc x, ds') => ∀ cls dd H', Ext Γ H H' → DrR K Γ H' ds' → ExR C x cls dd H' → E cls dd H'
  | none => False
def runB (nN np : Nat) (fr : Bool) (m : MS) : FS := fun args ds => match m (args ++ List.replicate (nN - np) .un) ds with
  | some (.rt d, ds') => some (.ok d, ds')
  | some (.nx _, ds') => if fr then none else some (.ok .none, ds')
  | some (.ex x _, ds') => some (.exc x, ds')
  | _ => none
theorem ArgsR.length {K : PySem.W.Frag} {Γ : Gm} {g : Addr → Prop} {H : Hp} {vs : List V} {xs : List Sl} (h : ArgsR K Γ g H vs xs) : vs.length = xs.length := by
  induction h with
  | nil => rfl
  | cons _ _ ih => rw [List.length_cons, List.length_cons, ih]
theorem ArgsR.get {K : PySem.W.Frag} {Γ : Gm} {g : Addr → Prop} {H : Hp} {vs : List V} {xs : List Sl} (h : ArgsR K Γ g H vs xs) : ∀ (i : Nat) (x : Sl), xs[i]? = some x → ∃ v, vs[i]? = some v ∧ ArgR K Γ g H v x := by
  induction h with
  | nil => intro i x q; simp at q
  | cons a _ ih =>
    intro i x q
    cases i with
    | zero =>
      simp at q
      subst q
      exact ⟨_, rfl, a⟩
    | succ i =>
      obtain ⟨v, q1, q2⟩ := ih i x (by simpa using q)
      exact ⟨v, by simpa using q1, q2⟩
theorem ArgsR.own {K : PySem.W.Frag} {Γ : Gm} {g : Addr → Prop} {H : Hp} {vs : List V} {xs : List Sl} (h : ArgsR K Γ g H vs xs) {n : Nat} {i : Nat} {x : Sl} (q : (xs ++ List.replicate n .un)[i]? = some x) : x.own = false := by
  by_cases hi : i < xs.length
  · rw [List.getElem?_append_left hi] at q
    obtain ⟨v, _, a⟩ := h.get i x q
    cases x with
    | l _ => exact a.elim
    | lk _ => exact a.elim
    | dc t0 _ => exact a.elim
    | _ => rfl
  · rw [List.getElem?_append_right (by omega)] at q
    rw [List.getElem?_replicate] at q
    split at q
    · cases q; rfl
    · cases q
section
variable {K : PySem.W.Frag} {Γ : Gm} {H : Hp} {ds : DS}
theorem rel_start {vs : List V} {args : List Sl} {N : List Str} (h0 : Γ.H0 = H) (hk : Γ.lk = []) (ho : ∀ a, H a = none → Γ.ok a) (hd : DrR K Γ H ds) (ha : ArgsR K Γ (fun a => Γ.ok a ∧ Γ.nd a) H vs args) : Rel K Γ (L2.start N vs) H (args ++ List.replicate (N.length - args.length) .un) ds := by
  have ln := ha.length
  have no : ∀ a, ¬ owned (L2.start N vs) (args ++ List.replicate (N.length - args.length) Sl.un) a := fun a ⟨i, x, q1, q2, _⟩ => by
    rw [ha.own q1] at q2
    cases q2
  have gg : ∀ a, Γ.ok a ∧ Γ.nd a → gd Γ (L2.start N vs) (args ++ List.replicate (N.length - args.length) Sl.un) a := fun a q => ⟨q.1, no a, q.2⟩
  refine ⟨?_, fun i x q => ?_, fun i j x y _ hi _ oi _ => ?_, fun a q => ho a (by rw [← h0]; exact q), by rw [h0]; exact Ext.refl, hd, fun p _ => no _, fun p hp => by rw [hk] at hp; cases hp⟩
  · unfold L2.start
    rw [List.length_append, List.length_append, List.length_map, List.length_replicate, List.length_replicate, ln]
  · by_cases hi : i < args.length
    · rw [List.getElem?_append_left hi] at q
      obtain ⟨v, e, a⟩ := ha.get i x q
      have es : (L2.start N vs)[i]? = some (some v) := by
        unfold L2.start
        rw [List.getElem?_append_left (by rw [List.length_map, ln]; exact hi), List.getElem?_map, e]
        rfl
      rw [es]
      cases x with
      | d y => exact ⟨v, rfl, (show Df K H _ v y from a).mono (fun a u z k => ⟨gg a z, k⟩) fun _ _ z => z⟩
      | drw =>
        obtain ⟨p, e1, e2⟩ := a
        exact ⟨p, e1, by rw [e2]⟩
      | scr ns =>
        obtain ⟨b, e1, e2, e3⟩ := a
        exact ⟨b, by rw [e1], e2, e3⟩
      | un => trivial
      | l _ => exact a.elim
      | lk _ => exact a.elim
      | dc t0 _ => exact a.elim
    · rw [List.getElem?_append_right (by omega), List.getElem?_replicate] at q
      split at q
      · cases q; trivial
      · cases q
  · rw [ha.own hi] at oi
    cases oi
end
/-- THE RULE FOR A DEF: its body by its meaning -/
theorem Fun.okD {P : Program} {w : World} {K : PySem.W.Frag} {mg : Str → Option Value} {base : Heap} {x qual : Str} {st : Stmt} {f : Addr} {fd : FuncData} {N ps : List Str} {k : Nat} {C : Exs} {fr : Bool} {m : MS} (F : Fun K x qual st f fd) (S : FnScope N ps (defScope st))
    (hbody : ∀ (cdv : Value) (A : Around) (outer : List Env) (s : Shared) (H : Hp) (E : XK), Room k (A.deeper (envOfC qual (defScope st) s.heap.objs.size f cdv)) →
      SSs (cxOf (L2.CX P w) P w K mg base N qual (defScope st) f cdv A outer s H E) C (fun cls d _ H' => E cls d H') fr (defBody st) m) :
    FnOk P w K mg base (L2.CX P w) (k + 1) f fd ps (spD K C fr ps.length (runB N.length ps.length fr m)) := by
  refine F.okX S (fun vs H Q E h => ?_) (fun cdv A outer s H vs Q E hr h => ?_)
  · obtain ⟨Γ, args, ds, _, _, _, _, ha, hl, _⟩ := h
    exact ha.length.trans hl
  · obtain ⟨Γ, args, ds, h0, hk, ho, hd, ha, hl, h⟩ := h
    refine ⟨_, hbody cdv A outer s H E hr, Γ, _, ds, rel_start h0 hk ho hd ha, ?_⟩
    unfold runB at h
    rw [← hl] at h
    rcases q : m (args ++ List.replicate (N.length - args.length) Sl.un) ds with _ | ⟨fl, ds'⟩
    · rw [q] at h; exact h
    · rw [q] at h
      cases fl with
      | nx e =>
        dsimp only at h
        cases fr with
        | true => exact h.elim
        | false =>
          rw [if_neg Bool.false_ne_true] at h
          exact fun σ' H' R' => h .non H' ⟨R'.ext, R'.draw, .non⟩
      | bk e => exact h.elim
      | ct e => exact h.elim
      | rt d => exact h
      | ex x e => exact fun cls dd σ' H' R' hx => h cls dd H' (by have := R'.ext; rw [h0] at this; exact this) R'.draw hx
/-- good as an argument; b: one's own lists are too -/
def gb (Γ : Gm) (σ : St) (env : Ev) (b : Bool) (a : Addr) : Prop := (b = true ∧ Γ.nd a) ∨ gd Γ σ env a
theorem gb.nd {Γ : Gm} {σ : St} {env : Ev} {b : Bool} {a : Addr} (h : gb Γ σ env b a) : Γ.nd a := h.elim (fun z => z.2) fun z => z.2.2
def rdAx (K : PySem.W.Frag) (C : Exs) (W : WX) (b : Bool) (m : ME (List Sl)) : TA := fun σ H Q => ∃ Γ env ds, Rel K Γ σ H env ds ∧
  Aft K C W Γ σ H (m env ds) fun xs _ H' => ∀ vs, ArgsR K Γ (gb Γ σ env b) H' vs xs → Q vs H'
/-- arguments; b: one's own lists may be among them -/
abbrev SAx (X : Cx) (C : Exs) (W : WX) (b : Bool) (es : List Expr) (m : ME (List Sl)) : Prop := PA X es (rdAx X.K C W b m)
def axNil : ME (List Sl) := ME.pure []
def axD (a : ME PyData) (r : ME (List Sl)) : ME (List Sl) := a.bind fun x => r.bind fun xs => ME.pure (.d x :: xs)
def axV (i : Nat) (r : ME (List Sl)) : ME (List Sl) := fun env ds => match env[i]? with
  | some .drw => (r env ds).bind fun xs ds' => some (.ok (.drw :: xs), ds')
  | some (.scr ns) => (r env ds).bind fun xs ds' => some (.ok (.scr ns :: xs), ds')
  | _ => none
/-! no list within -/
mutual
def noL : PyData → Bool
  | .list _ => false
  | .dict _ => false
  | .tuple xs => noLs xs
  | _ => true
def noLs : List PyData → Bool
  | [] => true
  | x :: r => noL x && noLs r
end
mutual
theorem Df.noL {K : PySem.W.Frag} {H : Hp} {g g' : Addr → Prop} : ∀ {d : PyData} {v : V}, Df K H g v d → DL.noL d = true → Df K H g' v d
  | _, _, .non, _ => .non
  | _, _, .bl b, _ => .bl b
  | _, _, .int i, _ => .int i
  | _, _, .str x, _ => .str x
  | _, _, .lst _ _ _ _, h => by cases h
  | _, _, .tup h1 h2 h3, h => .tup h1 h2 (DfAll.noL h3 h)
theorem DfAll.noL {K : PySem.W.Frag} {H : Hp} {g g' : Addr → Prop} : ∀ {ds : List PyData} {vs : List V}, DfAll K H g vs ds → noLs ds = true → DfAll K H g' vs ds
  | _, _, .nil, _ => .nil
  | _, _, .cons h1 h2, h => by
    unfold noLs at h
    rw [Bool.and_eq_true] at h
    exact .cons (Df.noL h1 h.1) (DfAll.noL h2 h.2)
end
def mCall (f : FS) (a : ME (List Sl)) : ME PyData := a.bind fun args _ ds => f args ds
def mCallP (f : FS) (a : ME (List Sl)) : ME PyData := a.bind fun args _ ds => (f args ds).bind fun d ds' => if noL d then some (.ok d, ds') else none
def mCallF (f : FS) (a : ME (List Sl)) : ME (List PyData) := a.bind fun args _ ds => (f args ds).bind fun d ds' => match d with
  | .list xs => some (.ok xs, ds')
  | _ => none
section
variable {X : Cx} {C : Exs} {W : WX} {e : Expr} {es : List Expr} {me : ME PyData} {ma : ME (List Sl)} {M : Md} {b : Bool}
theorem sax_nil : SAx X C W b [] axNil := PA.imp pa_nil fun σ H Q ⟨Γ, env, ds, R, h⟩ => Aft.here h R.draw _ .nil
theorem sax_d (he : SE X C W e me) (hr : SAx X C W b es ma) (hs : starEach (e :: es) X.env = (false, eval e X.env) :: starEach es X.env := by rfl) : SAx X C W b (e :: es) (axD me ma) :=
  PA.imp (pa_cons he hr hs) fun σ H Q ⟨Γ, env, ds, R, h⟩ => ⟨Γ, env, ds, R, h.bind.imp fun d ds1 H1 e1 d1 q x hx => ⟨Γ, env, ds1, R.go e1 d1, q.bind.imp fun xs ds2 H2 e2 d2 q vs hv =>
    Aft.here q d2 _ (.cons ((Df.ext e2 d1 hx).mono (fun a u z k => ⟨.inr z, k⟩) fun _ _ z => z) hv)⟩⟩
/-- one's own list in passing, as an argument -/
theorem sax_p (he : SP X C W e me) (hr : SAx X C W true es ma) (hs : starEach (e :: es) X.env = (false, eval e X.env) :: starEach es X.env := by rfl) : SAx X C W true (e :: es) (axD me ma) :=
  PA.imp (pa_cons he hr hs) fun σ H Q ⟨Γ, env, ds, R, h⟩ => ⟨Γ, env, ds, R, h.bind.imp fun d ds1 H1 e1 d1 q x hx => ⟨Γ, env, ds1, R.go e1 d1, q.bind.imp fun xs ds2 H2 e2 d2 q vs hv => by
    refine Aft.here q d2 _ (.cons ?_ hv)
    rcases persP.ext e2 d1 hx with w | ⟨a, us, ds', w1, w2, w3, w4, w5, w6⟩
    · exact (show Df X.K H2 _ x d from w).mono (fun a u z k => ⟨.inr z, k⟩) fun _ _ z => z
    · subst w1 w2
      exact .lst (.inl ⟨rfl, w4⟩) w3 w5 (w6.mono (fun a u z k => ⟨.inr z, k⟩) fun _ _ z => z)⟩⟩
theorem sax_v (i : Nat) {x : Str} {p : Pos} (hr : SAx X C W b es ma) (hN : X.N[i]? = some x := by rfl) (hv : Vis X.env.scope x := by first | exact Or.inl rfl | exact Or.inr (Or.inl rfl) | exact Or.inr (Or.inr rfl)) (hd : (x == ("__debug__" : Str)) = false := by decide) (hcd : (x == ("__classdict__" : Str)) = false := by decide)
    (hs : starEach (.Name x p :: es) X.env = (false, eval (.Name x p) X.env) :: starEach es X.env := by rfl) : SAx X C W b (.Name x p :: es) (axV i ma) :=
  PA.imp (pa_cons (pe_var hN hv hd hcd) hr hs) fun σ H Q ⟨Γ, env, ds, R, h⟩ => by
    unfold axV at h
    rcases q : env[i]? with _ | y
    · rw [q] at h; exact h.elim
    · rw [q] at h
      have s := R.slot i _ q
      cases y with
      | drw =>
        obtain ⟨p, e1, e2⟩ := s
        exact ⟨_, e2, Γ, env, ds, R, (Aft.bind h).imp fun xs ds2 H2 x2 d2 q vs hv => Aft.here q d2 _ (.cons ⟨p, e1, rfl⟩ hv)⟩
      | scr ns =>
        obtain ⟨a, e1, e2, e3⟩ := s
        exact ⟨_, e1, Γ, env, ds, R, (Aft.bind h).imp fun xs ds2 H2 x2 d2 q vs hv => Aft.here q d2 _ (.cons ⟨a, rfl, scr_ext x2 R.draw e2, e3⟩ hv)⟩
      | _ => exact h.elim
theorem ArgsR.to {K : PySem.W.Frag} {Γ Γ' : Gm} {g g' : Addr → Prop} {H : Hp} {vs : List V} {xs : List Sl} (h : ArgsR K Γ g H vs xs) (hd : Γ'.dr = Γ.dr) (hg : ∀ a u, H a = some (.lst u) → g a → g' a) : ArgsR K Γ' g' H vs xs := by
  induction h with
  | nil => exact .nil
  | @cons v x vs xs a _ ih =>
    refine .cons ?_ ih
    cases x with
    | d y => exact (show Df K H g v y from a).mono (fun b u z k => ⟨hg b u k z, k⟩) fun _ _ z => z
    | drw =>
      obtain ⟨p, e1, e2⟩ := a
      exact ⟨p, by rw [hd]; exact e1, e2⟩
    | scr ns => exact a
    | un => exact a
    | l _ => exact a
    | lk _ => exact a
    | dc t0 _ => exact a
theorem DrR.to {K : PySem.W.Frag} {Γ Γ' : Gm} {H : Hp} {ds : DS} (h : DrR K Γ H ds) (hd : Γ'.dr = Γ.dr) (ho : ∀ p, Γ.dr = some p → Γ'.ok p.2) : DrR K Γ' H ds := by
  unfold DrR at h ⊢
  rw [hd]
  cases q : Γ.dr with
  | none =>
    rw [q] at h
    cases ds with
    | none => trivial
    | some s => exact h
  | some p =>
    rw [q] at h
    cases ds with
    | none => exact h
    | some s => exact ⟨h.1, h.2.1, h.2.2.1, h.2.2.2.1, ho p q⟩
theorem DrR.okp {K : PySem.W.Frag} {Γ : Gm} {H : Hp} {ds : DS} (h : DrR K Γ H ds) (p : Addr × Addr) (e : Γ.dr = some p) : Γ.ok p.2 ∧ p.2 ≠ p.1 := by
  unfold DrR at h
  rw [e] at h
  cases ds with
  | none => exact h.elim
  | some s => exact ⟨h.2.2.2.2, h.2.2.2.1⟩
/-- the callee's ground -/
def Gm.call (Γ : Gm) (H : Hp) (ok : Addr → Prop) : Gm := { Γ with H0 := H, ok := ok, lk := [] }
theorem gd_cell {K : PySem.W.Frag} {Γ : Gm} {σ : St} {H : Hp} {env : Ev} {ds : DS} (R : Rel K Γ σ H env ds) (p : Addr × Addr) (e : Γ.dr = some p) : gd Γ σ env p.2 :=
  ⟨(R.draw.okp p e).1, R.drc p e, fun q e2 z => by rw [e] at e2; cases e2; exact (R.draw.okp p e).2 z⟩
theorem call_rd {K : PySem.W.Frag} {fr b : Bool} {np : Nat} {f : FS} {Γ : Gm} {σ : St} {H1 : Hp} {env : Ev} {ds1 : DS} {vs : List V} {args : List Sl} {Q : VK} {E : XK} (R1 : Rel K Γ σ H1 env ds1) (ha : ArgsR K Γ (gb Γ σ env b) H1 vs args) (hn : args.length = np)
    (h : match f args ds1 with
      | some (.ok d, ds') => ∀ v H', Ext Γ H1 H' → DrR K Γ H' ds' → RetR fr K (Γ.call H1 (gb Γ σ env b)) H' ds' v d → Q v H'
      | some (.exc x, ds') => ∀ cls dd H', Ext Γ H1 H' → DrR K Γ H' ds' → ExR C x cls dd H' → E cls dd H'
      | none => False) : spD K C fr np f vs H1 Q E := by
  refine ⟨Γ.call H1 (gb Γ σ env b), args, ds1, rfl, rfl, fun a q => .inr (R1.new_gd q), R1.draw.to rfl fun p e => .inr (gd_cell R1 p e), ha.to rfl fun a u k z => ⟨z, z.nd⟩, hn, ?_⟩
  rcases q : f args ds1 with _ | ⟨d | x, ds'⟩
  · rw [q] at h; exact h
  · rw [q] at h
    exact fun v H' r => h v H' r.1 (r.2.1.to rfl fun p e => (R1.draw.okp p e).1) r
  · rw [q] at h
    exact fun cls dd H' e d hx => h cls dd H' e (d.to rfl fun p e => (R1.draw.okp p e).1) hx
/-- so many arguments -/
def chk (np : Nat) (f : FS) : FS := fun args ds => if args.length = np then f args ds else none
theorem chk_rd {K : PySem.W.Frag} {fr : Bool} {np : Nat} {f : FS} {vs : List V} {H : Hp} {Q : VK} {E : XK} {Γ : Gm} {σ : St} {env : Ev} {ds : DS} {args : List Sl} {b : Bool} {α : Type} {g : PyData → DS → Rz α} {P : α → DS → Hp → Prop} (h : Aft K C W Γ σ H ((chk np f args ds).bind g) P) : args.length = np ∧ Aft K C W Γ σ H ((f args ds).bind g) P := by
  unfold chk at h
  by_cases q : args.length = np
  · rw [if_pos q] at h; exact ⟨q, h⟩
  · rw [if_neg q] at h; exact h.elim
variable {k np : Nat} {fa : Addr} {fd : FuncData} {ps : List Str} {x : Str} {p pos : Pos} {f : FS}
theorem se_call (F : FnOk X.prog X.w X.K X.mg X.base (L2.CX X.prog X.w) k fa fd ps (spD X.K C false np f)) (hr : Room k X.A) (hm : X.mg x = some (.ref fa)) (hk : PySem.W.keepIn X.K (.ref fa) = true) (hb : Binds X.K fd ps []) (tk : Takes X W) (ha : SAx X C W false (e :: es) ma) (hg : Gl X x := by rfl)
    (hdb : (x == ("__debug__" : Str)) = false := by decide) (he : starEach (e :: es) X.env = (false, eval e X.env) :: starEach es X.env := by rfl) (hpl : (backTo pos (starEach es X.env)).any (·.1) = false := by rfl) : SE X C W (.Call (.Name x p) (e :: es) [] pos) (mCall (chk np f) ma) :=
  PE.imp (pe_callS F hr hg hm hk hb (fun σ => passAt tk σ) ha hdb he hpl) fun σ H Q ⟨Γ, env, ds, R, h⟩ => ⟨Γ, env, ds, R, h.bind.imp fun args ds1 H1 e1 d1 q vs hv => by
    have R1 := R.go e1 d1
    have q : Aft X.K C W Γ σ H1 (chk np f args ds1) _ := q
    unfold chk at q
    by_cases hn : args.length = np
    · rw [if_pos hn] at q
      refine call_rd R1 hv hn ?_
      revert q
      unfold Aft
      rcases f args ds1 with _ | ⟨d | x, ds'⟩
      · exact id
      · intro q v H' e2 d2 r
        refine q H' e2 d2 v ((show Df X.K H' _ v d from r.2.2).mono (fun a u z k => ⟨z.1.elim (fun w => by cases w.1) id, k⟩) fun _ _ z => z)
      · exact fun q cls dd H' e2 d2 hx => q cls dd H' e2 d2 hx
    · rw [if_neg hn] at q
      exact q.elim⟩
theorem se_callP (F : FnOk X.prog X.w X.K X.mg X.base (L2.CX X.prog X.w) k fa fd ps (spD X.K C false np f)) (hr : Room k X.A) (hm : X.mg x = some (.ref fa)) (hk : PySem.W.keepIn X.K (.ref fa) = true) (hb : Binds X.K fd ps []) (tk : Takes X W) (ha : SAx X C W true (e :: es) ma) (hg : Gl X x := by rfl)
    (hdb : (x == ("__debug__" : Str)) = false := by decide) (he : starEach (e :: es) X.env = (false, eval e X.env) :: starEach es X.env := by rfl) (hpl : (backTo pos (starEach es X.env)).any (·.1) = false := by rfl) : SE X C W (.Call (.Name x p) (e :: es) [] pos) (mCallP (chk np f) ma) :=
  PE.imp (pe_callS F hr hg hm hk hb (fun σ => passAt tk σ) ha hdb he hpl) fun σ H Q ⟨Γ, env, ds, R, h⟩ => ⟨Γ, env, ds, R, h.bind.imp fun args ds1 H1 e1 d1 q vs hv => by
    have R1 := R.go e1 d1
    have q : Aft X.K C W Γ σ H1 ((chk np f args ds1).bind _) _ := q
    unfold chk at q
    by_cases hn : args.length = np
    · rw [if_pos hn] at q
      refine call_rd R1 hv hn ?_
      revert q
      unfold Aft Rz.bind
      rcases f args ds1 with _ | ⟨d | x, ds'⟩
      · exact id
      · dsimp only
        by_cases hl : noL d = true
        · rw [if_pos hl]
          intro q v H' e2 d2 r
          exact q H' e2 d2 v (Df.noL (show Df X.K H' _ v d from r.2.2) hl)
        · rw [if_neg hl]
          exact fun q => q.elim
      · exact fun q cls dd H' e2 d2 hx => q cls dd H' e2 d2 hx
    · rw [if_neg hn] at q
      exact q.elim⟩
theorem sf_call (F : FnOk X.prog X.w X.K X.mg X.base (L2.CX X.prog X.w) k fa fd ps (spD X.K C true np f)) (hr : Room k X.A) (hm : X.mg x = some (.ref fa)) (hk : PySem.W.keepIn X.K (.ref fa) = true) (hb : Binds X.K fd ps []) (tk : Takes X W) (ha : SAx X C W false (e :: es) ma) (hg : Gl X x := by rfl)
    (hdb : (x == ("__debug__" : Str)) = false := by decide) (he : starEach (e :: es) X.env = (false, eval e X.env) :: starEach es X.env := by rfl) (hpl : (backTo pos (starEach es X.env)).any (·.1) = false := by rfl) : SF X C W (.Call (.Name x p) (e :: es) [] pos) (mCallF (chk np f) ma) :=
  PE.imp (pe_callS F hr hg hm hk hb (fun σ => passAt tk σ) ha hdb he hpl) fun σ H Q ⟨Γ, env, ds, R, h⟩ => ⟨Γ, env, ds, R, h.bind.imp fun args ds1 H1 e1 d1 q vs hv => by
    have R1 := R.go e1 d1
    have q : Aft X.K C W Γ σ H1 ((chk np f args ds1).bind _) _ := q
    unfold chk at q
    by_cases hn : args.length = np
    · rw [if_pos hn] at q
      refine call_rd R1 hv hn ?_
      revert q
      unfold Aft Rz.bind
      rcases f args ds1 with _ | ⟨d | x, ds'⟩
      · exact id
      · dsimp only
        intro q v H' e2 d2 r
        obtain ⟨p, us, xs, rfl, rfl, r1, r2, r3, r4, r5⟩ := r.2.2
        exact q H' e2 d2 p us (R.none_back e1 d1 r1) r3 r4 (r5.mono (fun a u z k => ⟨⟨z.1.1.elim (fun w => by cases w.1) id, z.2⟩, k⟩) fun _ _ z => z)
      · exact fun q cls dd H' e2 d2 hx => q cls dd H' e2 d2 hx
    · rw [if_neg hn] at q
      exact q.elim⟩

/-! ### the draw is made -/
def mkDraw (xs : List PyData) : Option DSt := match xs with
  | [.list cs, .int i, .int j, .int k] => (intsOf cs).map fun ns => ⟨ns, i, j, k⟩
  | _ => none
def mDraw (i : Nat) (a : ME (List PyData)) (rest : MS) : MS := fun env ds => match a env ds with
  | some (.ok xs, none) => match mkDraw xs with
    | some s => match put i .drw env with
      | some env' => match rest env' (some s) with
        | some (.rt d, _) => some (.rt d, none)
        | _ => none
      | none => none
    | none => none
  | _ => none
variable {rest : List Stmt} {mr : MS} {mf : ME (List PyData)}
theorem Rel.set_dr {K : PySem.W.Frag} {Γ : Gm} {σ : St} {H H1 : Hp} {env env' : Ev} (R : Rel K Γ σ H env none) (e : Ext Γ H H1) {i : Nat} {a c : Addr} {s : DSt} (hf : H a = none) (h1 : H1 a = some (.lst [.ref c, .int s.place, .int s.cur, .int s.seed])) (h2 : H1 c = some (.lst (s.cells.map V.int))) (h3 : s.cells.length ≤ sizeLine) (hc : gdx Γ σ env a c)
    (hp : put i .drw env = some env') : Rel K { Γ with dr := some (a, c) } (σ.set i (some (.ref a))) H1 env' (some s) := by
  have hdr : Γ.dr = none := by
    have := R.draw
    unfold DrR at this
    cases q : Γ.dr with
    | none => rfl
    | some p => rw [q] at this; exact this.elim
  have d1 : DrR K Γ H1 none := by unfold DrR; rw [hdr]; trivial
  have R1 := R.go e d1
  obtain ⟨k1, k2, rfl⟩ := put_some hp
  have k3 : i < σ.length := by rw [R.len]; exact k2
  have nd : ∀ b, b ≠ a → ({ Γ with dr := some (a, c) } : Gm).nd b := fun b n p q => by cases q; exact n
  have gx : ∀ b, gd Γ σ env b → b ≠ a → gd { Γ with dr := some (a, c) } (σ.set i (some (.ref a))) (env.set i .drw) b := fun b q n => ⟨q.1, fun w => q.2.1 (owned_set_d rfl w).1, nd b n⟩
  have m : ∀ {u : V} {x : PyData}, Df K H (gd Γ σ env) u x → Df K H1 (gd { Γ with dr := some (a, c) } (σ.set i (some (.ref a))) (env.set i .drw)) u x := fun q =>
    (q.avoid hf).mono (fun b u z k => ⟨gx b z.1 z.2, e b _ z.1.2.2 k⟩) fun _ _ z => tup_ext e R.draw z
  have ms : ∀ {u : List V} {x : List PyData}, DfAll K H (gd Γ σ env) u x → DfAll K H1 (gd { Γ with dr := some (a, c) } (σ.set i (some (.ref a))) (env.set i .drw)) u x := fun q =>
    (q.avoid hf).mono (fun b u z k => ⟨gx b z.1 z.2, e b _ z.1.2.2 k⟩) fun _ _ z => tup_ext e R.draw z
  refine ⟨by rw [List.length_set, List.length_set]; exact R.len, fun j y hy => ?_, fun j k y z hjk hj hk oj ok => ?_, R.okf, fun b o _ q => R1.ext b o (fun p z => by rw [hdr] at z; cases z) q, ?_, fun p q w => ?_, fun p hp => ?_⟩
  · by_cases z : i = j
    · subst z
      rw [List.getElem?_set_self k2] at hy
      cases hy
      rw [List.getElem?_set_self k3]
      exact ⟨(a, c), rfl, rfl⟩
    · rw [List.getElem?_set_ne z] at hy ⊢
      have q := R.slot j y hy
      cases y with
      | un => trivial
      | d x =>
        obtain ⟨u, q1, q2⟩ := q
        exact ⟨u, q1, m q2⟩
      | l x =>
        obtain ⟨b, u, q1, q2, q3, q4, q5, q6⟩ := q
        exact ⟨b, u, q1, e b _ q6 q2, ms q3, q4, q5, nd b (ne_of_none q2 hf)⟩
      | lk x =>
        obtain ⟨b, u, q1, q2, q3, q4, q5, q6⟩ := q
        exact ⟨b, u, q1, e b _ q6 q2, ms q3, q4, q5, nd b (ne_of_none q2 hf)⟩
      | dc t0 x =>
        obtain ⟨b, u, q1, q2, q3, q4, q5, q6⟩ := q
        exact ⟨b, u, q1, e b _ q6 q2, ms q3, q4, q5, nd b (ne_of_none q2 hf)⟩
      | drw =>
        obtain ⟨p, q1, _⟩ := q
        rw [hdr] at q1
        cases q1
      | scr ns =>
        obtain ⟨b, q1, q2, q3⟩ := q
        exact ⟨b, q1, scr_ext e R.draw q2, q3⟩
  · have n1 : i ≠ j := fun z => by
      subst z
      rw [List.getElem?_set_self k2] at hj
      cases hj
      cases oj
    have n2 : i ≠ k := fun z => by
      subst z
      rw [List.getElem?_set_self k2] at hk
      cases hk
      cases ok
    rw [List.getElem?_set_ne n1] at hj ⊢
    rw [List.getElem?_set_ne n2] at hk ⊢
    exact R.sep j k y z hjk hj hk oj ok
  · exact ⟨h1, h2, h3, hc.2, hc.1.1⟩
  · cases q
    exact hc.1.2.1 (owned_set_d rfl w).1
  · obtain ⟨xs, q1, q2⟩ := R.lkd p hp
    have n1 : i ≠ p.1 := fun z => by
      subst z
      exact k1 xs q1
    exact ⟨xs, by rw [List.getElem?_set_ne n1]; exact q1, by rw [List.getElem?_set_ne n1]; exact q2⟩
theorem sss_draw (i : Nat) {y : Str} {pos' : Pos} (hN : X.N.Nodup) (he : SF X C W e mf) (hrest : SSs X C W false rest mr) (hi : X.N[i]? = some y := by rfl) (hx : Loc X.env.scope y := by exact .inl rfl) (hs : swapsWith e (some (.Name y pos')) pos.line X.env = pure false := by rfl)
    (hf : X.fn y = true ∨ X.env.scope.names.lookup y = some .local := by first | exact .inl rfl | exact .inr rfl) : SSs X C W false (.Assign [.Name y pos'] e pos :: rest) (mDraw i mf mr) :=
  PSs.imp (pss_cons (ps_set hN hi hx he hs hf) hrest) fun D σ H ⟨Γ, env, ds, R, h⟩ => by
    refine ⟨Γ, env, ds, R, ?_⟩
    revert h
    unfold mDraw Aft
    rcases mf env ds with _ | ⟨xs | x, ds1⟩
    · exact id
    · cases ds1 with
      | some s => exact fun h => h.elim
      | none =>
        dsimp only
        intro h H1 e1 d1 a us h1 h2 h3 h4
        cases hs : mkDraw xs with
        | none => rw [hs] at h; exact h.elim
        | some s =>
          rw [hs] at h
          dsimp only at h
          cases hp : put i .drw env with
          | none => rw [hp] at h; exact h.elim
          | some env' =>
            rw [hp] at h
            dsimp only at h
            have hdr : Γ.dr = none := by
              unfold DrR at d1
              cases q : Γ.dr with
              | none => rfl
              | some p => rw [q] at d1; exact d1.elim
            have ds0 : ds = none := by
              have := R.draw
              unfold DrR at this
              rw [hdr] at this
              cases ds with
              | none => rfl
              | some s => exact this.elim
            subst ds0
            unfold mkDraw at hs
            split at hs
            · rename_i cs i1 i2 i3
              obtain ⟨ns, q1, q2⟩ := Option.map_eq_some_iff.mp hs
              subst q2
              obtain rfl := intsOf_eq q1
              cases h4 with
              | cons a1 h4 =>
                cases h4 with
                | cons a2 h4 =>
                  cases h4 with
                  | cons a3 h4 =>
                    cases h4 with
                    | cons a4 h4 =>
                      cases h4
                      cases a2
                      cases a3
                      cases a4
                      cases a1 with
                      | @lst c cv _ b1 b2 b3 b4 =>
                        rw [b4.ints_inv] at b2 b3
                        rw [List.length_map] at b3
                        have RD := R.set_dr (s := ⟨ns, i1, i2, i3⟩) e1 h1 h2 b2 b3 b1 hp
                        refine ⟨_, env', _, RD, ?_⟩
                        show Aft2 X.K C W false _ D (mr env' (some ⟨ns, i1, i2, i3⟩))
                        rcases z : mr env' (some ⟨ns, i1, i2, i3⟩) with _ | ⟨fl, ds2⟩
                        · rw [z] at h; exact h
                        · rw [z] at h
                          cases fl with
                          | rt d =>
                            intro v H' r
                            obtain ⟨r1, r2, r3⟩ := r
                            refine h v H' ⟨fun b o n q => ?_, by unfold DrR; rw [hdr]; trivial, (show Df X.K H' _ v d from r3).mono (fun b u z k => ⟨⟨z.1, fun p q => by rw [hdr] at q; cases q⟩, k⟩) fun _ _ z => z⟩
                            refine r1 b o (fun p q z => ?_) q
                            cases q
                            have := R.ext b o n q
                            rw [z, h1] at this
                            cases this
                          | _ => exact h.elim
            · cases hs
    · exact fun h => h.elim
end

/-! ### try: .. except X: .. -/
/-- a suite that raises nothing -/
def noEx (r : Option (Fl × DS)) : Option (Fl × DS) := match r with
  | some (.ex _ _, _) => none
  | r => r
def mTry (k : Exn → Bool) (mb ms : MS) : MS := fun env ds => match mb env ds with
  | some (.ex x env', ds') => if k x then noEx (ms env' ds') else some (.ex x env', ds')
  | r => r
section
variable {X : Cx} {C : Exs} {W : WX} {fr : Bool} {x : Str} {Cc : Addr} {body suite : List Stmt} {b₀ : Stmt} {np pos pos' : Pos} {mb ms : MS} {k : Exn → Bool}
theorem ss_try (hs : X.stack = X.env :: X.outer) (hf : X.env.frame = some X.env.locals) (hm : X.mg x = some (.ref Cc)) (tk : Takes X W) (hk : ∀ y cls d H, ExR C y cls d H → PySem.W.exmOne X.K cls (.ref Cc) = some (k y))
    (hb : ∀ (W' : WX) (pn : List (Addr × Obj)) (xe : Value → Shared → Prop), Takes (X.tr pn xe) W' → PassesOwn (model X.prog X.w) X.A X.env xe → SSs (X.tr pn xe) C W' fr body mb)
    (hsu : ∀ (a : Addr) (pn : List (Addr × Obj)), SSs (X.suite a pn) C W0 fr (b₀ :: suite) ms) (hg : Gl X x := by rfl) (hdb : (x == ("__debug__" : Str)) = false := by decide) :
    SS X C W fr (.Try body [.ExceptHandler (some (.Name x np)) none (b₀ :: suite) pos'] [] [] pos) (mTry k mb ms) :=
  PS.imp (ps_try_only (tb := fun W' => rdS X.K C W' fr mb) (ts := fun _ _ _ => rdS X.K C W0 fr ms) hs hf ⟨hg, hdb, .inl hm⟩ tk hb (fun a oe cls d pn _ _ => hsu a _)) fun D σ H ⟨Γ, env, ds, R, h⟩ => by
    refine ⟨Γ, env, ds, R, ?_⟩
    unfold mTry at h
    rcases q : mb env ds with _ | ⟨fl, ds'⟩
    · rw [q] at h; exact h
    · rw [q] at h
      cases fl with
      | nx e => exact h
      | bk e => exact h
      | ct e => exact h
      | rt d => exact h
      | ex y e =>
        intro cls dd σ' H' R' hx
        refine ⟨k y, hk y cls dd H' hx, fun hy a ha => ?_, fun hy => ?_⟩
        · dsimp only at h
          rw [if_pos hy] at h
          refine ⟨Γ, e, ds', R', ?_⟩
          revert h
          rcases ms e ds' with _ | ⟨fl, ds2⟩
          · exact id
          · cases fl with
            | ex z e2 => exact fun h => h.elim
            | _ => exact id
        · dsimp only at h
          rw [if_neg (by rw [hy]; exact Bool.false_ne_true)] at h
          exact h cls dd σ' H' R' hx
end
end DL

/-! DL11: sorted, sorted(set(..)), repr. -/
namespace DL
open PySem PySem.Spec L2
open PyProof.Rows hiding St

/-! ### an order of data that runs -/
mutual
def ltD : PyData → PyData → Bool
  | .bool a, .bool b => !a && b
  | .int a, .int b => decide (a < b)
  | .str a, .str b => decide (a.cps.toList < b.cps.toList)
  | .tuple a, .tuple b => ltDs a b
  | .list a, .list b => ltDs a b
  | _, _ => false
def ltDs : List PyData → List PyData → Bool
  | [], b => !b.isEmpty
  | _ :: _, [] => false
  | x :: xs, y :: ys => if PyData.eqv x y then ltDs xs ys else ltD x y
end
def insB {α : Type} (lt : α → α → Bool) (x : α) : List α → List α
  | [] => [x]
  | y :: r => if lt y x then y :: insB lt x r else x :: y :: r
def sortB {α : Type} (lt : α → α → Bool) : List α → List α
  | [] => []
  | x :: r => insB lt x (sortB lt r)
def sortD (xs : List PyData) : List PyData := sortB ltD xs

mutual
theorem ltD_eq : ∀ x y : PyData, PySem.W.alike x y = true → ltD x y = PySem.W.dataLt x y
  | .none, y, h => by
    cases y with
    | none => unfold PySem.W.dataLt; exact (lex_irrefl (O := itemOrd) _).symm
    | _ => simp [PySem.W.alike] at h
  | .bool a, y, h => by
    cases y with
    | bool b => rw [PySem.W.dataLt_bool]; cases a <;> cases b <;> rfl
    | _ => simp [PySem.W.alike] at h
  | .int a, y, h => by
    cases y with
    | int b => rw [PySem.W.dataLt_int]; rfl
    | _ => simp [PySem.W.alike] at h
  | .str a, y, h => by
    cases y with
    | str b => rw [PySem.W.dataLt_str]; rfl
    | _ => simp [PySem.W.alike] at h
  | .list a, y, h => by
    cases y with
    | list b => rw [PySem.W.dataLt_list]; exact ltDs_eq a b (by simpa [PySem.W.alike] using h)
    | _ => simp [PySem.W.alike] at h
  | .tuple a, y, h => by
    cases y with
    | tuple b => rw [PySem.W.dataLt_tuple]; exact ltDs_eq a b (by simpa [PySem.W.alike] using h)
    | _ => simp [PySem.W.alike] at h
  | .dict a, y, h => by simp [PySem.W.alike] at h
theorem ltDs_eq : ∀ xs ys : List PyData, PySem.W.alikeAll xs ys = true → ltDs xs ys = PyProof.Rows.lexLt itemOrd (PySem.W.keyToksAll xs) (PySem.W.keyToksAll ys)
  | [], [], _ => (lex_irrefl (O := itemOrd) _).symm
  | [], y :: ys, _ => by
    rw [PySem.W.toks_all_cons, PySem.W.keyToksAll, lex_diff (O := itemOrd) (by intro z; cases z)]
    rfl
  | x :: xs, [], _ => by
    rw [PySem.W.toks_all_cons, PySem.W.keyToksAll, lex_diff (O := itemOrd) (by intro z; cases z)]
    rfl
  | x :: xs, y :: ys, h => by
    obtain ⟨h1, h2⟩ := PySem.W.alike_all_cons h
    rw [PySem.W.dataLt_cons h1, ← ltDs_eq xs ys h2, ← ltD_eq x y h1]
    rfl
end
section
variable {α : Type} {lt lt' : α → α → Bool} {le : α → α → Bool}
theorem insB_perm (x : α) : ∀ l : List α, (insB lt x l).Perm (x :: l)
  | [] => .refl _
  | y :: r => by
    unfold insB
    split
    · exact ((insB_perm x r).cons y).trans (.swap x y r)
    · exact .refl _
theorem sortB_perm : ∀ l : List α, (sortB lt l).Perm l
  | [] => .refl _
  | x :: r => (insB_perm x _).trans ((sortB_perm r).cons x)
theorem insB_congr (x : α) : ∀ l : List α, (∀ y ∈ l, lt y x = lt' y x) → insB lt x l = insB lt' x l
  | [], _ => rfl
  | y :: r, h => by
    unfold insB
    rw [h y List.mem_cons_self, insB_congr x r fun z hz => h z (List.mem_cons_of_mem _ hz)]
theorem sortB_congr : ∀ l : List α, (∀ x ∈ l, ∀ y ∈ l, lt x y = lt' x y) → sortB lt l = sortB lt' l
  | [], _ => rfl
  | x :: r, h => by
    have e : sortB lt r = sortB lt' r := sortB_congr r fun a ha b hb => h a (List.mem_cons_of_mem _ ha) b (List.mem_cons_of_mem _ hb)
    show insB lt x (sortB lt r) = insB lt' x (sortB lt' r)
    rw [e]
    exact insB_congr x _ fun y hy => h y (List.mem_cons_of_mem _ ((sortB_perm r).mem_iff.mp hy)) x List.mem_cons_self
theorem insB_pair (T : PySem.W.TotalLe le) (x : α) : ∀ l : List α, l.Pairwise (fun a b => le a b = true) → (insB (fun a b => !le b a) x l).Pairwise fun a b => le a b = true
  | [], _ => List.pairwise_singleton _ _
  | y :: r, h => by
    rw [List.pairwise_cons] at h
    unfold insB
    split
    · rename_i c
      have c : (!le x y) = true := c
      refine List.pairwise_cons.mpr ⟨fun z hz => ?_, insB_pair T x r h.2⟩
      rcases List.mem_cons.mp ((insB_perm x r).mem_iff.mp hz) with e | e
      · subst e
        rcases T.total y z with q | q
        · exact q
        · rw [q] at c; cases c
      · exact h.1 z e
    · rename_i c
      have c : le x y = true := by cases q : le x y with | true => rfl | false => exact absurd (by show (!le x y) = true; rw [q]; rfl) c
      refine List.pairwise_cons.mpr ⟨fun z hz => ?_, List.pairwise_cons.mpr h⟩
      rcases List.mem_cons.mp hz with e | e
      · subst e; exact c
      · exact T.trans _ _ _ c (h.1 z e)
theorem sortB_pair (T : PySem.W.TotalLe le) : ∀ l : List α, (sortB (fun a b => !le b a) l).Pairwise fun a b => le a b = true
  | [] => List.Pairwise.nil
  | x :: r => insB_pair T x _ (sortB_pair T r)
theorem insB_filter (T : PySem.W.TotalLe le) (c x : α) : ∀ l : List α, (insB (fun a b => !le b a) x l).filter (PySem.W.sameRank le c) = (x :: l).filter (PySem.W.sameRank le c)
  | [] => rfl
  | y :: r => by
    unfold insB
    split
    · rename_i k
      have k : (!le x y) = true := k
      rw [List.filter_cons, insB_filter T c x r, List.filter_cons, List.filter_cons, List.filter_cons]
      by_cases hx : PySem.W.sameRank le c x = true
      · by_cases hy : PySem.W.sameRank le c y = true
        · exfalso
          unfold PySem.W.sameRank at hx hy
          rw [Bool.and_eq_true] at hx hy
          have q : le x y = true := by first | exact T.trans _ _ _ hx.2 hy.1 | exact T.trans _ _ _ hx.1 hy.2
          rw [q] at k
          cases k
        · rw [if_neg hy, if_neg hy]
      · rw [if_neg hx, if_neg hx]
    · rfl
theorem sortB_filter (T : PySem.W.TotalLe le) (c : α) : ∀ l : List α, (sortB (fun a b => !le b a) l).filter (PySem.W.sameRank le c) = l.filter (PySem.W.sameRank le c)
  | [] => rfl
  | x :: r => by
    show (insB _ x _).filter _ = _
    rw [insB_filter T c x, List.filter_cons, List.filter_cons, sortB_filter T c r]
theorem sortB_merge (T : PySem.W.TotalLe le) (l : List α) : sortB (fun a b => !le b a) l = l.mergeSort le := PySem.W.sort_unique T (sortB_pair T l) fun c => sortB_filter T c l
end
theorem dataLe_total {β : Type} (k : β → PyData) : PySem.W.TotalLe (PySem.W.dataLe false k) := PySem.W.sortLe_total _ _ _
theorem sortD_merge {ds : List PyData} (h : PySem.W.AllAlike ds) : sortD ds = ds.mergeSort (PySem.W.dataLe false id) := by
  rw [← sortB_merge (dataLe_total id)]
  unfold sortD
  refine sortB_congr ds fun x hx y hy => ?_
  rw [ltD_eq x y (h x hx y hy), PySem.W.dataLe_eq]
  show _ = !!PySem.W.dataLt x y
  rw [Bool.not_not]
/-- what may be sorted -/
def isTup1 : PyData → Bool
  | .tuple (_ :: _) => true
  | _ => false
def notTup : PyData → Bool
  | .none => false
  | .tuple _ => false
  | _ => true
def sorts (ds : List PyData) : Bool := ds.all (fun d => ds.all fun e => PySem.W.alike d e) && (ds.all isTup1 || ds.all notTup || (decide (ds.length ≤ 1) && ds.all fun d => !isNone d)) && decide (PyData.depthAll ds ≤ 60)
theorem sorts_alike {ds : List PyData} (h : sorts ds = true) : PySem.W.AllAlike ds := by
  unfold sorts at h
  rw [Bool.and_eq_true, Bool.and_eq_true] at h
  intro d hd e he
  exact List.all_eq_true.mp (List.all_eq_true.mp h.1.1 d hd) e he
theorem sorts_depth {ds : List PyData} (h : sorts ds = true) : PyData.depthAll ds ≤ 60 := by
  unfold sorts at h
  rw [Bool.and_eq_true] at h
  exact of_decide_eq_true h.2
theorem depth_mem : ∀ {ds : List PyData} {d : PyData}, d ∈ ds → d.depth ≤ PyData.depthAll ds
  | x :: r, d, h => by
    have e : PyData.depthAll (x :: r) = max x.depth (PyData.depthAll r) := by first | rfl | rw [PyData.depthAll]
    rw [e]
    rcases List.mem_cons.mp h with q | q
    · subst q; exact Nat.le_max_left _ _
    · exact Nat.le_trans (depth_mem q) (Nat.le_max_right _ _)
theorem sortsAt {prog : Program} {w : World} {A : Around} {s : Shared} {vs : List Value} {ds : List PyData} (e : PySem.W.EachIs (fun v d => ∃ as, Reads s.heap v d as) vs ds) (h : sorts ds = true) (hu : A.units + 60 < cLine) : PySem.W.SortsAt prog w A s (PySem.W.dataKind s.heap ds) vs := by
  have hal := sorts_alike h
  have hd := sorts_depth h
  have room : ∀ d, d ∈ ds → A.units + d.depth < cLine := fun d q => by have := depth_mem q; omega
  have h2 := h
  unfold sorts at h2
  rw [Bool.and_eq_true, Bool.and_eq_true, Bool.or_eq_true, Bool.or_eq_true] at h2
  rcases h2.1.2 with (k | k) | k
  · exact PySem.W.SortsAt.data e hal (.inl fun d q => by
      have := List.all_eq_true.mp k d q
      unfold isTup1 at this
      split at this
      · exact ⟨_, _, rfl⟩
      · cases this) room
  · exact PySem.W.SortsAt.data e hal (.inr fun d q => by
      have := List.all_eq_true.mp k d q
      exact ⟨(fun z => by subst z; cases this), (fun xs z => by subst z; cases this)⟩) room
  · rw [Bool.and_eq_true] at k
    have k1 := of_decide_eq_true k.1
    refine ⟨fun v hv => ?_, general', fun E x y a b Q ha hb hq => ?_, fun q => absurd q (by rw [e.length]; omega)⟩
    · obtain ⟨d, q, as, r⟩ := e.left v hv
      exact ⟨_, PySem.W.dataKind_some hal q r⟩
    · obtain ⟨d, as, q1, ra, rfl⟩ := PySem.W.dataKind_inv ha
      obtain ⟨d', as', q2, rb, rfl⟩ := PySem.W.dataKind_inv hb
      show wpAny (model prog w) A (oneLt' false x y) Q E s
      refine PySem.W.oneLt_alike (fun z => by cases z) ra rb (hal d q1 d' q2) (fun z => ?_) (Nat.lt_of_le_of_lt (Nat.add_le_add_left (Nat.min_le_left _ _) _) (room d q1)) hq
      subst z
      have := List.all_eq_true.mp k.2 _ q1
      cases this

section
variable {X : Cx} {K : PySem.W.Frag}
/-- values beside what they read as -/
theorem each_zip {P : Value → V × PyData → Prop} : ∀ {xs : List V} {its : List Value} {ds : List PyData}, Vals xs its → xs.length = ds.length → (∀ (v : V) (u : Value) (d : PyData), (v, d) ∈ xs.zip ds → RelV v u → P u (v, d)) → PySem.W.EachIs P its (xs.zip ds)
  | _, _, [], .nil, _, _ => .nil
  | _, _, [], .cons _ _, h, _ => by cases h
  | _, _, d :: ds, .nil, h, _ => by cases h
  | _, _, d :: ds, .cons (a := v) (b := u) r t, h, f => .cons (f v u d List.mem_cons_self r) (each_zip t (by simpa using h) fun v u d q => f v u d (List.mem_cons_of_mem _ q))
theorem vals_each : ∀ {out : List Value} {ps : List (V × PyData)}, PySem.W.EachIs (fun u p => RelV p.1 u) out ps → Vals (ps.map (·.1)) out
  | _, _, .nil => .nil
  | _, _, .cons h t => .cons h (vals_each t)
theorem dfAll_zip {H : Hp} {g : Addr → Prop} : ∀ {us : List V} {ds : List PyData}, DfAll K H g us ds → ∀ p ∈ us.zip ds, Df K H g p.1 p.2
  | _, _, .nil, p, h => by cases h
  | _, _, .cons a t, p, h => by
    rcases List.mem_cons.mp h with q | q
    · subst q; exact a
    · exact dfAll_zip t p q
theorem zip_dfAll {H : Hp} {g : Addr → Prop} : ∀ {ps : List (V × PyData)}, (∀ p ∈ ps, Df K H g p.1 p.2) → DfAll K H g (ps.map (·.1)) (ps.map (·.2))
  | [], _ => .nil
  | p :: r, h => .cons (h p List.mem_cons_self) (zip_dfAll fun q hq => h q (List.mem_cons_of_mem _ hq))
theorem dp_zip {H : Hp} : ∀ {us : List V} {ds : List PyData}, DpAll K H us ds → ∀ p ∈ us.zip ds, Dp K H p.1 p.2
  | _, _, .nil, p, h => by cases h
  | _, _, .cons a t, p, h => by
    rcases List.mem_cons.mp h with q | q
    · subst q; exact a
    · exact dp_zip t p q
theorem dp_len {H : Hp} : ∀ {us : List V} {ds : List PyData}, DpAll K H us ds → us.length = ds.length
  | _, _, .nil => rfl
  | _, _, .cons a t => by rw [List.length_cons, List.length_cons, dp_len t]
/-- sorted(xs) -/
def rSortD (K : PySem.W.Frag) : List V → Hp → VK → Prop := fun vs H Q => ∃ (a : Addr) (xs : List V) (ds : List PyData), vs = [V.ref a] ∧ SqL K H a xs ∧ DpAll K H xs ds ∧ sorts ds = true ∧
  ∀ (ps : List (V × PyData)) (p : Addr), ps.Perm (xs.zip ds) → ps.map (·.2) = sortD ds → H p = none → ps.length ≤ sizeLine → Q (.ref p) (upd H p (.lst (ps.map (·.1))))
theorem cr_sortD (hu : X.A.units + 65 < cLine) : CallR X (.builtin "sorted") (rSortD X.K) := by
  intro pins s σ H vs us Q I r h
  obtain ⟨a, xs, ds, rfl, hs, hd, hk, q⟩ := h
  obtain ⟨its, rv, hl, hz⟩ := I.list hs
  rw [Vals.ref1 r]
  have hlen := dp_len hd
  have e : PySem.W.EachIs (fun u (p : V × PyData) => RelV p.1 u) its (xs.zip ds) := each_zip rv hlen fun v u d _ w => w
  have er : PySem.W.EachIs (fun u (p : V × PyData) => ∃ as, Reads s.heap u p.2 as) its (xs.zip ds) := each_zip rv hlen fun v u d m w => Dp.reads I d v u (dp_zip hd _ m) w
  have hm : (xs.zip ds).map (·.2) = ds := List.map_snd_zip (Nat.le_of_eq hlen.symm)
  have er2 : PySem.W.EachIs (fun u (p : V × PyData) => ∃ as, Reads (PySem.W.sortingHeap (PySem.W.copyHeap s.heap its) (s.heap.objs.size + 1) its) u p.2 as) its (xs.zip ds) := er.mono fun _ _ ⟨as, z⟩ => ⟨as, PyProof.Rows.Reads.keeps (fun _ _ => PySem.W.sorting_copy_old) z⟩
  have er3 : PySem.W.EachIs (fun u d => ∃ as, Reads (PySem.W.sortingHeap (PySem.W.copyHeap s.heap its) (s.heap.objs.size + 1) its) u d as) its ds := by
    have z := PySem.W.each_map (R := fun u d => ∃ as, Reads (PySem.W.sortingHeap (PySem.W.copyHeap s.heap its) (s.heap.objs.size + 1) its) u d as) Prod.snd er2
    rw [show (xs.zip ds).map Prod.snd = ds from hm] at z
    exact z
  have hal := sorts_alike hk
  have hal2 : PySem.W.AllAlike ((xs.zip ds).map Prod.snd) := by rw [show (xs.zip ds).map Prod.snd = ds from hm]; exact hal
  have S : PySem.W.SortsAt X.prog X.w X.A.in1.in1 { s with heap := PySem.W.sortingHeap (PySem.W.copyHeap s.heap its) (s.heap.objs.size + 1) its } (PySem.W.dataKind (PySem.W.sortingHeap (PySem.W.copyHeap s.heap its) (s.heap.objs.size + 1) its) ds) its :=
    sortsAt (s := { s with heap := PySem.W.sortingHeap (PySem.W.copyHeap s.heap its) (s.heap.objs.size + 1) its }) er3 hk (by show X.A.units + 1 + 1 + 60 < cLine; omega)
  have out := PySem.W.sortVals_data (h' := PySem.W.sortingHeap (PySem.W.copyHeap s.heap its) (s.heap.objs.size + 1) its) (R := fun u (p : V × PyData) => RelV p.1 u) (enc := Prod.snd) false e er2 hal2
  rw [show (xs.zip ds).map Prod.snd = ds from hm] at out
  refine PySem.W.sorted_vals hl.isList S (by rw [← rv.length]; exact hz) ?_
  generalize PySem.W.sortVals (PySem.W.dataKind (PySem.W.sortingHeap (PySem.W.copyHeap s.heap its) (s.heap.objs.size + 1) its) ds) false its its = zs at out ⊢
  have rz := vals_each out
  have perm : ((xs.zip ds).mergeSort (PySem.W.dataLe false Prod.snd)).Perm (xs.zip ds) := List.mergeSort_perm _ _
  have ms : ((xs.zip ds).mergeSort (PySem.W.dataLe false Prod.snd)).map (·.2) = sortD ds := by
    rw [sortD_merge hal]
    refine (PySem.W.sort_maps (s := PySem.W.dataLe false id) (fun p : V × PyData => p.2) fun a _ b _ => rfl).trans ?_
    rw [hm]
  generalize (xs.zip ds).mergeSort (PySem.W.dataLe false Prod.snd) = ps at rz perm ms
  have hps : ps.length ≤ sizeLine := by
    rw [perm.length_eq, List.length_zip, ← hlen, Nat.min_self]
    exact hz
  obtain ⟨ep, he'⟩ := PyProof.Rows.sortedAll_at s.heap its zs.toArray
  exact ⟨.ref _, upd H (s.heap.objs.size + 1) (.lst (ps.map (·.1))), I.laid (t' := s.toks) (fun _ _ => PyProof.Rows.sortedAll_old) (Nat.le_succ _) ⟨by rw [List.length_map]; exact hps, zs, ep, rz, he'⟩, rfl, q _ _ perm ms (I.hok.fresh (Nat.le_succ _)) hps⟩
def fSort : PyData → Option (List PyData)
  | .list ds => if sorts ds then some (sortD ds) else none
  | _ => none
theorem un_sort : Un1F K (rSortD K) fSort := fun Γ σ H env ds R x d z hx hf Q q => by
  unfold fSort at hf
  split at hf
  · split at hf
    · rename_i es hs
      cases hf
      obtain ⟨a, us, rfl, hS, hl, hA⟩ := hx.list
      refine ⟨a, us, es, rfl, SqL.of hS, hA.dp, hs, fun ps p h1 h2 h3 h4 => q p _ h3 (by rw [List.length_map]; exact h4) ?_⟩
      rw [← h2]
      exact zip_dfAll fun w hw => dfAll_zip hA w (h1.mem_iff.mp hw)
    · cases hf
  · cases hf
end
end DL

/-! DL12: sorted(set(..)) of ints, repr. -/
namespace DL
open PySem PySem.Spec L2
open PyProof.Rows hiding St

/-! ### ints in order, each once -/
def insU (x : Int) : List Int → List Int
  | [] => [x]
  | y :: r => if y < x then y :: insU x r else if x = y then y :: r else x :: y :: r
def sortU : List Int → List Int
  | [] => []
  | x :: r => insU x (sortU r)
theorem insU_mem (x k : Int) : ∀ l : List Int, k ∈ insU x l ↔ k = x ∨ k ∈ l
  | [] => by simp [insU]
  | y :: r => by
    unfold insU
    split
    · rw [List.mem_cons, insU_mem x k r, List.mem_cons]
      exact ⟨fun h => h.elim (fun q => .inr (.inl q)) fun q => q.elim .inl fun z => .inr (.inr z), fun h => h.elim (fun q => .inr (.inl q)) fun q => q.elim .inl fun z => .inr (.inr z)⟩
    · split
      · rename_i e
        subst e
        rw [List.mem_cons]
        exact ⟨fun h => h.elim .inl fun q => .inr (.inr q), fun h => h.elim .inl id⟩
      · exact List.mem_cons
theorem sortU_mem (k : Int) : ∀ l : List Int, k ∈ sortU l ↔ k ∈ l
  | [] => Iff.rfl
  | x :: r => by rw [sortU, insU_mem, sortU_mem k r, List.mem_cons]
theorem insU_pair (x : Int) : ∀ l : List Int, l.Pairwise (· < ·) → (insU x l).Pairwise (· < ·)
  | [], _ => List.pairwise_singleton _ _
  | y :: r, h => by
    rw [List.pairwise_cons] at h
    unfold insU
    split
    · rename_i c
      refine List.pairwise_cons.mpr ⟨fun z hz => ?_, insU_pair x r h.2⟩
      rcases (insU_mem x z r).mp hz with e | e
      · subst e; exact c
      · exact h.1 z e
    · split
      · exact List.pairwise_cons.mpr h
      · refine List.pairwise_cons.mpr ⟨fun z hz => ?_, List.pairwise_cons.mpr h⟩
        rcases List.mem_cons.mp hz with e | e
        · subst e; omega
        · have := h.1 z e; omega
theorem sortU_pair : ∀ l : List Int, (sortU l).Pairwise (· < ·)
  | [] => List.Pairwise.nil
  | x :: r => insU_pair x _ (sortU_pair r)
theorem pair_one : ∀ {l m : List Int}, l.Pairwise (· < ·) → m.Pairwise (· < ·) → (∀ k, k ∈ l ↔ k ∈ m) → l = m
  | [], [], _, _, _ => rfl
  | [], y :: m, _, _, h => by cases (h y).mpr List.mem_cons_self
  | x :: l, [], _, _, h => by cases (h x).mp List.mem_cons_self
  | x :: l, y :: m, hl, hm, h => by
    rw [List.pairwise_cons] at hl hm
    have e : x = y := by
      rcases List.mem_cons.mp ((h x).mp List.mem_cons_self) with q | q
      · exact q
      · rcases List.mem_cons.mp ((h y).mpr List.mem_cons_self) with z | z
        · exact z.symm
        · have := hm.1 x q; have := hl.1 y z; omega
    subst e
    rw [pair_one hl.2 hm.2 fun k => ?_]
    constructor
    · intro q
      rcases List.mem_cons.mp ((h k).mp (List.mem_cons_of_mem _ q)) with z | z
      · subst z; have := hl.1 k q; omega
      · exact z
    · intro q
      rcases List.mem_cons.mp ((h k).mpr (List.mem_cons_of_mem _ q)) with z | z
      · subst z; have := hm.1 k q; omega
      · exact z

/-! ### set(xs) of a list of ints -/
abbrev setE (w : World) : Obj := { cls := .type "set", dict := none, data := .set #[] 0 (.fresh 0 0 (!w.params.followText "set-order")) }
section
variable {P : Program} {w : World} {A : Around} {E : Value → Shared → Prop} {s : Shared}
set_option maxHeartbeats 3200000 in
theorem set_of_ints {l : Addr} {xs : Array Value} (ns : List Int) {Q : Value → Shared → Prop} (hh : A.handled = none) (hl : s.heap.IsList l xs) (hx : IntsAre xs.toList ns) (hb : ns.length + 1 < scanBound)
    (h : ∀ (h' : Heap) (tk c : Nat), SetR w h' s.heap.objs.size (fun j => decide (j ∈ ns)) c → c ≤ ns.length → (∀ b o, s.heap.get? b = some o → h'.get? b = some o) → Q (.ref s.heap.objs.size) { s with heap := h', toks := tk }) : wpAny (model P w) A (call (.type "set") [.ref l]) Q E s := by
  have hn : xs.size = ns.length := by have z := IntsAre.length hx; rwa [Array.length_toList] at z
  obtain ⟨c0, t0, m1⟩ := F.called_set.mro
  have m2 := F.called_set.made; have m3 := F.called_set.sub
  refine wpAny_call (codeAny_of_tree ?_); show wpAny _ _ (callAny (.type "set") _) _ _ _
  refine wpAny_pure ⟨Code.quiet_builtin _ (by decide +kernel), codeAny_builtin F.entry_type_call ?_⟩; rw [Around.under_plain (weight_type_call_type "set" [.ref l] []) rfl]
  have m4 := F.called_set.notType; have m5 := F.called_set.canCreate; have m6 := F.typeCall_set_1 (.ref l)
  repeat (any_goals (first | assumption | wp_step))
  refine codeAny_mono (code_set_led1 (.ref l) (E := E) (Q₁ := fun ob z => ob = .ref s.heap.objs.size ∧ z = { s with heap := s.heap.push (setE w) }) ⟨rfl, rfl⟩) fun r z hr => ?_
  rcases r with e | fl
  · exact hr
  · cases fl with
    | ret ob =>
      obtain ⟨rfl, rfl⟩ := hr
      have g1 : (s.heap.push (setE w)).get? s.heap.objs.size = some (setE w) := Heap.get?_push_size _ rfl
      have g2 : Shared.TypeIs { s with heap := s.heap.push (setE w) } (.ref s.heap.objs.size) "set" := ⟨_, g1, rfl⟩
      have m7 := F.called_set.init.lookup; have m8 := F.called_set.init.bind (.ref s.heap.objs.size)
      repeat (any_goals (first | assumption | wp_step))
      refine codeAny_mono (codeAny_call_builtin (R := wants (fun r z => r = .none ∧ ∃ h' tk c, z = { s with heap := h', toks := tk } ∧ SetR w h' s.heap.objs.size (fun j => decide (j ∈ ns)) c ∧ c ≤ ns.length ∧ (∀ b o, s.heap.get? b = some o → h'.get? b = some o)) E) F.called_set.init.plain F.entry_set_init (check_set_init_1 g2 ?_)) fun r z hr => ?_
      · obtain ⟨⟨oc, od, oa, os⟩, l1, l2, n, l3⟩ := hl
        dsimp only at l2 l3
        subst l2 l3
        have l4 : (s.heap.push (setE w)).get? l = some { cls := .type "list", dict := od, data := .seq xs n, slots := os } := Heap.get?_push_of_some _ l1
        have n1 := F.sub_list_set; have n2 := F.sub_list_frozenset
        have n3 : (Value.type "list" == Value.type "dict") = false := by decide
        have l5 : (s.heap.push (setE w)).IsList l xs := ⟨_, l4, rfl, n, rfl⟩
        unfold Builtin.«set.__init__» noKeywords Builtin.Frozenset.updateFrom
        generalize hp : pyIter = PP
        wp_walk
        subst hp
        refine wpAny_pyIter_list l5 ?_; refine wpAny_bind (wpAny_runValue ?_)
        have k1 : l < s.heap.objs.size := Heap.lt_size l1
        have k2 : A.in1.in1.in1.handled = none := by simp [hh]
        have k3 : l ≠ (s.heap.push (setE w)).objs.size := by rw [Heap.size_push]; exact Nat.ne_of_lt (Nat.lt_succ_of_lt k1)
        have k4 : s.heap.objs.size ∉ [(s.heap.push (setE w)).objs.size, l] := by
          intro q
          rw [Heap.size_push] at q
          rcases List.mem_cons.mp q with e | q
          · omega
          · rcases List.mem_cons.mp q with e | q
            · rw [← e] at k1; exact Nat.lt_irrefl _ k1
            · cases q
        have k5 : ∀ (i : Nat) (v : Value), xs[i]? = some v → ∃ k t, ns[i]? = some k ∧ v = .int k t := fun i v hv => by
          have q : i < ns.length := by rw [← hn]; exact (Array.getElem?_eq_some_iff.mp hv).1
          obtain ⟨t, e⟩ := IntsAre.int_at hx i v (by rw [Array.getElem?_toList]; exact hv)
          exact ⟨ns[i], t, List.getElem?_eq_getElem q, by rw [e, List.getD_eq_getElem?_getD, List.getElem?_eq_getElem q]; rfl⟩
        refine set_update_ints ((Walks.list k2 _ l k3 xs).toS) s.heap.objs.size k4 ns hn hb k5 (xs.size - 0) 0 _ (by omega) (Nat.zero_le _) ⟨⟨_, Heap.get?_push_size _ rfl, rfl, rfl⟩, (l5.push _)⟩ ⟨0, Nat.le_refl 0, setR_new_at (Heap.get?_push_of_some _ g1)⟩ fun z c hm hc hS => ?_
        obtain ⟨zh, zg, zd, zt, zo⟩ := z
        obtain rfl : zg = s.gens := hm.gens
        obtain rfl : zd = s.drawn := hm.drawn
        obtain rfl : zo = s.os := hm.os
        show wpAny _ _ _ _ _ _
        refine wpAny_pure ?_; show wpAny _ _ (ret Value.none) _ _ _
        rw [hn] at hc
        refine wpAny_pure ⟨rfl, zh, zt, c, rfl, hS, hc, fun b o e => ?_⟩
        have q := Heap.lt_size e
        refine hm.heap b o (fun w => ?_) (Heap.get?_push_of_some _ (Heap.get?_push_of_some _ e))
        rcases List.mem_cons.mp w with w | w
        · exact absurd w (Nat.ne_of_lt q)
        · rcases List.mem_cons.mp w with w | w
          · rw [Heap.size_push] at w; exact absurd w (Nat.ne_of_lt (Nat.lt_succ_of_lt q))
          · cases w
      · rcases r with e | fl
        · exact hr
        · cases fl with
          | ret r =>
            obtain ⟨rfl, h', tk, c, rfl, q1, q2, q3⟩ := hr
            repeat (any_goals (first | assumption | wp_step))
            exact h _ _ _ q1 q2 q3
          | _ => exact hr.elim
    | _ => exact hr.elim
end

section
variable {X : Cx} {C : Exs} {W : WX} {K : PySem.W.Frag} {a : Expr} {ma : ME PyData} {M : Md} {pos pos2 p p2 : Pos}
def rSetLI (K : PySem.W.Frag) (w : World) : List V → Hp → VK → Prop := fun vs H Q => ∃ (l : Addr) (ns : List Int), vs = [V.ref l] ∧ SqL K H l (ns.map V.int) ∧ ns.length ≤ 1000 ∧
  ∀ (p : Addr) (c : Nat), H p = none → c ≤ ns.length → Q (.ref p) (upd H p (SetO w p (fun j => decide (j ∈ ns)) c))
theorem cr_setLI (hc : X.calm = true) : CallR X (.type "set") (rSetLI X.K X.w) := by
  intro pins s σ H vs us Q I r h
  obtain ⟨l, ns, rfl, hs, hn, q⟩ := h
  obtain ⟨its, rv, hl, hz⟩ := I.list hs
  rw [Vals.ref1 r]
  refine set_of_ints ns (I.ok.hd hc) hl.isList (ints_of_vals rv) (by unfold scanBound; omega) fun h' tk c R hcn k => ?_
  have hf : H s.heap.objs.size = none := I.hok.fresh (Nat.le_refl _)
  exact ⟨.ref _, upd H s.heap.objs.size (SetO X.w s.heap.objs.size (fun j => decide (j ∈ ns)) c), I.laid (t' := tk) k (Nat.le_refl _) (setO_new R), rfl, q _ c hf hcn⟩
/-- sorted(set(e)), e a list of ints -/
def fSortSet : PyData → Option (List PyData)
  | .list ds => (intsOf ds).bind fun ns => if decide (ns.length < 64) then some ((sortU ns).map .int) else none
  | _ => none
theorem sortU_len (l : List Int) : (sortU l).length ≤ l.length := by
  have h : ∀ (x : Int) (l : List Int), (insU x l).length ≤ l.length + 1 := fun x l => by
    induction l with
    | nil => exact Nat.le_refl _
    | cons y r ih =>
      unfold insU
      split
      · rw [List.length_cons, List.length_cons]; omega
      · split <;> simp
  induction l with
  | nil => exact Nat.le_refl _
  | cons x r ih =>
    have := h x (sortU r)
    show (insU x (sortU r)).length ≤ r.length + 1
    omega
theorem sf_sortSet (hc : X.calm = true) (p1 : Pers M) (hms : X.mg "sorted" = none) (hmt : X.mg "set" = none) (ha : PE X a (rdG M X.K C W ma)) (hgs : Gl X "sorted" := by rfl) (hgt : Gl X "set" := by rfl)
    (he : starEach (a :: []) X.env = (false, eval a X.env) :: starEach [] X.env := by rfl) (hpl : (backTo pos2 (starEach [] X.env)).any (·.1) = false := by rfl)
    (he2 : starEach (.Call (.Name "set" p2) [a] [] pos2 :: []) X.env = (false, eval (.Call (.Name "set" p2) [a] [] pos2) X.env) :: starEach [] X.env := by rfl) (hpl2 : (backTo pos (starEach [] X.env)).any (·.1) = false := by rfl) :
    SF X C W (.Call (.Name "sorted" p) [.Call (.Name "set" p2) [a] [] pos2] [] pos) (mUnF fSortSet ma) :=
  PE.imp (pe_callB (cr_sortedSet hc) hgs hms PyProof.Rows.boot_sorted (pa_cons (pe_callTy (cr_setLI hc) hgt hmt PyProof.Rows.boot_set (pa_cons ha pa_nil he) (by decide) (by decide) he hpl) pa_nil he2) (by decide) (by decide) he2 hpl2) fun σ H Q ⟨Γ, env, ds, R, h⟩ => by
    refine ⟨Γ, env, ds, R, h.bind.imp fun d ds1 H1 e1 d1 q x hx => ?_⟩
    obtain ⟨z, hz, q⟩ := lift_some q
    have R1 := R.go e1 d1
    unfold fSortSet at hz
    split at hz
    · rename_i es
      obtain ⟨ns, k1, k2⟩ := Option.bind_eq_some_iff.mp hz
      obtain rfl := intsOf_eq k1
      split at k2
      · rename_i k3
        cases k2
        have k3 := of_decide_eq_true k3
        obtain ⟨l, us, rfl, hS, hl, hA⟩ := (p1.pk hx).list
        have eu := hA.ints_inv
        subst eu
        refine ⟨l, ns, rfl, SqL.of hS, by omega, fun p c hp hcn => ?_⟩
        have x1 : Ext Γ H1 (upd H1 p (SetO X.w p (fun j => decide (j ∈ ns)) c)) := ext_new hp
        have y1 := d1.new (o := SetO X.w p (fun j => decide (j ∈ ns)) c) hp
        refine ⟨p, _, c, rfl, upd_same, by omega, fun ns' p' h1 h2 h3 h4 => ?_⟩
        have en : ns' = sortU ns := pair_one h1 (sortU_pair ns) fun k => (h2 k).trans (by rw [sortU_mem]; exact decide_eq_true_iff)
        subst en
        have h5 : ((sortU ns).map V.int).length ≤ sizeLine := by have := sortU_len ns; rw [List.length_map, sizeLine_eq]; omega
        have R2 := R1.go x1 y1
        exact q _ (x1.trans (ext_new h4)) (y1.new h4) p' _ (R.none_back (e1.trans x1) y1 h4) upd_same h5 (DfAll.newx (DfAll.of_ints _) h4 y1)
      · cases k2
    · cases hz
/-! ### repr -/
/-- repr(x), x a list or a tuple; where no repr is under way -/
def isSeq : PyData → Bool
  | .list _ => true
  | .tuple _ => true
  | _ => false
def fRepr (d : PyData) : Option PyData := if isSeq d && d.showable && !d.hasDict && decide (d.depth ≤ 60) && short d.shown.length then some (.str d.shown) else none
def rReprD (K : PySem.W.Frag) : List V → Hp → VK → Prop := fun vs H Q => ∃ (a : Addr) (d : PyData), vs = [V.ref a] ∧ Dp K H (.ref a) d ∧ d.showable = true ∧ d.hasDict = false ∧ d.depth ≤ 60 ∧ d.shown.length ≤ sizeLine ∧ Q (.str d.shown) H
theorem cr_repr (hu : X.A.units + 65 < cLine) (hg : X.A.guards = some []) : CallR X (.builtin "repr") (rReprD X.K) := by
  intro pins s σ H vs us Q I r h
  obtain ⟨a, d, rfl, hd, h1, h2, h3, h4, q⟩ := h
  rw [Vals.ref1 r]
  obtain ⟨as, hr⟩ := Dp.reads I d _ _ hd (rfl : RelV (.ref a) (.ref a))
  exact repr_of_reads' hr h1 (fun z => by rw [h2] at z; cases z) hg (by omega) (fun _ _ e => e) (fun h' u tk hk => ⟨.str d.shown, H, I.kept (t' := tk) hk, ⟨u, rfl⟩, q⟩) h4
theorem un_repr : Un1 K (rReprD K) fRepr := Un1.same fun Γ σ H env x d z hx hf Q q => by
  unfold fRepr at hf
  split at hf
  · rename_i hc
    cases hf
    rw [Bool.and_eq_true, Bool.and_eq_true, Bool.and_eq_true, Bool.and_eq_true] at hc
    obtain ⟨⟨⟨⟨c1, c2⟩, c3⟩, c4⟩, c5⟩ := hc
    have c3 : d.hasDict = false := by cases w : d.hasDict with | false => rfl | true => rw [w] at c3; cases c3
    have fin : ∀ a, x = .ref a → rReprD K [x] H Q := fun a e => by
      subst e
      exact ⟨a, d, rfl, persP.dp hx, c2, c3, of_decide_eq_true c4, short_iff c5, q _ (.str _)⟩
    cases d with
    | list ds =>
      obtain ⟨a, us, e, _⟩ := hx.list
      exact fin a e
    | tuple ds =>
      obtain ⟨a, us, e, _⟩ := hx.tuple
      exact fin a e
    | _ => cases c1
  · cases hf
end
end DL

/-! DL13: list(range(..)), tuple(range(..)); the law's own def. -/
namespace DL
open PySem PySem.Spec L2
open PyProof.Rows hiding St

section
variable {X : Cx} {C : Exs} {W : WX} {K : PySem.W.Frag} {a b : Expr} {ma mb : ME PyData} {pos pos2 p p2 : Pos}
def smallI (j : Int) : Bool := decide (-1048576 ≤ j ∧ j < 1048576)
def mRgL1 (a : ME PyData) : ME (List PyData) := a.bind fun x => ME.lift (match x with | .int j => if smallI j then some (rangeD 0 j.toNat) else none | _ => none)
def mRgL2 (a b : ME PyData) : ME (List PyData) := a.bind fun x => b.bind fun y => ME.lift (match x, y with | .int i, .int j => if smallI i && smallI j then some (rangeD i (j - i).toNat) else none | _, _ => none)
theorem rgV_df {H : Hp} {g : Addr → Prop} (i j : Int) : DfAll K H g (rgV i j) (rangeD i (j - i).toNat) := by
  have h : ∀ l : List Nat, DfAll K H g (l.map fun k => V.int (i + (k : Nat))) (l.map fun (k : Nat) => PyData.int (i + (k : Int))) := fun l => by
    induction l with
    | nil => exact .nil
    | cons x r ih => exact .cons (.int _) ih
  exact h _
theorem rgV_short {i j : Int} (hi : smallI i = true) (hj : smallI j = true) : RgOk i j ∧ (rgV i j).length ≤ sizeLine := by
  have hi := of_decide_eq_true hi
  have hj := of_decide_eq_true hj
  refine ⟨⟨by omega, by omega, by omega, by omega, by omega⟩, ?_⟩
  rw [rgV_length, sizeLine_eq]
  omega
theorem sf_listRg1 (hc : X.calm = true) (hml : X.mg "list" = none) (hmr : X.mg "range" = none) (ha : SE X C W a ma) (hgl : Gl X "list" := by rfl) (hgr : Gl X "range" := by rfl) (na : starEach [a] X.env = (false, eval a X.env) :: starEach [] X.env := by rfl)
    (na2 : starEach [.Call (.Name "range" p2) [a] [] pos2] X.env = (false, eval (.Call (.Name "range" p2) [a] [] pos2) X.env) :: starEach [] X.env := by rfl) : SF X C W (.Call (.Name "list" p) [.Call (.Name "range" p2) [a] [] pos2] [] pos) (mRgL1 ma) :=
  PE.imp (pe_listRg hc hgl hml (prg_1 hgr hmr ha na) na2) fun σ H Q ⟨Γ, env, ds, R, h⟩ => by
    refine ⟨Γ, env, ds, R, h.bind.imp fun d ds1 H1 e1 d1 q x hx => ?_⟩
    obtain ⟨z, hz, q⟩ := lift_some q
    cases d with
    | int j =>
      cases hx
      dsimp only at hz
      split at hz
      · rename_i hj
        cases hz
        obtain ⟨k1, k2⟩ := rgV_short (i := 0) (by decide) hj
        refine ⟨j, rfl, k1, fun r hr => q _ (ext_new hr) (d1.new hr) r _ (R.none_back e1 d1 hr) upd_same k2 (DfAll.newx ?_ hr d1)⟩
        have z := rgV_df (K := X.K) (H := H1) (g := gd Γ σ env) 0 j
        rw [Int.sub_zero] at z
        exact z
      · cases hz
    | _ => cases hz
theorem se_tupRg1 (hc : X.calm = true) (hml : X.mg "tuple" = none) (hmr : X.mg "range" = none) (ha : SE X C W a ma) (hgl : Gl X "tuple" := by rfl) (hgr : Gl X "range" := by rfl) (na : starEach [a] X.env = (false, eval a X.env) :: starEach [] X.env := by rfl)
    (na2 : starEach [.Call (.Name "range" p2) [a] [] pos2] X.env = (false, eval (.Call (.Name "range" p2) [a] [] pos2) X.env) :: starEach [] X.env := by rfl) : SE X C W (.Call (.Name "tuple" p) [.Call (.Name "range" p2) [a] [] pos2] [] pos) (mTup (mRgL1 ma)) :=
  PE.imp (pe_tupRg hc hgl hml (prg_1 hgr hmr ha na) na2) fun σ H Q ⟨Γ, env, ds, R, h⟩ => by
    refine ⟨Γ, env, ds, R, h.bind.bind.imp fun d ds1 H1 e1 d1 q x hx => ?_⟩
    obtain ⟨z, hz, q⟩ := lift_some q
    cases d with
    | int j =>
      cases hx
      dsimp only at hz
      split at hz
      · rename_i hj
        cases hz
        obtain ⟨k1, k2⟩ := rgV_short (i := 0) (by decide) hj
        refine ⟨j, rfl, k1, fun r hr => ?_⟩
        obtain ⟨z, hz, q⟩ := lift_some (q H1 Ext.refl d1)
        split at hz
        · cases hz
          have w := rgV_df (K := X.K) (H := H1) (g := gd Γ σ env) 0 j
          rw [Int.sub_zero] at w
          obtain ⟨x1, x2, x3⟩ := new_tup (R.go e1 d1) w k2 hr
          exact q _ x1 x2 _ x3
        · cases hz
      · cases hz
    | _ => cases hz
theorem sf_listRg2 (hc : X.calm = true) (hml : X.mg "list" = none) (hmr : X.mg "range" = none) (ha : SE X C W a ma) (hb : SE X C W b mb) (hgl : Gl X "list" := by rfl) (hgr : Gl X "range" := by rfl) (na : starEach [a, b] X.env = (false, eval a X.env) :: starEach [b] X.env := by rfl)
    (nb : starEach [b] X.env = (false, eval b X.env) :: starEach [] X.env := by rfl) (hpl : (backTo pos2 (starEach [b] X.env)).any (·.1) = false := by rfl)
    (na2 : starEach [.Call (.Name "range" p2) [a, b] [] pos2] X.env = (false, eval (.Call (.Name "range" p2) [a, b] [] pos2) X.env) :: starEach [] X.env := by rfl) : SF X C W (.Call (.Name "list" p) [.Call (.Name "range" p2) [a, b] [] pos2] [] pos) (mRgL2 ma mb) :=
  PE.imp (pe_listRg hc hgl hml (prg_2 hgr hmr ha hb na nb hpl) na2) fun σ H Q ⟨Γ, env, ds, R, h⟩ => by
    refine ⟨Γ, env, ds, R, h.bind.imp fun d ds1 H1 e1 d1 q x hx => ⟨Γ, env, ds1, R.go e1 d1, q.bind.imp fun e ds2 H2 e2 d2 q y hy => ?_⟩⟩
    obtain ⟨z, hz, q⟩ := lift_some q
    cases d with
    | int i =>
      cases e with
      | int j =>
        cases hx
        cases hy
        dsimp only at hz
        split at hz
        · rename_i hj
          cases hz
          rw [Bool.and_eq_true] at hj
          obtain ⟨k1, k2⟩ := rgV_short hj.1 hj.2
          exact ⟨i, j, rfl, rfl, k1, fun r hr => q _ (ext_new hr) (d2.new hr) r _ (R.none_back e1 d1 ((R.go e1 d1).none_back e2 d2 hr)) upd_same k2 (DfAll.newx (rgV_df i j) hr d2)⟩
        · cases hz
      | _ => cases hz
    | _ => cases hz
end

/-! ### the law's own def, called from the claim's caller: there no repr is under way -/
section
variable {P : Program} {w : World} {K : PySem.W.Frag} {mg mb : Str → Option Value}
def noX : XK := fun _ _ _ => False
/-- what is wanted of the law's body -/
def LawBody (P : Program) (w : World) (K : PySem.W.Frag) (mg : Str → Option Value) (k : Nat) (st : Stmt) (N : List Str) (fa : Addr) (C : Exs) (m : MS) : Prop :=
  ∀ (base : Heap) (cdv : Value) (s : Shared) (H : Hp), K.In base → base.Ns mainGlobals mg → Room k (callerA.deeper (envOfC "law" (defScope st) s.heap.objs.size fa cdv)) → SSs (cxOf (L2.CX P w) P w K mg base N "law" (defScope st) fa cdv callerA [] s H noX) C W0 false (defBody st) m
theorem law_run {st : Stmt} {N : List Str} {k : Nat} {fa a : Addr} {fd : FuncData} {C : Exs} {m : MS} {base : Heap} {s : Shared} {H : Hp} {ns : List Int} (F : Fun K "law" "law" st fa fd) (S : FnScope N ["script"] (defScope st)) (hbind : ∀ (s : Shared) (u : Value), BindsTo s fd ⟨[u], []⟩ [("script", u)]) (hr : Room (k + 1) callerA)
    (hB : LawBody P w K mg k st N fa C m) (e0 : Env0 P w K mg base callerA [] s H) (hbs : base.Ns mainGlobals mg) (hS : ScrAt K H a (ns.map V.int)) (hn : ns.length ≤ 63) (hm : runB N.length 1 false m [.scr ns] none = some (.ok (.bool true), none)) :
    codeAny (model P w) callerA (.call (.ref fa) ⟨[.ref a], []⟩) (CR (L2.CX P w) [] P w H s (fun v _ => v = .bl true) noX) s := by
  obtain ⟨oc, od, kV, doc, pm, an, cdv, ct, osl, efd, lk, hcd⟩ := F.ex
  subst efd
  have inK : K.In s.heap := e0.mod.kin.keeps fun b o e => (e0.bs b o e).1
  have noL : s.heap.NoLimit := e0.mod.nolimit.keeps fun b o e => (e0.bs b o e).1
  have par : ∀ y ∈ [(("script" : Str), Value.ref a)], (defScope st).names.lookup y.1 = some .local ∨ ((defScope st).names.lookup y.1 = some .cell ∧ ((cellsFrom (s.heap.objs.size + 1) (defScope st).names []).lookup y.1).isSome = true) := fun y hy => by
    obtain rfl := List.mem_singleton.mp hy
    exact (S.par "script" List.mem_cons_self).imp id fun q => ⟨q, PySem.W.cellsFrom_some _ _ _ (.inl q)⟩
  refine codeAny_call_function hr.depth (inK _ _ lk) rfl S.co S.gen rfl (PySem.W.codeRec_of inK hcd) (hbind s (.ref a) _ _ _ _ ?_); refine wpAny_newFunctionEnv_cells S.kind par fun env he s1 x => ?_
  subst he
  refine ⟨noL.keeps x.toInCall.keep, codeAny_func ?_⟩
  have I := inv_start (CX := L2.CX P w) (E := noX) (ps := ["script"]) (us := [Value.ref a]) (vs := [V.ref a]) S hr.hd e0 rfl (.cons rfl .nil) x
  have rel := rel_start (K := K) (Γ := ⟨fun _ => True, H, none, []⟩) (H := H) (ds := none) (vs := [V.ref a]) (args := [.scr ns]) (N := N) rfl rfl (fun _ _ => trivial) trivial (.cons ⟨a, rfl, hS, hn⟩ .nil)
  have body := hB base cdv s H e0.mod.kin hbs (hr.deeper _)
  refine wpAny_mono (body.run [] s1 (start N [V.ref a]) H { nx := fun _ H' => (fun v _ => v = V.bl true : VK) .non H', rt := fun v _ => v = V.bl true } I ⟨_, _, _, rel, ?_⟩) (fun fl s' hs => ?_) fun e s' hs => hs
  · show Aft2 K C W0 false _ _ (m ([.scr ns] ++ List.replicate (N.length - 1) .un) none)
    unfold runB at hm
    rcases q : m ([.scr ns] ++ List.replicate (N.length - 1) .un) none with _ | ⟨fl, ds'⟩
    · rw [q] at hm; cases hm
    · rw [q] at hm
      cases fl with
      | rt d =>
        cases hm
        try rw [q]
        refine (fun v H' (r : RetR false K _ H' none v (.bool true)) => ?_ : ∀ (v : V) (H' : Hp), RetR false K _ H' none v (.bool true) → v = V.bl true)
        obtain ⟨_, _, r⟩ := r
        cases r
        rfl
      | nx e => dsimp only at hm; rw [if_neg Bool.false_ne_true] at hm; cases hm
      | bk e => cases hm
      | ct e => cases hm
      | ex x e => cases hm
  · cases fl with
    | ret u =>
      obtain ⟨v, σ', H', J, rv, q⟩ := hs
      exact ⟨v, H', J.os, J.bare, J.base, J.hok, rv, q⟩
    | next =>
      obtain ⟨σ', H', J, q⟩ := hs
      cases q
    | brk => obtain ⟨_, _, _, q⟩ := hs; exact q.elim
    | cont => obtain ⟨_, _, _, q⟩ := hs; exact q.elim
theorem hid_ns {h : Heap} {H : Hp} {b : Addr} {m : Str → Option Value} (x : h.Ns b m) (hn : ∀ (c : Addr) (o : Obj) (es : Array DictEntry) (ep : Nat), h.get? c = some o → o.data = .dict es ep → H c = none) : (hidT h H).Ns b m := by
  obtain ⟨o, es, ep, e, d, r⟩ := x
  exact ⟨o, es, ep, hidT_get e (hn b o es ep e d), d, r⟩
/-- THE END: the law's def, from the caller; nothing is tracked but the script -/
theorem law_go {st : Stmt} {N : List Str} {k : Nat} {fa a : Addr} {fd : FuncData} {C : Exs} {m : MS} {s : Shared} {vs : List Value} {ns : List Int} (KX : K.In s.heap) (hns : s.heap.Ns mainGlobals mg) (hb : s.heap.Ns builtinsNs mb) (hbb : ∀ x : Str, x ≠ "__name__" → mb x = bootBuiltins x) (hlim : s.heap.NoLimit) (hg : s.gens = #[])
    (ha : s.heap.get? a = some { cls := .type "list", data := .seq vs.toArray }) (hi : IntsAre vs ns) (hn : ns.length ≤ 63) (F : Fun K "law" "law" st fa fd) (S : FnScope N ["script"] (defScope st)) (hbind : ∀ (s : Shared) (u : Value), BindsTo s fd ⟨[u], []⟩ [("script", u)]) (hr : Room (k + 1) callerA)
    (hB : LawBody P w K mg k st N fa C m) (hm : runB N.length 1 false m [.scr ns] none = some (.ok (.bool true), none)) :
    codeAny (model P w) callerA (.call (.ref fa) ⟨[.ref a], []⟩) (fun r s' => r = .ok (.ret (.bool true)) ∧ OldK s.heap s'.heap ∧ s'.os = s.os ∧ AllBare s'.gens) s := by
  have rv := vals_ints hi
  have lv := hi.length
  have z63 : (63 : Nat) ≤ sizeLine := by rw [sizeLine_eq]; decide
  have go : ∀ H : Hp, (∀ b, H b = none ∨ (b = a ∧ K.lookup a = none ∧ ∃ o, H b = some (.frz o (.lst (ns.map V.int))))) → ScrAt K H a (ns.map V.int) → HOk P w H s.heap → codeAny (model P w) callerA (.call (.ref fa) ⟨[.ref a], []⟩) (fun r s' => r = .ok (.ret (.bool true)) ∧ OldK s.heap s'.heap ∧ s'.os = s.os ∧ AllBare s'.gens) s := by
    intro H hH hS hok
    have dn : ∀ (c : Addr) (o : Obj) (es : Array DictEntry) (ep : Nat), s.heap.get? c = some o → o.data = .dict es ep → H c = none := fun c o es ep e d => by
      rcases hH c with q | ⟨rfl, _, _⟩
      · exact q
      · rw [ha] at e
        cases e
        cases d
    have inB : K.In (hidT s.heap H) := fun b o e => by
      refine hidT_get (KX b o e) ?_
      rcases hH b with q | ⟨rfl, q, _⟩
      · exact q
      · rw [q] at e; cases e
    have lim : (hidT s.heap H).NoLimit := by
      obtain ⟨mc, h1, h2⟩ := hlim
      exact ⟨mc, hid_ns h1 dn, h2⟩
    have e0 : Env0 P w K mg (hidT s.heap H) callerA [] s H := ⟨rfl, ⟨inB, hid_ns hns dn, ⟨mb, hid_ns hb dn, hbb⟩, lim⟩, fun b o e => of_hidT e, Nat.le_of_eq (hidT_size _ _), trivial, (fun b z => nomatch z), hok, AllBare.of_eq hg⟩
    refine codeAny_mono (law_run F S hbind hr hB e0 (hid_ns hns dn) hS hn hm) fun r s' h => ?_
    rcases r with e | fl
    · obtain ⟨_, _, _, _, _, _, _, _, _, _, _, _, q⟩ := h
      exact q.elim
    · cases fl with
      | ret u =>
        obtain ⟨v, H', os, bare, un, hok', r, q⟩ := h
        have q : v = .bl true := q
        subst q
        obtain rfl : u = Value.bool true := r
        refine ⟨rfl, OldK.of_keep fun b o e => ?_, os, bare⟩
        rcases hH b with q | ⟨rfl, _, ob, q⟩
        · exact un.keep b o e q (fun z => nomatch z) (by simp)
        · obtain ⟨e1, _⟩ := hok b _ q
          obtain ⟨e2, _⟩ := hok' b _ (un.frzs b ob _ q)
          rw [e] at e1
          cases e1
          exact e2
      | next => exact h.elim
      | brk => exact h.elim
      | cont => exact h.elim
  cases hk : K.lookup a with
  | some o =>
    have e := KX a o hk
    rw [ha] at e
    cases e
    exact go (fun _ => none) (fun _ => .inl rfl) (.inr ⟨_, vs.toArray, _, hk, rfl, rfl, rfl, by rw [List.size_toArray, lv]; omega, by simpa using rv⟩) fun b u z => nomatch z
  | none =>
    refine go (fun b => if b = a then some (.frz { cls := .type "list", data := .seq vs.toArray } (.lst (ns.map V.int))) else none) (fun b => ?_) (.inl ⟨_, if_pos rfl⟩) fun b u z => ?_
    · by_cases q : b = a
      · exact .inr ⟨q, hk, _, if_pos q⟩
      · exact .inl (if_neg q)
    · by_cases q : b = a
      · have z2 := (if_pos q).symm.trans z
        cases z2
        subst q
        exact ⟨ha, by rw [List.length_map]; omega, vs, _, rv, ha⟩
      · have z2 := (if_neg q).symm.trans z
        cases z2
end
/-- what the text gives: the law's def, its body's meaning, and that it answers True -/
structure LawTxt (P : Program) (w : World) (K : PySem.W.Frag) (mg : Str → Option Value) (fa : Addr) (k : Nat) (C : Exs) (st : Stmt) (N : List Str) (fd : FuncData) (m : MS) : Prop where
  fn : Fun K "law" "law" st fa fd
  sc : FnScope N ["script"] (defScope st)
  bind : ∀ (s : Shared) (u : Value), BindsTo s fd ⟨[u], []⟩ [("script", u)]
  body : LawBody P w K mg k st N fa C m
  ans : ∀ ns : List Int, ns.length ≤ 63 → runB N.length 1 false m [.scr ns] none = some (.ok (.bool true), none)
theorem walk_law {l : PySem.W.OpenLaw} {k : Nat} {q : Program} {loose : List Str} {XP : (Str → Option Value) → Heap → Prop} {YP : World → Heap → Prop} {d : DefRec} {K : Params → PySem.W.Frag} (hn : l.most = some 63) (hdf : d.params.defaults = []) (hr : Room (k + 1) callerA) (hY : ∀ (w : World) (h : Heap), YP w h → (K w.params).In h)
    (F : ∀ (w : World) (mg : Str → Option Value) (fa : Addr) (h : Heap), (K w.params).In h → h.Ns mainGlobals mg → mg d.name = some (.ref fa) → ∃ C st N fd m, LawTxt l.prog w (K w.params) mg fa k C st N fd m) : PySem.W.WalkO q loose XP YP l.row.toRowW d [] (fun f vs => PySem.call f vs) := by
  refine Att.attach_call hn hdf fun w s₀ s₁ mg mb fa o pm cd doc a vs ns G Y ho hd hcd hmg hobj hints hlen hg => ?_
  obtain ⟨C, st, N, fd, m, T⟩ := F w mg fa _ (hY w _ Y) G.T.g hmg
  exact law_go (hY w _ Y) G.T.g G.T.b G.T.builtins G.T.nolimit hg hobj hints hlen T.fn T.sc T.bind hr T.body (T.ans ns hlen)
end DL

/-! DL14: a, b = e1, e2. -/
namespace DL
open PySem PySem.Spec L2
open PyProof.Rows hiding St

def putS (i j : Nat) (x y : Sl) : MS := fun env ds => match (put i x env).bind (put j y) with
  | some env' => some (.nx env', ds)
  | none => none
def mParDD (i j : Nat) (a b : ME PyData) : MS := exS a fun x => exS b fun y => putS i j (.d x) (.d y)
def mParLD (i j : Nat) (a : ME (List PyData)) (b : ME PyData) : MS := exS a fun x => exS b fun y => putS i j (.l x) (.d y)
def mParDL (i j : Nat) (a : ME PyData) (b : ME (List PyData)) : MS := exS a fun x => exS b fun y => putS i j (.d x) (.l y)
def mParLL (i j : Nat) (a b : ME (List PyData)) : MS := exS a fun x => exS b fun y => putS i j (.l x) (.l y)
section
variable {X : Cx} {C : Exs} {W : WX} {fr : Bool} {K : PySem.W.Frag} {Γ : Gm} {σ : St} {H H1 : Hp} {env : Ev} {ds ds1 : DS}
theorem putS_aft {D : Ends} {i j : Nat} {x y : Sl} (h : Aft2 K C W fr Γ D (putS i j x y env ds)) : ∃ env1 env2, put i x env = some env1 ∧ put j y env1 = some env2 ∧ ∀ σ' H', Rel K Γ σ' H' env2 ds → D.nx σ' H' := by
  unfold putS at h
  cases h1 : put i x env with
  | none => rw [h1] at h; exact h.elim
  | some env1 =>
    rw [h1] at h
    dsimp only [Option.bind] at h
    cases h2 : put j y env1 with
    | none => rw [h2] at h; exact h.elim
    | some env2 => rw [h2] at h; exact ⟨env1, env2, rfl, h2, h⟩
theorem Aft.blk {α : Type} {Hb : Hp} {E : Addr} {r : Rz α} {P : α → DS → Hp → Prop} (h : Aft K C W Γ σ H r P) : Aft K C W (Γ.blk σ env Hb E) σ H r P := by
  unfold Aft at h ⊢
  rcases r with _ | ⟨a | x, ds⟩
  · exact h
  · exact fun H' e d => h H' e d.unblk
  · exact fun cls dd H' e d => h cls dd H' e d.unblk
/-- what is good in the ground apart from p is good behind the storing of p -/
theorem blk_good {Hb : Hp} {p a : Addr} {i : Nat} {xs : List PyData} {env1 : Ev} (hp : put i (.l xs) env = some env1) (hi : i < σ.length) (h : gd (Γ.blk σ env Hb p) σ env a) : gd Γ (σ.set i (some (.ref p))) env1 a := by
  obtain ⟨h1, h2, rfl⟩ := put_some hp
  refine ⟨h.1.1, fun ⟨j, x, q1, q2, q3⟩ => ?_, h.2.2⟩
  by_cases e : i = j
  · subst e
    rw [List.getElem?_set_self hi] at q3
    cases q3
    exact h.1.2 rfl
  · rw [List.getElem?_set_ne e] at q1 q3
    exact h.2.1 ⟨j, x, q1, q2, q3⟩
variable {i j : Nat} {x y : Str} {a b : Expr} {px py pt pos : Pos} {kt k2 : Nat} {pt2 : Pos} {ma mb : ME PyData} {fa fb : ME (List PyData)}
theorem ss_parDD (i j : Nat) (hN : X.N.Nodup) (ha : SE X C W a ma) (hb : SE X C W b mb) (hc : X.calm = true := by rfl) (hi : X.N[i]? = some x := by rfl) (hj : X.N[j]? = some y := by rfl) (hij : i ≠ j := by decide) (hx : X.env.scope.names.lookup x = some .local := by rfl) (hy : X.env.scope.names.lookup y = some .local := by rfl)
    (he : starEach (a :: [b]) X.env = (false, eval a X.env) :: starEach [b] X.env := by rfl) (he2 : starEach (b :: []) X.env = (false, eval b X.env) :: starEach [] X.env := by rfl)
    (hw : swappedStores [.Tuple [.Name x px, .Name y py] kt pt] (.Tuple [a, b] k2 pt2) X.env = pure (some [x, y]) := by rfl) (hs : swapsWithSole [.Tuple [.Name x px, .Name y py] kt pt] (.Tuple [a, b] k2 pt2) pos.line X.env = pure false := by rfl) :
    SS X C W fr (.Assign [.Tuple [.Name x px, .Name y py] kt pt] (.Tuple [a, b] k2 pt2) pos) (mParDD i j ma mb) :=
  PS.imp (ps_par hc hN hi hj hij hx hy (pa_cons ha (pa_cons hb pa_nil he2) he) hw hs) fun D σ H ⟨Γ, env, ds, R, h⟩ => by
    refine ⟨Γ, env, ds, R, (exS_aft R h).imp fun d ds1 H1 e1 d1 q v hv => ?_⟩
    have R1 := R.go e1 d1
    refine ⟨Γ, env, ds1, R1, (exS_aft R1 q).imp fun e ds2 H2 e2 d2 q w hw => ?_⟩
    have R2 := R1.go e2 d2
    obtain ⟨env1, env2, p1, p2, q⟩ := putS_aft q
    refine ⟨v, w, rfl, q _ _ ?_⟩
    have S1 := R2.set_d (Df.ext e2 d1 hv) p1
    refine S1.set_d ((show Df X.K H2 (gd Γ σ env) w e from hw).mono (fun a u z k => ⟨?_, k⟩) fun _ _ z => z) p2
    obtain ⟨_, _, rfl⟩ := put_some p1
    exact gd_set_d rfl z
theorem ss_parDL (i j : Nat) (hN : X.N.Nodup) (ha : SE X C W a ma) (hb : SF X C W b fb) (hc : X.calm = true := by rfl) (hi : X.N[i]? = some x := by rfl) (hj : X.N[j]? = some y := by rfl) (hij : i ≠ j := by decide) (hx : X.env.scope.names.lookup x = some .local := by rfl) (hy : X.env.scope.names.lookup y = some .local := by rfl)
    (he : starEach (a :: [b]) X.env = (false, eval a X.env) :: starEach [b] X.env := by rfl) (he2 : starEach (b :: []) X.env = (false, eval b X.env) :: starEach [] X.env := by rfl)
    (hw : swappedStores [.Tuple [.Name x px, .Name y py] kt pt] (.Tuple [a, b] k2 pt2) X.env = pure (some [x, y]) := by rfl) (hs : swapsWithSole [.Tuple [.Name x px, .Name y py] kt pt] (.Tuple [a, b] k2 pt2) pos.line X.env = pure false := by rfl) :
    SS X C W fr (.Assign [.Tuple [.Name x px, .Name y py] kt pt] (.Tuple [a, b] k2 pt2) pos) (mParDL i j ma fb) :=
  PS.imp (ps_par hc hN hi hj hij hx hy (pa_cons ha (pa_cons hb pa_nil he2) he) hw hs) fun D σ H ⟨Γ, env, ds, R, h⟩ => by
    refine ⟨Γ, env, ds, R, (exS_aft R h).imp fun d ds1 H1 e1 d1 q v hv => ?_⟩
    have R1 := R.go e1 d1
    refine ⟨Γ, env, ds1, R1, (exS_aft R1 q).imp fun e ds2 H2 e2 d2 q p us g1 g2 g3 g4 => ?_⟩
    obtain ⟨env1, env2, p1, p2, q⟩ := putS_aft q
    refine ⟨v, _, rfl, q _ _ ?_⟩
    have S1 := R1.set_d hv p1
    refine S1.set_l e2 d2 g1 g2 g3 (g4.mono (fun a u z k => ⟨⟨?_, z.2⟩, k⟩) fun _ _ z => z) p2
    obtain ⟨_, _, rfl⟩ := put_some p1
    exact gd_set_d rfl z.1
theorem ss_parLD (i j : Nat) (hN : X.N.Nodup) (ha : SF X C W a fa) (hb : SE X C W b mb) (hc : X.calm = true := by rfl) (hi : X.N[i]? = some x := by rfl) (hj : X.N[j]? = some y := by rfl) (hij : i ≠ j := by decide) (hx : X.env.scope.names.lookup x = some .local := by rfl) (hy : X.env.scope.names.lookup y = some .local := by rfl)
    (he : starEach (a :: [b]) X.env = (false, eval a X.env) :: starEach [b] X.env := by rfl) (he2 : starEach (b :: []) X.env = (false, eval b X.env) :: starEach [] X.env := by rfl)
    (hw : swappedStores [.Tuple [.Name x px, .Name y py] kt pt] (.Tuple [a, b] k2 pt2) X.env = pure (some [x, y]) := by rfl) (hs : swapsWithSole [.Tuple [.Name x px, .Name y py] kt pt] (.Tuple [a, b] k2 pt2) pos.line X.env = pure false := by rfl) :
    SS X C W fr (.Assign [.Tuple [.Name x px, .Name y py] kt pt] (.Tuple [a, b] k2 pt2) pos) (mParLD i j fa mb) :=
  PS.imp (ps_par hc hN hi hj hij hx hy (pa_cons ha (pa_cons hb pa_nil he2) he) hw hs) fun D σ H ⟨Γ, env, ds, R, h⟩ => by
    refine ⟨Γ, env, ds, R, (exS_aft R h).imp fun d ds1 H1 e1 d1 q p us g1 g2 g3 g4 => ?_⟩
    have R1 := R.go e1 d1
    have RB : Rel X.K (Γ.blk σ env H1 p) σ H1 env ds1 := R.blk (vs := []) g1 e1 d1 ⟨_, g2⟩ rfl
    refine ⟨_, env, ds1, RB, (exS_aft R1 q).blk.imp fun e ds2 H2 e2 d2 q w hw => ?_⟩
    obtain ⟨env1, env2, p1, p2, q⟩ := putS_aft q
    refine ⟨_, w, rfl, q _ _ ?_⟩
    have S1 := (R.set_l e1 d1 g1 g2 g3 g4 p1).go e2 d2.unblk
    exact S1.set_d ((show Df X.K H2 (gd (Γ.blk σ env H1 p) σ env) w e from hw).mono (fun a u z k => ⟨blk_good p1 (by rw [R.len]; exact (put_some p1).2.1) z, k⟩) fun _ _ z => z) p2
theorem ss_parLL (i j : Nat) (hN : X.N.Nodup) (ha : SF X C W a fa) (hb : SF X C W b fb) (hc : X.calm = true := by rfl) (hi : X.N[i]? = some x := by rfl) (hj : X.N[j]? = some y := by rfl) (hij : i ≠ j := by decide) (hx : X.env.scope.names.lookup x = some .local := by rfl) (hy : X.env.scope.names.lookup y = some .local := by rfl)
    (he : starEach (a :: [b]) X.env = (false, eval a X.env) :: starEach [b] X.env := by rfl) (he2 : starEach (b :: []) X.env = (false, eval b X.env) :: starEach [] X.env := by rfl)
    (hw : swappedStores [.Tuple [.Name x px, .Name y py] kt pt] (.Tuple [a, b] k2 pt2) X.env = pure (some [x, y]) := by rfl) (hs : swapsWithSole [.Tuple [.Name x px, .Name y py] kt pt] (.Tuple [a, b] k2 pt2) pos.line X.env = pure false := by rfl) :
    SS X C W fr (.Assign [.Tuple [.Name x px, .Name y py] kt pt] (.Tuple [a, b] k2 pt2) pos) (mParLL i j fa fb) :=
  PS.imp (ps_par hc hN hi hj hij hx hy (pa_cons ha (pa_cons hb pa_nil he2) he) hw hs) fun D σ H ⟨Γ, env, ds, R, h⟩ => by
    refine ⟨Γ, env, ds, R, (exS_aft R h).imp fun d ds1 H1 e1 d1 q p us g1 g2 g3 g4 => ?_⟩
    have R1 := R.go e1 d1
    have RB : Rel X.K (Γ.blk σ env H1 p) σ H1 env ds1 := R.blk (vs := []) g1 e1 d1 ⟨_, g2⟩ rfl
    refine ⟨_, env, ds1, RB, (exS_aft R1 q).blk.imp fun e ds2 H2 e2 d2 q p' us' f1 f2 f3 f4 => ?_⟩
    obtain ⟨env1, env2, p1, p2, q⟩ := putS_aft q
    refine ⟨_, _, rfl, q _ _ ?_⟩
    have S1 := R.set_l e1 d1 g1 g2 g3 g4 p1
    exact S1.set_l e2 d2.unblk f1 f2 f3 (f4.mono (fun a u z k => ⟨⟨blk_good p1 (by rw [R.len]; exact (put_some p1).2.1) z.1, z.2⟩, k⟩) fun _ _ z => z) p2
end
/-! ### the text's parts -/
/-- an error's class catches itself -/
theorem exm_own {K : PySem.W.Frag} {c : Addr} (hb : PySem.W.subIn K (.ref c) (.type "BaseException") = some true) (hi : PySem.W.isClsIn K c = true) (ht : PySem.W.typeIn K (.ref c) = some (.type "type")) (hs : PySem.W.subIn K (.ref c) (.ref c) = some true) : PySem.W.exmOne K (.ref c) (.ref c) = some true := by
  have a1 : (PySem.W.subIn K (.ref c) (.type "BaseException") == some true) = true := by rw [hb]; rfl
  have a2 : ((PySem.W.clsIn K c).isSome && PySem.W.typeIn K (.ref c) == some (.type "type")) = true := by
    rw [ht, show (PySem.W.clsIn K c).isSome = true from hi]
    rfl
  show (if _ then (if _ then PySem.W.subIn K (.ref c) (.ref c) else none) else none) = some true
  rw [if_pos a1, if_pos a2, hs]
/-- a def of the text -/
structure Dn (K : PySem.W.Frag) (mg : Str → Option Value) (x : Str) (st : Stmt) (ps : List Str) (f : Addr) (fd : FuncData) : Prop where
  fn : Fun K x x st f fd
  mg : mg x = some (.ref f)
  kp : PySem.W.keepIn K (.ref f) = true
  bd : Binds K fd ps []
/-- an error without a field of its own -/
structure Xn (K : PySem.W.Frag) (mg : Str → Option Value) (x : Str) (C : Exs) : Prop where
  g : mg x = some (.ref C.m)
  q : PySem.W.excIn K C.m [.type "ValueError", .type "Exception", .type "BaseException", .type "object"] "ValueError.__new__" = true
  kp : PySem.W.keepIn K (.ref C.m) = true
  r : ∀ {X : Cx}, X.K = K → Raises X (.ref C.m)
  ex : ∀ y cls d H, ExR C y cls d H → PySem.W.exmOne K cls (.ref C.m) = some true
/-- the rule for a def, its meaning by name -/
theorem okD2 {P : Program} {w : World} {K : PySem.W.Frag} {mg : Str → Option Value} {base : Heap} {x qual : Str} {st : Stmt} {fa : Addr} {fd : FuncData} {N ps : List Str} {k n p : Nat} {C : Exs} {fr : Bool} {m : MS} {f : FS} (hf : f = runB n p fr m) (hn : N.length = n) (hp : ps.length = p) (F : Fun K x qual st fa fd) (S : FnScope N ps (defScope st))
    (hbody : ∀ (cdv : Value) (A : Around) (outer : List Env) (s : Shared) (H : Hp) (E : XK), Room k (A.deeper (envOfC qual (defScope st) s.heap.objs.size fa cdv)) → SSs (cxOf (L2.CX P w) P w K mg base N qual (defScope st) fa cdv A outer s H E) C (fun cls d _ H' => E cls d H') fr (defBody st) m) :
    FnOk P w K mg base (L2.CX P w) (k + 1) fa fd ps (spD K C fr p f) := by
  subst hf hn hp
  exact DL.Fun.okD F S hbody
end DL

/-! DL15: meanings evaluated. -/
namespace DL
open PySem PySem.Spec L2
open PyProof.Rows hiding St

section
variable {α β : Type} {env env' : Ev} {ds ds' : DS}
@[simp] theorem rb_ok (x : α) (f : α → DS → Rz β) : Rz.bind (some (.ok x, ds)) f = f x ds := rfl
@[simp] theorem rb_exc (x : Exn) (f : α → DS → Rz β) : Rz.bind (some (.exc x, ds)) f = some (.exc x, ds) := rfl
@[simp] theorem rb_none (f : α → DS → Rz β) : Rz.bind none f = none := rfl
@[simp] theorem lift_ok (x : α) : ME.lift (some x) env ds = some (.ok x, ds) := rfl
@[simp] theorem lift_no : ME.lift (none : Option α) env ds = none := rfl
@[simp] theorem mbind_ev (a : ME α) (f : α → ME β) : ME.bind a f env ds = (a env ds).bind fun x ds => f x env ds := rfl
@[simp] theorem mpure_ev (x : α) : ME.pure x env ds = some (.ok x, ds) := rfl
@[simp] theorem mC_ev (d : PyData) : mC d env ds = some (.ok d, ds) := rfl
@[simp] theorem mV_ev (i : Nat) : mV i env ds = (match env[i]? with | some (.d x) => some (.ok x, ds) | _ => none) := rfl
@[simp] theorem mVp_ev (i : Nat) : mVp i env ds = (match env[i]? with | some (.d x) => some (.ok x, ds) | some (.l xs) => some (.ok (.list xs), ds) | some (.lk xs) => some (.ok (.list xs), ds) | _ => none) := rfl
@[simp] theorem mF_ev (a : ME (List PyData)) : mF a env ds = (a env ds).bind fun xs ds => some (.ok (.list xs), ds) := rfl
@[simp] theorem mOp_ev (f : PyData → PyData → Option PyData) (a b : ME PyData) : mOp f a b env ds = (a env ds).bind fun x ds => (b env ds).bind fun y ds => ME.lift (f x y) env ds := rfl
@[simp] theorem mUn_ev (f : PyData → Option PyData) (a : ME PyData) : mUn f a env ds = (a env ds).bind fun x ds => ME.lift (f x) env ds := rfl
@[simp] theorem mUnF_ev (f : PyData → Option (List PyData)) (a : ME PyData) : mUnF f a env ds = (a env ds).bind fun x ds => ME.lift (f x) env ds := rfl
@[simp] theorem mTst_ev (a : ME PyData) : mTst a env ds = (a env ds).bind fun x ds => ME.lift (match x with | .bool b => some b | _ => none) env ds := rfl
@[simp] theorem mB_ev (a : ME Bool) : mB a env ds = (a env ds).bind fun b ds => some (.ok (.bool b), ds) := rfl
@[simp] theorem mAnd_ev (a b : ME Bool) : mAnd a b env ds = (a env ds).bind fun x ds => (if x then b else ME.pure false) env ds := rfl
@[simp] theorem mOr_ev (a b : ME Bool) : mOr a b env ds = (a env ds).bind fun x ds => (if x then ME.pure true else b) env ds := rfl
@[simp] theorem mNot_ev (a : ME Bool) : mNot a env ds = (a env ds).bind fun x ds => some (.ok (!x), ds) := rfl
@[simp] theorem mIf_ev (c : ME Bool) (a b : ME α) : mIf c a b env ds = (c env ds).bind fun x ds => (if x then a else b) env ds := rfl
@[simp] theorem mNil_ev : mNil env ds = some (.ok [], ds) := rfl
@[simp] theorem mCons_ev (a : ME PyData) (b : ME (List PyData)) : mCons a b env ds = (a env ds).bind fun x ds => (b env ds).bind fun xs ds => some (.ok (x :: xs), ds) := rfl
@[simp] theorem mTup_ev (a : ME (List PyData)) : mTup a env ds = (a env ds).bind fun xs ds => ME.lift (if short xs.length then some (.tuple xs) else none) env ds := rfl
@[simp] theorem mLst_ev (a : ME (List PyData)) : mLst a env ds = (a env ds).bind fun xs ds => ME.lift (if short xs.length then some xs else none) env ds := rfl
@[simp] theorem mIsi_ev (n : Nat) (a : ME PyData) : mIsi n a env ds = (a env ds).bind fun x ds => ME.lift ((isOf (["int", "bool", "tuple", "str", "list"].getD n "") x).map .bool) env ds := rfl
@[simp] theorem mAndV_ev (a b : ME PyData) : mAndV a b env ds = (a env ds).bind fun x ds => (match x with | .bool true => b env ds | .bool false => some (.ok (.bool false), ds) | _ => none) := by
  unfold mAndV
  show (a env ds).bind _ = _
  congr 1
  funext x ds
  rcases x with _ | b | _ | _ | _ | _ | _ <;> first | rfl | (cases b <;> rfl)
@[simp] theorem mOrV_ev (a b : ME PyData) : mOrV a b env ds = (a env ds).bind fun x ds => (match x with | .bool true => some (.ok (.bool true), ds) | .bool false => b env ds | _ => none) := by
  unfold mOrV
  show (a env ds).bind _ = _
  congr 1
  funext x ds
  rcases x with _ | b | _ | _ | _ | _ | _ <;> first | rfl | (cases b <;> rfl)
@[simp] theorem mChain_ev (f f' : PyData → PyData → Option PyData) (a b c : ME PyData) : mChain f f' a b c env ds = (a env ds).bind fun x ds => (b env ds).bind fun y ds => (ME.lift (f x y) env ds).bind fun z ds => (match z with | .bool true => (c env ds).bind fun u ds => ME.lift (f' y u) env ds | .bool false => some (.ok (.bool false), ds) | _ => none) := by
  unfold mChain
  show (a env ds).bind _ = _
  congr 1
  funext x ds
  show (b env ds).bind _ = _
  congr 1
  funext y ds
  show (ME.lift (f x y) env ds).bind _ = _
  congr 1
  funext z ds
  rcases z with _ | b | _ | _ | _ | _ | _ <;> first | rfl | (cases b <;> rfl)
@[simp] theorem mItems_ev (a : ME PyData) : mItems a env ds = (a env ds).bind fun x ds => ME.lift (itemsOf x) env ds := rfl
@[simp] theorem mPart_ev (a : ME PyData) : mPart a env ds = (a env ds).bind fun x ds => ME.lift (match x with | .int i => some (some i) | _ => none) env ds := rfl
@[simp] theorem mNoPart_ev : mNoPart env ds = some (.ok none, ds) := rfl
@[simp] theorem mSlice_ev (a : ME PyData) (l h : ME (Option Int)) : mSlice a l h env ds = (a env ds).bind fun x ds => (l env ds).bind fun lo ds => (h env ds).bind fun hi ds => ME.lift (fSlice x lo hi) env ds := rfl
@[simp] theorem mScr_ev (i : Nat) : mScr i env ds = (match env[i]? with | some (.scr ns) => some (.ok (ns.map .int), ds) | _ => none) := rfl
@[simp] theorem mYes_ev : mYes env ds = some (.ok true, ds) := rfl
@[simp] theorem axNil_ev : axNil env ds = some (.ok [], ds) := rfl
@[simp] theorem axD_ev (a : ME PyData) (r : ME (List Sl)) : axD a r env ds = (a env ds).bind fun x ds => (r env ds).bind fun xs ds => some (.ok (.d x :: xs), ds) := rfl
@[simp] theorem axV_ev (i : Nat) (r : ME (List Sl)) : axV i r env ds = (match env[i]? with | some .drw => (r env ds).bind fun xs ds' => some (.ok (.drw :: xs), ds') | some (.scr ns) => (r env ds).bind fun xs ds' => some (.ok (.scr ns :: xs), ds') | _ => none) := rfl
@[simp] theorem mCall_ev (f : FS) (a : ME (List Sl)) : mCall f a env ds = (a env ds).bind fun args ds => f args ds := rfl
@[simp] theorem mCallP_ev (f : FS) (a : ME (List Sl)) : mCallP f a env ds = (a env ds).bind fun args ds => (f args ds).bind fun d ds' => if noL d then some (.ok d, ds') else none := rfl
@[simp] theorem mCallF_ev (f : FS) (a : ME (List Sl)) : mCallF f a env ds = (a env ds).bind fun args ds => (f args ds).bind fun d ds' => (match d with | .list xs => some (.ok xs, ds') | _ => none) := rfl
@[simp] theorem chk_ev (n : Nat) (f : FS) (args : List Sl) : chk n f args ds = if args.length = n then f args ds else none := rfl
@[simp] theorem mRng1_int (a : ME PyData) {j : Int} (h : a env ds = some (.ok (.int j), ds')) (hj : -(2 ^ 62) ≤ j ∧ j < 2 ^ 62) : mRng1 a env ds = some (.ok (rangeD 0 j.toNat), ds') := by
  unfold mRng1
  rw [mbind_ev, h, rb_ok]
  show ME.lift (if decide _ then _ else _) env ds' = _
  rw [decide_eq_true hj]
  rfl
@[simp] theorem mRgL1_int (a : ME PyData) {j : Int} (h : a env ds = some (.ok (.int j), ds')) (hj : smallI j = true) : mRgL1 a env ds = some (.ok (rangeD 0 j.toNat), ds') := by
  unfold mRgL1
  rw [mbind_ev, h, rb_ok]
  show ME.lift (if smallI j then _ else _) env ds' = _
  rw [hj]
  rfl
/-! statements -/
@[simp] theorem exS_ev (a : ME α) (f : α → MS) : exS a f env ds = (match a env ds with | some (.ok x, ds') => f x env ds' | some (.exc e, ds') => some (.ex e env, ds') | none => none) := rfl
@[simp] theorem mSkip_ev : mSkip env ds = some (.nx env, ds) := rfl
theorem mSeq_nx {a b : MS} (h : a env ds = some (.nx env', ds')) : mSeq a b env ds = b env' ds' := by unfold mSeq; rw [h]
theorem mSeq_rt {a b : MS} {d : PyData} (h : a env ds = some (.rt d, ds')) : mSeq a b env ds = some (.rt d, ds') := by unfold mSeq; rw [h]
theorem mSeq_ex {a b : MS} {x : Exn} (h : a env ds = some (.ex x env', ds')) : mSeq a b env ds = some (.ex x env', ds') := by unfold mSeq; rw [h]
@[simp] theorem mSeq_ev (a b : MS) : mSeq a b env ds = (match a env ds with | some (.nx env', ds') => b env' ds' | r => r) := rfl
@[simp] theorem mSet_ev (i : Nat) (a : ME PyData) : mSet i a env ds = (match a env ds with | some (.ok x, ds') => (match put i (.d x) env with | some env' => some (.nx env', ds') | none => none) | some (.exc e, ds') => some (.ex e env, ds') | none => none) := by
  unfold mSet exS
  rcases a env ds with _ | ⟨_ | _, _⟩ <;> rfl
@[simp] theorem mSetL_ev (i : Nat) (a : ME (List PyData)) : mSetL i a env ds = (match a env ds with | some (.ok x, ds') => (match put i (.l x) env with | some env' => some (.nx env', ds') | none => none) | some (.exc e, ds') => some (.ex e env, ds') | none => none) := by
  unfold mSetL exS
  rcases a env ds with _ | ⟨_ | _, _⟩ <;> rfl
@[simp] theorem mDrop_ev (a : ME PyData) : mDrop a env ds = (match a env ds with | some (.ok x, ds') => some (.nx env, ds') | some (.exc e, ds') => some (.ex e env, ds') | none => none) := by
  unfold mDrop exS
  rcases a env ds with _ | ⟨_ | _, _⟩ <;> rfl
@[simp] theorem mRet_ev (a : ME PyData) : mRet a env ds = (match a env ds with | some (.ok x, ds') => some (.rt x, ds') | some (.exc e, ds') => some (.ex e env, ds') | none => none) := by
  unfold mRet exS
  rcases a env ds with _ | ⟨_ | _, _⟩ <;> rfl
@[simp] theorem mRetF_ev (a : ME (List PyData)) : mRetF a env ds = (match a env ds with | some (.ok x, ds') => some (.rt (.list x), ds') | some (.exc e, ds') => some (.ex e env, ds') | none => none) := by
  unfold mRetF exS
  rcases a env ds with _ | ⟨_ | _, _⟩ <;> rfl
@[simp] theorem mRetL_ev (i : Nat) : mRetL i env ds = (match env[i]? with | some (.l xs) => some (.rt (.list xs), ds) | _ => none) := rfl
@[simp] theorem mRetN_ev : mRetN env ds = some (.rt .none, ds) := rfl
@[simp] theorem mRaise_ev (x : Exn) : mRaise x env ds = some (.ex x env, ds) := rfl
@[simp] theorem mIfS_ev (c : ME Bool) (a b : MS) : mIfS c a b env ds = (match c env ds with | some (.ok x, ds') => (if x then a else b) env ds' | some (.exc e, ds') => some (.ex e env, ds') | none => none) := by
  unfold mIfS exS
  rcases c env ds with _ | ⟨_ | _, _⟩ <;> rfl
@[simp] theorem mAsg_ev (t : Tg) (a : ME PyData) : mAsg t a env ds = (match a env ds with | some (.ok x, ds') => (match t x env with | some env' => some (.nx env', ds') | none => none) | some (.exc e, ds') => some (.ex e env, ds') | none => none) := by
  unfold mAsg exS
  rcases a env ds with _ | ⟨_ | _, _⟩ <;> rfl
@[simp] theorem mApp_ev (i : Nat) (a : ME PyData) : mApp i a env ds = (match env[i]? with | some (.l xs) => (match a env ds with | some (.ok x, ds') => (if decide (xs.length < sizeLine) then some (.nx (env.set i (.l (xs ++ [x]))), ds') else none) | some (.exc e, ds') => some (.ex e env, ds') | none => none) | _ => none) := by
  unfold mApp onL
  rcases env[i]? with _ | (_ | _ | _ | _ | _ | _)
  any_goals rfl
  dsimp only
  rw [exS_ev]
  rcases a env ds with _ | ⟨_ | _, _⟩ <;> rfl
@[simp] theorem tName_ev (i : Nat) (d : PyData) : tName i d env = put i (.d d) env := rfl
@[simp] theorem tTup_ev (n : Nat) (ts : Tgs) (xs : List PyData) : tTup n ts (.tuple xs) env = if xs.length = n then ts xs env else none := rfl
@[simp] theorem tNilT_ev : tNilT [] env = some env := rfl
@[simp] theorem tConsT_ev (t : Tg) (ts : Tgs) (x : PyData) (r : List PyData) : tConsT t ts (x :: r) env = (t x env).bind (ts r) := rfl
/-! evaluated step by step -/
section
variable {ds1 ds2 : DS} {x y z : PyData} {a b : ME PyData}
theorem gOp {f : PyData → PyData → Option PyData} (ha : a env ds = some (.ok x, ds1)) (hb : b env ds1 = some (.ok y, ds2)) (hf : f x y = some z) : mOp f a b env ds = some (.ok z, ds2) := by rw [mOp_ev, ha, rb_ok, hb, rb_ok, hf]; rfl
theorem gUn {f : PyData → Option PyData} (ha : a env ds = some (.ok x, ds1)) (hf : f x = some z) : mUn f a env ds = some (.ok z, ds1) := by rw [mUn_ev, ha, rb_ok, hf]; rfl
theorem gUnF {f : PyData → Option (List PyData)} {zs : List PyData} (ha : a env ds = some (.ok x, ds1)) (hf : f x = some zs) : mUnF f a env ds = some (.ok zs, ds1) := by rw [mUnF_ev, ha, rb_ok, hf]; rfl
theorem gF {m : ME (List PyData)} {xs : List PyData} (ha : m env ds = some (.ok xs, ds1)) : mF m env ds = some (.ok (.list xs), ds1) := by rw [mF_ev, ha]; rfl
theorem gTst {k : Bool} (ha : a env ds = some (.ok (.bool k), ds1)) : mTst a env ds = some (.ok k, ds1) := by rw [mTst_ev, ha]; rfl
theorem gNot {m : ME Bool} {k : Bool} (ha : m env ds = some (.ok k, ds1)) : mNot m env ds = some (.ok (!k), ds1) := by rw [mNot_ev, ha]; rfl
theorem gOr {m m' : ME Bool} {k k' : Bool} (ha : m env ds = some (.ok k, ds1)) (hb : m' env ds1 = some (.ok k', ds1)) : mOr m m' env ds = some (.ok (k || k'), ds1) := by
  rw [mOr_ev, ha, rb_ok]
  cases k
  · exact hb
  · rfl
theorem gAnd {m m' : ME Bool} {k k' : Bool} (ha : m env ds = some (.ok k, ds1)) (hb : m' env ds1 = some (.ok k', ds1)) : mAnd m m' env ds = some (.ok (k && k'), ds1) := by
  rw [mAnd_ev, ha, rb_ok]
  cases k
  · rfl
  · exact hb
theorem gAndV {k k' : Bool} (ha : a env ds = some (.ok (.bool k), ds1)) (hb : b env ds1 = some (.ok (.bool k'), ds1)) : mAndV a b env ds = some (.ok (.bool (k && k')), ds1) := by
  rw [mAndV_ev, ha, rb_ok]
  cases k
  · rfl
  · exact hb
theorem gOrV {k k' : Bool} (ha : a env ds = some (.ok (.bool k), ds1)) (hb : b env ds1 = some (.ok (.bool k'), ds1)) : mOrV a b env ds = some (.ok (.bool (k || k')), ds1) := by
  rw [mOrV_ev, ha, rb_ok]
  cases k
  · exact hb
  · rfl
theorem gChain {c : ME PyData} {f f' : PyData → PyData → Option PyData} {u : PyData} {k k' : Bool} (ha : a env ds = some (.ok x, ds)) (hb : b env ds = some (.ok y, ds)) (hf : f x y = some (.bool k)) (hc : c env ds = some (.ok u, ds)) (hf' : f' y u = some (.bool k')) : mChain f f' a b c env ds = some (.ok (.bool (k && k')), ds) := by
  rw [mChain_ev, ha, rb_ok, hb, rb_ok, hf, lift_ok, rb_ok]
  cases k
  · rfl
  · dsimp only
    rw [hc, rb_ok, hf']
    rfl
theorem gCons {r : ME (List PyData)} {xs : List PyData} (ha : a env ds = some (.ok x, ds1)) (hr : r env ds1 = some (.ok xs, ds2)) : mCons a r env ds = some (.ok (x :: xs), ds2) := by rw [mCons_ev, ha, rb_ok, hr]; rfl
theorem gTup {r : ME (List PyData)} {xs : List PyData} (ha : r env ds = some (.ok xs, ds1)) (hs : short xs.length = true) : mTup r env ds = some (.ok (.tuple xs), ds1) := by rw [mTup_ev, ha, rb_ok, hs]; rfl
theorem gLst {r : ME (List PyData)} {xs : List PyData} (ha : r env ds = some (.ok xs, ds1)) (hs : short xs.length = true) : mLst r env ds = some (.ok xs, ds1) := by rw [mLst_ev, ha, rb_ok, hs]; rfl
theorem gItems {xs : List PyData} (ha : a env ds = some (.ok x, ds1)) (hx : itemsOf x = some xs) : mItems a env ds = some (.ok xs, ds1) := by rw [mItems_ev, ha, rb_ok, hx]; rfl
theorem gCall {f : FS} {n : Nat} {r : ME (List Sl)} {args : List Sl} (ha : r env ds = some (.ok args, ds1)) (hn : args.length = n) {o : Rz PyData} (hf : f args ds1 = o) : mCall (chk n f) r env ds = o := by rw [mCall_ev, ha, rb_ok, chk_ev, if_pos hn, hf]
theorem gAx {r : ME (List Sl)} {xs : List Sl} (ha : a env ds = some (.ok x, ds1)) (hr : r env ds1 = some (.ok xs, ds2)) : axD a r env ds = some (.ok (.d x :: xs), ds2) := by rw [axD_ev, ha, rb_ok, hr]; rfl
theorem gSet {i : Nat} (ha : a env ds = some (.ok x, ds1)) (hp : put i (.d x) env = some env') : mSet i a env ds = some (.nx env', ds1) := by rw [mSet_ev, ha]; dsimp only; rw [hp]
theorem gSetL {i : Nat} {m : ME (List PyData)} {xs : List PyData} (ha : m env ds = some (.ok xs, ds1)) (hp : put i (.l xs) env = some env') : mSetL i m env ds = some (.nx env', ds1) := by rw [mSetL_ev, ha]; dsimp only; rw [hp]
theorem gDrop (ha : a env ds = some (.ok x, ds1)) : mDrop a env ds = some (.nx env, ds1) := by rw [mDrop_ev, ha]
theorem gRet (ha : a env ds = some (.ok x, ds1)) : mRet a env ds = some (.rt x, ds1) := by rw [mRet_ev, ha]
theorem gIfS {c : ME Bool} {m m' : MS} {k : Bool} (hc : c env ds = some (.ok k, ds1)) : mIfS c m m' env ds = (if k then m else m') env ds1 := by rw [mIfS_ev, hc]
theorem gIfT {c : ME Bool} {m m' : MS} (hc : c env ds = some (.ok true, ds1)) : mIfS c m m' env ds = m env ds1 := by rw [mIfS_ev, hc]; rfl
theorem gIfF {c : ME Bool} {m m' : MS} (hc : c env ds = some (.ok false, ds1)) : mIfS c m m' env ds = m' env ds1 := by rw [mIfS_ev, hc]; rfl
theorem gIf {γ : Type} {c : ME Bool} {m m' : ME γ} {k : Bool} (hc : c env ds = some (.ok k, ds1)) : mIf c m m' env ds = (if k then m else m') env ds1 := by rw [mIf_ev, hc]; rfl
theorem gSeq {m m' : MS} {o : Option (Fl × DS)} (h : m env ds = some (.nx env', ds1)) (h' : m' env' ds1 = o) : mSeq m m' env ds = o := by rw [mSeq_nx h, h']
theorem gFor {mi : ME (List PyData)} {t : Tg} {body : MS} {xs : List PyData} {o : Option (Fl × DS)} (hi : mi env ds = some (.ok xs, ds1)) (h : forGo t body xs env ds1 = o) : mFor mi t body env ds = o := by
  unfold mFor
  rw [exS_ev, hi]
  exact h
theorem gRunRt {nN np : Nat} {fr : Bool} {m : MS} {args : List Sl} (h : m (args ++ List.replicate (nN - np) .un) ds = some (.rt x, ds1)) : runB nN np fr m args ds = some (.ok x, ds1) := by unfold runB; rw [h]
theorem gRunNx {nN np : Nat} {m : MS} {args : List Sl} (h : m (args ++ List.replicate (nN - np) .un) ds = some (.nx env', ds1)) : runB nN np false m args ds = some (.ok .none, ds1) := by unfold runB; rw [h]; rfl
theorem gRunEx {nN np : Nat} {fr : Bool} {m : MS} {args : List Sl} {e : Exn} (h : m (args ++ List.replicate (nN - np) .un) ds = some (.ex e env', ds1)) : runB nN np fr m args ds = some (.exc e, ds1) := by unfold runB; rw [h]
theorem gApp {i : Nat} {xs : List PyData} (hs : env[i]? = some (.l xs)) (ha : a env ds = some (.ok x, ds1)) (hl : xs.length < 16777216) : mApp i a env ds = some (.nx (env.set i (.l (xs ++ [x]))), ds1) := by
  rw [mApp_ev, hs]
  dsimp only
  rw [ha]
  dsimp only
  rw [show decide (xs.length < sizeLine) = true from decide_eq_true (by rw [sizeLine_eq]; exact hl), if_pos rfl]
theorem gAsg {t : Tg} (ha : a env ds = some (.ok x, ds1)) (ht : t x env = some env') : mAsg t a env ds = some (.nx env', ds1) := by rw [mAsg_ev, ha]; dsimp only; rw [ht]
end
theorem short_of {n : Nat} (h : n ≤ 16777216) : short n = true := decide_eq_true (by rw [sizeLine_eq]; exact h)
theorem lt_line {n : Nat} (h : n < 16777216) : decide (n < sizeLine) = true := decide_eq_true (by rw [sizeLine_eq]; exact h)
/-! the walks -/
theorem compGo_ev {γ : Type} {e : γ → PyData} {t : Tg} {c : ME Bool} {elt : ME PyData} {p : γ → Bool} {g : γ → PyData} : ∀ (xs : List γ) (acc : List PyData), (∀ x ∈ xs, ∃ env1, t (e x) env = some env1 ∧ c env1 ds = some (.ok (p x), ds) ∧ (p x = true → elt env1 ds = some (.ok (g x), ds))) → acc.length + xs.length ≤ 16777216 →
    compGo t c elt env (xs.map e) ds acc = some (acc ++ (xs.filter p).map g, ds)
  | [], acc, _, _ => by show some (acc, ds) = _; rw [List.filter_nil, List.map_nil, List.append_nil]
  | x :: r, acc, h, hl => by
    obtain ⟨env1, h1, h2, h3⟩ := h x List.mem_cons_self
    rw [List.length_cons] at hl
    show (match t (e x) env with | none => none | some env1 => _) = _
    rw [h1]
    dsimp only
    rw [h2]
    cases hp : p x with
    | true =>
      dsimp only
      rw [h3 hp]
      dsimp only
      rw [lt_line (by omega), if_pos rfl, compGo_ev r (acc ++ [g x]) (fun y hy => h y (List.mem_cons_of_mem _ hy)) (by rw [List.length_append, List.length_singleton]; omega), List.filter_cons, if_pos hp, List.map_cons, List.append_assoc]
      rfl
    | false =>
      dsimp only
      rw [compGo_ev r acc (fun y hy => h y (List.mem_cons_of_mem _ hy)) (by omega), List.filter_cons, if_neg (by rw [hp]; exact Bool.false_ne_true)]
theorem comp_ev {γ : Type} {e : γ → PyData} {xs : List γ} {vs : List Nat} {mi : ME (List PyData)} {t : Tg} {c : ME Bool} {elt : ME PyData} {env1 : Ev} (p : γ → Bool) (g : γ → PyData) (hi : mi env ds = some (.ok (xs.map e), ds)) (hw : wipeE env vs = some env1)
    (h : ∀ x ∈ xs, ∃ env2, t (e x) env1 = some env2 ∧ c env2 ds = some (.ok (p x), ds) ∧ (p x = true → elt env2 ds = some (.ok (g x), ds))) (hl : xs.length ≤ 16777216) : mComp vs mi t c elt env ds = some (.ok ((xs.filter p).map g), ds) := by
  unfold mComp
  rw [mbind_ev, hi, rb_ok, hw]
  dsimp only
  rw [compGo_ev xs [] h (by rw [List.length_nil]; omega)]
  rfl
theorem comp2Go_ev {γ δ : Type} {e : γ → PyData} {e' : δ → PyData} {t : Tg} {c : ME Bool} {mi : ME (List PyData)} {vs1 : List Nat} {t1 : Tg} {c1 : ME Bool} {elt : ME PyData} {ys : γ → List δ} {g : γ → δ → PyData} {b : Nat} : ∀ (xs : List γ) (acc : List PyData),
    (∀ x ∈ xs, (ys x).length ≤ b ∧ ∃ env1 env2, t (e x) env = some env1 ∧ c env1 ds = some (.ok true, ds) ∧ mi env1 ds = some (.ok ((ys x).map e'), ds) ∧ wipeE env1 vs1 = some env2 ∧ ∀ y ∈ ys x, ∃ env3, t1 (e' y) env2 = some env3 ∧ c1 env3 ds = some (.ok true, ds) ∧ elt env3 ds = some (.ok (g x y), ds)) → acc.length + xs.length * b ≤ 16777216 →
    comp2Go t c mi vs1 t1 c1 elt env (xs.map e) ds acc = some (acc ++ xs.flatMap (fun x => (ys x).map (g x)), ds)
  | [], acc, _, _ => by show some (acc, ds) = _; rw [List.flatMap_nil, List.append_nil]
  | x :: r, acc, h, hl => by
    obtain ⟨hb, env1, env2, h1, h2, h3, h4, h5⟩ := h x List.mem_cons_self
    rw [List.length_cons, Nat.succ_mul] at hl
    show (match t (e x) env with | none => none | some env1 => _) = _
    rw [h1]
    dsimp only
    rw [h2]
    dsimp only
    rw [h3]
    dsimp only
    rw [h4]
    dsimp only
    rw [compGo_ev (p := fun _ => true) (g := g x) (ys x) acc (fun y hy => by obtain ⟨env3, q1, q2, q3⟩ := h5 y hy; exact ⟨env3, q1, q2, fun _ => q3⟩) (by omega)]
    dsimp only
    have hf : (ys x).filter (fun _ => true) = ys x := List.filter_eq_self.mpr fun _ _ => rfl
    rw [hf, comp2Go_ev r _ (fun y hy => h y (List.mem_cons_of_mem _ hy)) (by rw [List.length_append, List.length_map]; omega), List.flatMap_cons, List.append_assoc]
theorem comp2_ev {γ δ : Type} {e : γ → PyData} {e' : δ → PyData} {xs : List γ} {vs : List Nat} {m0 mi : ME (List PyData)} {t : Tg} {c : ME Bool} {vs1 : List Nat} {t1 : Tg} {c1 : ME Bool} {elt : ME PyData} {env1 : Ev} (ys : γ → List δ) (g : γ → δ → PyData) (b : Nat) (hi : m0 env ds = some (.ok (xs.map e), ds)) (hw : wipeE env vs = some env1)
    (h : ∀ x ∈ xs, (ys x).length ≤ b ∧ ∃ env2 env3, t (e x) env1 = some env2 ∧ c env2 ds = some (.ok true, ds) ∧ mi env2 ds = some (.ok ((ys x).map e'), ds) ∧ wipeE env2 vs1 = some env3 ∧ ∀ y ∈ ys x, ∃ env4, t1 (e' y) env3 = some env4 ∧ c1 env4 ds = some (.ok true, ds) ∧ elt env4 ds = some (.ok (g x y), ds)) (hl : xs.length * b ≤ 16777216) :
    mComp2 vs m0 t c mi vs1 t1 c1 elt env ds = some (.ok (xs.flatMap fun x => (ys x).map (g x)), ds) := by
  unfold mComp2
  rw [mbind_ev, hi, rb_ok, hw]
  dsimp only
  rw [comp2Go_ev xs [] h (by rw [List.length_nil]; omega)]
  rfl
/-- a comprehension that draws: I holds between, each item is given what P tells -/
theorem compGo_draw {t : Tg} {elt : ME PyData} {I : DS → Prop} {P : PyData → PyData → Prop} : ∀ (items acc : List PyData) (ds : DS), (∀ x ∈ items, ∃ env1, t x env = some env1 ∧ ∀ ds, I ds → ∃ y ds', elt env1 ds = some (.ok y, ds') ∧ I ds' ∧ P x y) → I ds → acc.length + items.length ≤ 16777216 →
    ∃ ys ds', compGo t mYes elt env items ds acc = some (acc ++ ys, ds') ∧ I ds' ∧ Paired P items ys
  | [], acc, ds, _, hI, _ => ⟨[], ds, by rw [List.append_nil]; rfl, hI, .nil⟩
  | x :: r, acc, ds, h, hI, hl => by
    obtain ⟨env1, h1, h2⟩ := h x List.mem_cons_self
    obtain ⟨y, ds1, h3, h4, h5⟩ := h2 ds hI
    rw [List.length_cons] at hl
    obtain ⟨ys, ds', k1, k2, k3⟩ := compGo_draw r (acc ++ [y]) ds1 (fun z hz => h z (List.mem_cons_of_mem _ hz)) h4 (by rw [List.length_append, List.length_singleton]; omega)
    refine ⟨y :: ys, ds', ?_, k2, .cons h5 k3⟩
    show (match t x env with | none => none | some env1 => _) = _
    rw [h1]
    dsimp only
    rw [mYes_ev]
    dsimp only
    rw [h3]
    dsimp only
    rw [lt_line (by omega), if_pos rfl, k1, List.append_assoc]
    rfl
theorem comp_draw {items : List PyData} {vs : List Nat} {mi : ME (List PyData)} {t : Tg} {elt : ME PyData} {env1 : Ev} {I : DS → Prop} {P : PyData → PyData → Prop} (hi : mi env ds = some (.ok items, ds)) (hw : wipeE env vs = some env1)
    (h : ∀ x ∈ items, ∃ env2, t x env1 = some env2 ∧ ∀ ds, I ds → ∃ y ds', elt env2 ds = some (.ok y, ds') ∧ I ds' ∧ P x y) (hI : I ds) (hl : items.length ≤ 16777216) : ∃ ys ds', mComp vs mi t mYes elt env ds = some (.ok ys, ds') ∧ I ds' ∧ Paired P items ys := by
  obtain ⟨ys, ds', k1, k2, k3⟩ := compGo_draw items [] ds h hI (by rw [List.length_nil]; omega)
  refine ⟨ys, ds', ?_, k2, k3⟩
  unfold mComp
  rw [mbind_ev, hi, rb_ok, hw]
  dsimp only
  rw [k1]
  rfl
/-- for, by what holds ahead of each turn -/
theorem for_inv {t : Tg} {body : MS} {I : Nat → Ev → DS → Prop} : ∀ (items : List PyData) (k : Nat) (env : Ev) (ds : DS), (∀ (i : Nat) (x : PyData) (env : Ev) (ds : DS), items[i]? = some x → I (k + i) env ds → ∃ env1 env2 ds2, t x env = some env1 ∧ body env1 ds = some (.nx env2, ds2) ∧ I (k + i + 1) env2 ds2) → I k env ds →
    ∃ env' ds', forGo t body items env ds = some (.nx env', ds') ∧ I (k + items.length) env' ds'
  | [], k, env, ds, _, hI => ⟨env, ds, rfl, hI⟩
  | x :: r, k, env, ds, h, hI => by
    obtain ⟨env1, env2, ds2, h1, h2, h3⟩ := h 0 x env ds rfl hI
    obtain ⟨env', ds', k1, k2⟩ := for_inv (I := I) r (k + 1) env2 ds2 (fun i y e d hy hi => by
      have q := h (i + 1) y e d (by simpa using hy) (by rw [show k + (i + 1) = k + 1 + i by omega]; exact hi)
      rw [show k + (i + 1) + 1 = k + 1 + i + 1 by omega] at q
      exact q) h3
    refine ⟨env', ds', ?_, by rw [List.length_cons, show k + (r.length + 1) = k + 1 + r.length by omega]; exact k2⟩
    show (match t x env with | none => none | some env1 => _) = _
    rw [h1]
    dsimp only
    rw [h2]
    exact k1
/-- while, by a bound of the turns -/
theorem while_inv {c : ME Bool} {body : MS} {I : Nat → Ev → DS → Prop} {Post : Ev → DS → Prop} (h : ∀ (k : Nat) (env : Ev) (ds : DS), I k env ds → (∃ ds', c env ds = some (.ok false, ds') ∧ Post env ds') ∨ ∃ ds1 env2 ds2 j, c env ds = some (.ok true, ds1) ∧ body env ds1 = some (.nx env2, ds2) ∧ j < k ∧ I j env2 ds2) :
    ∀ (n k : Nat) (env : Ev) (ds : DS), k < n → I k env ds → ∃ env' ds', whileGo c body n env ds = some (.nx env', ds') ∧ Post env' ds'
  | 0, k, _, _, hk, _ => absurd hk (Nat.not_lt_zero _)
  | n + 1, k, env, ds, hk, hI => by
    rcases h k env ds hI with ⟨ds', h1, h2⟩ | ⟨ds1, env2, ds2, j, h1, h2, h3, h4⟩
    · exact ⟨env, ds', by show (match c env ds with | some (.ok true, ds1) => _ | some (.ok false, ds1) => _ | some (.exc x, ds1) => _ | none => _) = _; rw [h1], h2⟩
    · obtain ⟨env', ds', k1, k2⟩ := while_inv h n j env2 ds2 (by omega) h4
      refine ⟨env', ds', ?_, k2⟩
      show (match c env ds with | some (.ok true, ds1) => _ | some (.ok false, ds1) => _ | some (.exc x, ds1) => _ | none => _) = _
      rw [h1]
      dsimp only
      rw [h2]
      exact k1
end
end DL

/-! DL16: what repr shows: how long, of which signs; orders of ints. -/
namespace DL
open PySem PySem.Spec L2
open PyProof.Rows hiding St

theorem strOk_of (s : String) : PyData.strOk (Str.ofString s) = true := by
  rw [Str.ofString_eq_toList]
  unfold PyData.strOk
  rw [Array.all_eq_true_iff_forall_mem]
  intro c hc
  have hc : c ∈ s.toList.map Char.toNat := by simpa using hc
  obtain ⟨ch, _, rfl⟩ := List.mem_map.mp hc
  refine decide_eq_true ?_
  have h := ch.valid
  show ch.val.toNat < 1114112
  rcases h with h | h
  · exact Nat.lt_trans h (by decide)
  · exact h.2
theorem strOk_app {a b : Str} (ha : PyData.strOk a = true) (hb : PyData.strOk b = true) : PyData.strOk (a ++ b) = true := by
  unfold PyData.strOk at ha hb ⊢
  rw [Array.all_eq_true_iff_forall_mem] at ha hb ⊢
  intro c hc
  have hc : c ∈ a.cps ++ b.cps := hc
  rcases Array.mem_append.mp hc with h | h
  · exact ha c h
  · exact hb c h
theorem strOk_join : ∀ ts : List Str, (∀ t ∈ ts, PyData.strOk t = true) → PyData.strOk (Str.join ", " ts) = true
  | [], _ => by decide +kernel
  | [x], h => h x List.mem_cons_self
  | x :: y :: r, h => strOk_app (strOk_app (h x List.mem_cons_self) (strOk_of _)) (strOk_join (y :: r) fun t ht => h t (List.mem_cons_of_mem _ ht))
theorem strOk_from : ∀ (ts : List Str) (k : Nat) (acc : Str), PyData.strOk acc = true → (∀ t ∈ ts, PyData.strOk t = true) → PyData.strOk (textFrom k acc ts) = true
  | [], _, _, ha, _ => ha
  | t :: r, k, acc, ha, h => strOk_from r (k + 1) _ (strOk_app (strOk_app ha (strOk_of _)) (h t List.mem_cons_self)) fun u hu => h u (List.mem_cons_of_mem _ hu)
theorem len_join : ∀ ts : List Str, (Str.join ", " ts).length ≤ piled ts
  | [] => Nat.le_refl _
  | x :: r => by have := join_length_add (x :: r) (by simp); omega
theorem len_from : ∀ (ts : List Str) (k : Nat) (acc : Str), (textFrom k acc ts).length ≤ acc.length + piled ts
  | [], _, _ => Nat.le_refl _
  | t :: r, k, acc => by
    refine Nat.le_trans (len_from r (k + 1) _) ?_
    rw [strLen_append, strLen_append, piled_cons]
    have : (((if k > 0 then ", " else "" : String) : Str)).length ≤ 2 := by split <;> decide
    omega
mutual
def cost : PyData → Nat
  | .none => 4
  | .bool _ => 5
  | .int i => if 0 ≤ i ∧ i < 100 then 2 else 100000000
  | .str _ => 100000000
  | .list xs => costs xs + 4
  | .tuple xs => costs xs + 4
  | .dict _ => 100000000
def costs : List PyData → Nat
  | [] => 0
  | x :: r => cost x + 2 + costs r
end
structure Shows (d : PyData) : Prop where
  len : d.shown.length ≤ cost d
  ok : PyData.strOk d.shown = true
  sh : d.showable = true
  nd : d.hasDict = false
theorem small_text : ∀ n : Nat, n < 100 → (Str.ofString (toString (n : Int))).length ≤ 2 := by decide +kernel
mutual
theorem shows : ∀ d : PyData, cost d ≤ 10000000 → Shows d
  | .none, _ => ⟨by decide +kernel, by decide +kernel, rfl, rfl⟩
  | .bool true, _ => ⟨by decide +kernel, by decide +kernel, rfl, rfl⟩
  | .bool false, _ => ⟨by decide +kernel, by decide +kernel, rfl, rfl⟩
  | .int i, h => by
    have hc : 0 ≤ i ∧ i < 100 := by
      by_cases c : 0 ≤ i ∧ i < 100
      · exact c
      · have e : cost (.int i) = 100000000 := by
          show (if 0 ≤ i ∧ i < 100 then 2 else 100000000) = _
          rw [if_neg c]
        omega
    have e : cost (.int i) = 2 := by
      show (if 0 ≤ i ∧ i < 100 then 2 else 100000000) = _
      rw [if_pos hc]
    obtain ⟨n, rfl⟩ : ∃ n : Nat, i = (n : Int) := ⟨i.toNat, by omega⟩
    refine ⟨by rw [e]; exact small_text n (by omega), strOk_of _, ?_, rfl⟩
    show decide ((n : Int).natAbs.log2 < 1920) = true
    refine decide_eq_true ?_
    rw [Int.natAbs_natCast]
    have h0 : ∀ n : Nat, n < 100 → n.log2 < 1920 := by decide +kernel
    exact h0 n (by omega)
  | .str _, h => absurd h (by show ¬ 100000000 ≤ 10000000; decide)
  | .dict _, h => absurd h (by show ¬ 100000000 ≤ 10000000; decide)
  | .list xs, h => by
    have e : cost (.list xs) = costs xs + 4 := rfl
    obtain ⟨h1, h2, h3, h4⟩ := showsAll xs (by omega)
    refine ⟨?_, ?_, h3, h4⟩
    · show (textFrom 0 "[" (PyData.shownAll xs) ++ ("]" : Str)).length ≤ _
      have := len_from (PyData.shownAll xs) 0 "["
      have l1 : (("[" : String) : Str).length = 1 := rfl
      have l2 : (("]" : String) : Str).length = 1 := rfl
      rw [strLen_append, l2, e]
      omega
    · exact strOk_app (strOk_from _ _ _ (strOk_of _) h2) (strOk_of _)
  | .tuple xs, h => by
    have e : cost (.tuple xs) = costs xs + 4 := rfl
    obtain ⟨h1, h2, h3, h4⟩ := showsAll xs (by omega)
    refine ⟨?_, ?_, h3, h4⟩
    · show (("(" : Str) ++ Str.join ", " (PyData.shownAll xs) ++ (((if (PyData.shownAll xs).length == 1 then ",)" else ")" : String) : Str))).length ≤ _
      have := len_join (PyData.shownAll xs)
      have l1 : (("(" : String) : Str).length = 1 := rfl
      have l2 : (((if (PyData.shownAll xs).length == 1 then ",)" else ")" : String) : Str)).length ≤ 2 := by split <;> decide
      rw [strLen_append, strLen_append, l1, e]
      omega
    · exact strOk_app (strOk_app (strOk_of _) (strOk_join _ h2)) (strOk_of _)
theorem showsAll : ∀ xs : List PyData, costs xs ≤ 10000000 → piled (PyData.shownAll xs) ≤ costs xs ∧ (∀ t ∈ PyData.shownAll xs, PyData.strOk t = true) ∧ PyData.showableAll xs = true ∧ PyData.hasDictAll xs = false
  | [], _ => ⟨Nat.le_refl _, (fun _ h => nomatch h), rfl, rfl⟩
  | x :: r, h => by
    have e : costs (x :: r) = cost x + 2 + costs r := rfl
    obtain ⟨a1, a2, a3, a4⟩ := shows x (by omega)
    obtain ⟨b1, b2, b3, b4⟩ := showsAll r (by omega)
    refine ⟨?_, fun t ht => ?_, ?_, ?_⟩
    · show piled (x.shown :: PyData.shownAll r) ≤ _
      rw [piled_cons, e]
      omega
    · rcases List.mem_cons.mp (show t ∈ x.shown :: PyData.shownAll r from ht) with q | q
      · subst q; exact a2
      · exact b2 t q
    · show (x.showable && PyData.showableAll r) = true
      rw [a3, b3]; rfl
    · show (x.hasDict || PyData.hasDictAll r) = false
      rw [a4, b4]; rfl
end
/-- repr of small data -/
theorem fRepr_ok {d : PyData} (h1 : isSeq d = true) (h2 : cost d ≤ 10000000) (h3 : d.depth ≤ 60) : fRepr d = some (.str d.shown) ∧ SeqAt.shaped (.str d.shown) = true := by
  obtain ⟨a1, a2, a3, a4⟩ := shows d h2
  refine ⟨?_, ?_⟩
  · unfold fRepr
    rw [h1, a3, a4, decide_eq_true h3, show short d.shown.length = true from decide_eq_true (by rw [sizeLine_eq]; omega)]
    rfl
  · unfold SeqAt.shaped
    rw [show (PyData.str d.shown).canLay0 = true from a2]
    rfl
theorem eqv_str (x : Str) : PyData.eqv (.str x) (.str x) = true := beq_self_eq_true x
/-- how much lists of small data cost -/
theorem costs_le {k : Nat} : ∀ xs : List PyData, (∀ x ∈ xs, cost x ≤ k) → costs xs ≤ (k + 2) * xs.length
  | [], _ => Nat.zero_le _
  | x :: r, h => by
    have h1 := h x List.mem_cons_self
    have h2 := costs_le r fun y hy => h y (List.mem_cons_of_mem _ hy)
    rw [List.length_cons, Nat.mul_succ]
    show cost x + 2 + costs r ≤ _
    omega
theorem depthAll_le {k : Nat} : ∀ xs : List PyData, (∀ x ∈ xs, x.depth ≤ k) → PyData.depthAll xs ≤ k
  | [], _ => Nat.zero_le _
  | x :: r, h => by
    have h1 := h x List.mem_cons_self
    have h2 := depthAll_le r fun y hy => h y (List.mem_cons_of_mem _ hy)
    have e : PyData.depthAll (x :: r) = max x.depth (PyData.depthAll r) := by first | rfl | rw [PyData.depthAll]
    rw [e]
    exact Nat.max_le.mpr ⟨h1, h2⟩
theorem depth_tuple (xs : List PyData) : (PyData.tuple xs).depth = PyData.depthAll xs + 1 := by first | rfl | simp [PyData.depth] | (simp [PyData.depth]; omega)
theorem depth_list (xs : List PyData) : (PyData.list xs).depth = PyData.depthAll xs + 1 := by first | rfl | simp [PyData.depth] | (simp [PyData.depth]; omega)
/-! ### ints in order -/
def sortI (l : List Int) : List Int := sortB (fun a b => decide (a < b)) l
theorem insB_map {α β : Type} {lt : α → α → Bool} {lt' : β → β → Bool} (f : α → β) (h : ∀ a b, lt' (f a) (f b) = lt a b) (x : α) : ∀ l : List α, insB lt' (f x) (l.map f) = (insB lt x l).map f
  | [] => rfl
  | y :: r => by
    show (if lt' (f y) (f x) then f y :: insB lt' (f x) (r.map f) else f x :: f y :: r.map f) = (if lt y x then y :: insB lt x r else x :: y :: r).map f
    rw [h, insB_map f h x r]
    by_cases c : lt y x = true
    · rw [if_pos c, if_pos c]; rfl
    · rw [if_neg c, if_neg c]; rfl
theorem sortB_map {α β : Type} {lt : α → α → Bool} {lt' : β → β → Bool} (f : α → β) (h : ∀ a b, lt' (f a) (f b) = lt a b) : ∀ l : List α, sortB lt' (l.map f) = (sortB lt l).map f
  | [] => rfl
  | x :: r => by
    show insB lt' (f x) (sortB lt' (r.map f)) = _
    rw [sortB_map f h r, insB_map f h x]
    rfl
theorem sorts_ints (l : List Int) : sorts (l.map .int) = true := by
  unfold sorts
  rw [PySem.W.depth_ints, Bool.and_eq_true, Bool.and_eq_true, Bool.or_eq_true, Bool.or_eq_true]
  refine ⟨⟨List.all_eq_true.mpr fun d hd => List.all_eq_true.mpr fun e he => ?_, .inl (.inr (List.all_eq_true.mpr fun d hd => ?_))⟩, rfl⟩
  · obtain ⟨a, _, rfl⟩ := List.mem_map.mp hd
    obtain ⟨b, _, rfl⟩ := List.mem_map.mp he
    rfl
  · obtain ⟨a, _, rfl⟩ := List.mem_map.mp hd
    rfl
theorem fSort_ints (l : List Int) : fSort (.list (l.map .int)) = some ((sortI l).map .int) := by
  unfold fSort
  dsimp only
  rw [sorts_ints, if_pos rfl]
  exact congrArg some (sortB_map (lt := fun a b => decide (a < b)) PyData.int (fun a b => rfl) l)
theorem sortI_mem {l : List Int} {x : Int} : x ∈ sortI l ↔ x ∈ l := (sortB_perm l).mem_iff
theorem int_total : PySem.W.TotalLe (fun a b : Int => decide (a ≤ b)) where
  total a b := by rcases Int.le_total a b with h | h <;> simp [h]
  trans a b c h1 h2 := by
    have h1 := of_decide_eq_true h1
    have h2 := of_decide_eq_true h2
    exact decide_eq_true (Int.le_trans h1 h2)
theorem sortI_le (l : List Int) : (sortI l).Pairwise (· ≤ ·) := by
  have e : (fun a b : Int => !decide (b ≤ a)) = fun a b => decide (a < b) := by
    funext a b
    by_cases h : a < b
    · rw [decide_eq_true h, decide_eq_false (by omega)]; rfl
    · rw [decide_eq_false h, decide_eq_true (by omega)]; rfl
  have q := sortB_pair int_total l
  rw [e] at q
  exact q.imp fun h => of_decide_eq_true h
/-- sorted of ints each met once -/
theorem sortI_nodup {l : List Int} (h : l.Nodup) : sortI l = sortU l := by
  refine pair_one ?_ (sortU_pair l) fun k => by rw [sortI_mem, sortU_mem]
  have n : (sortI l).Nodup := (sortB_perm l).nodup_iff.mpr h
  exact (List.Pairwise.and (sortI_le l) n).imp fun ⟨a, b⟩ => by omega
theorem nodup_len : ∀ {l m : List Int}, l.Nodup → (∀ x ∈ l, x ∈ m) → l.length ≤ m.length
  | [], _, _, _ => Nat.zero_le _
  | x :: r, m, h, hs => by
    rw [List.nodup_cons] at h
    have hm := hs x List.mem_cons_self
    have h2 : ∀ y ∈ r, y ∈ m.erase x := fun y hy => (List.mem_erase_of_ne (fun e => h.1 (by rw [← e]; exact hy))).mpr (hs y (List.mem_cons_of_mem _ hy))
    have q := nodup_len h.2 h2
    rw [List.length_erase_of_mem hm] at q
    have := List.length_pos_of_mem hm
    rw [List.length_cons]
    omega
end DL

/-! DL17: one's own dicts. -/
namespace DL
open PySem PySem.Spec L2
open PyProof.Rows hiding St

section
variable {K : PySem.W.Frag} {Γ : Gm} {σ : St} {H H1 : Hp} {env env' : Ev} {ds ds1 : DS}
/-- a slot is stored with a new dict -/
theorem Rel.set_dc (R : Rel K Γ σ H env ds) (e : Ext Γ H H1) (d : DrR K Γ H1 ds1) {i : Nat} {p : Addr} {us : List V} {t : Bool} {xs : List (List Int × PyData)} (hf : H p = none) (hH : H1 p = some (dcObj t (xs.map (·.1)) us)) (hl : xs.length ≤ 1000000) (hA : DfAll K H1 (gdx Γ σ env p) us (xs.map (·.2))) (hp : put i (.dc t xs) env = some env') :
    Rel K Γ (σ.set i (some (.ref p))) H1 env' ds1 := by
  obtain ⟨h1, h2, rfl⟩ := put_some hp
  have h3 : i < σ.length := by rw [R.len]; exact h2
  have R1 := R.go e d
  have np := R.new_gd hf
  -- what owns afterwards: p, or another slot
  have ow : ∀ a, owned (σ.set i (some (.ref p))) (env.set i (.dc t xs)) a → a = p ∨ owned σ env a := by
    rintro a ⟨j, y, q1, q2, q3⟩
    by_cases z : i = j
    · subst z
      rw [List.getElem?_set_self h3] at q3
      cases q3
      exact .inl rfl
    · rw [List.getElem?_set_ne z] at q1 q3
      exact .inr ⟨j, y, q1, q2, q3⟩
  have gx : ∀ a, gd Γ σ env a → a ≠ p → gd Γ (σ.set i (some (.ref p))) (env.set i (.dc t xs)) a := fun a q n => ⟨q.1, fun z => (ow a z).elim n q.2.1, q.2.2⟩
  -- what was told at H keeps away from p
  have keep : ∀ {v : Option (Option V)} {y : Sl}, SlR K Γ H (gd Γ σ env) v y → SlR K Γ H1 (gd Γ (σ.set i (some (.ref p))) (env.set i (.dc t xs))) v y := by
    intro v y q
    have m : ∀ {u : V} {x : PyData}, Df K H (gd Γ σ env) u x → Df K H1 (gd Γ (σ.set i (some (.ref p))) (env.set i (.dc t xs))) u x := fun q =>
      (q.avoid hf).mono (fun a u z k => ⟨gx a z.1 z.2, e a _ z.1.2.2 k⟩) fun _ _ z => tup_ext e R.draw z
    have ms : ∀ {u : List V} {x : List PyData}, DfAll K H (gd Γ σ env) u x → DfAll K H1 (gd Γ (σ.set i (some (.ref p))) (env.set i (.dc t xs))) u x := fun q =>
      (q.avoid hf).mono (fun a u z k => ⟨gx a z.1 z.2, e a _ z.1.2.2 k⟩) fun _ _ z => tup_ext e R.draw z
    cases y with
    | un => trivial
    | d x =>
      obtain ⟨u, q1, q2⟩ := q
      exact ⟨u, q1, m q2⟩
    | l x =>
      obtain ⟨a, u, q1, q2, q3, q4, q5, q6⟩ := q
      exact ⟨a, u, q1, e a _ q6 q2, ms q3, q4, q5, q6⟩
    | lk x =>
      obtain ⟨a, u, q1, q2, q3, q4, q5, q6⟩ := q
      exact ⟨a, u, q1, e a _ q6 q2, ms q3, q4, q5, q6⟩
    | dc t0 x =>
      obtain ⟨a, u, q1, q2, q3, q4, q5, q6⟩ := q
      exact ⟨a, u, q1, e a _ q6 q2, ms q3, q4, q5, q6⟩
    | drw => exact q
    | scr ns =>
      obtain ⟨a, q1, q2, q3⟩ := q
      exact ⟨a, q1, scr_ext e R.draw q2, q3⟩
  have free : Γ.H0 p = none := by
    cases q : Γ.H0 p with
    | none => rfl
    | some o =>
      have := R.ext p o np.2.2 q
      rw [hf] at this
      cases this
  -- an owning slot stands elsewhere
  have apart : ∀ (j : Nat) (y : Sl), env[j]? = some y → y.own = true → σ[j]? ≠ some (some (.ref p)) := fun j y hy oy z => by
    obtain ⟨us', q, _⟩ := R.own_at ⟨j, y, hy, oy, z⟩
    rw [hf] at q
    cases q
  refine ⟨by rw [List.length_set, List.length_set]; exact R.len, fun j y hy => ?_, fun j k y z hjk hj hk oj ok => ?_, R.okf, R1.ext, d, fun q eq z => ?_, fun q hq => ?_⟩
  · by_cases z : i = j
    · subst z
      rw [List.getElem?_set_self h2] at hy
      cases hy
      rw [List.getElem?_set_self h3]
      exact ⟨p, us, rfl, hH, hA.mono (fun a u q k => ⟨gx a q.1 q.2, k⟩) (fun _ _ q => q), hl, free, np.2.2⟩
    · rw [List.getElem?_set_ne z] at hy ⊢
      exact keep (R.slot j y hy)
  · by_cases n1 : i = j
    · subst n1
      have n2 : i ≠ k := hjk
      rw [List.getElem?_set_ne n2] at hk ⊢
      rw [List.getElem?_set_self h3]
      exact fun z' => apart k z hk ok z'.symm
    · rw [List.getElem?_set_ne n1] at hj ⊢
      by_cases n2 : i = k
      · subst n2
        rw [List.getElem?_set_self h3]
        exact fun z' => apart j y hj oj z'
      · rw [List.getElem?_set_ne n2] at hk ⊢
        exact R.sep j k y z hjk hj hk oj ok
  · rcases ow _ z with z | z
    · -- the cells' list was there at H
      have dd := R.draw
      unfold DrR at dd
      rw [eq] at dd
      cases hds : ds with
      | none => rw [hds] at dd; exact dd
      | some s =>
        rw [hds] at dd
        have := dd.2.1
        rw [z, hf] at this
        cases this
    · exact R.drc q eq z
  · obtain ⟨ys, e1, e2⟩ := R.lkd q hq
    have n1 : i ≠ q.1 := fun z => by
      subst z
      exact h1 ys e1
    exact ⟨ys, by rw [List.getElem?_set_ne n1]; exact e1, by rw [List.getElem?_set_ne n1]; exact e2⟩
/-- one's own dict is changed -/
theorem Rel.upd_dc (R : Rel K Γ σ H env ds) {i : Nat} {a : Addr} {us' : List V} {t : Bool} {xs xs' : List (List Int × PyData)} (hs : env[i]? = some (.dc t xs)) (hv : σ[i]? = some (some (.ref a))) (hl : xs'.length ≤ 1000000) (hA : DfAll K H (gd Γ σ env) us' (xs'.map (·.2))) :
    Rel K Γ σ (upd H a (dcObj t (xs'.map (·.1)) us')) (env.set i (.dc t xs')) ds := by
  have q := R.slot i _ hs
  obtain ⟨b, us0, e1, e2, e3, e4, e5, e6⟩ := q
  rw [hv] at e1
  cases e1
  have h2 : i < env.length := (List.getElem?_eq_some_iff.mp hs).1
  have oa : owned σ env a := ⟨i, _, hs, rfl, hv⟩
  have ow : ∀ c, owned σ (env.set i (.dc t xs')) c ↔ owned σ env c := fun c => by
    constructor
    · rintro ⟨j, y, q1, q2, q3⟩
      by_cases z : i = j
      · subst z
        exact ⟨i, _, hs, rfl, q3⟩
      · rw [List.getElem?_set_ne z] at q1
        exact ⟨j, y, q1, q2, q3⟩
    · rintro ⟨j, y, q1, q2, q3⟩
      by_cases z : i = j
      · subst z
        exact ⟨i, .dc t xs', by rw [List.getElem?_set_self h2], rfl, q3⟩
      · exact ⟨j, y, by rw [List.getElem?_set_ne z]; exact q1, q2, q3⟩
  have gg : ∀ c, gd Γ σ env c → gd Γ σ (env.set i (.dc t xs')) c ∧ c ≠ a := fun c q => ⟨⟨q.1, fun z => q.2.1 ((ow c).mp z), q.2.2⟩, fun z => q.2.1 (by rw [z]; exact oa)⟩
  have tq : ∀ c u, H c = some (.tup u) → upd H a (dcObj t (xs'.map (·.1)) us') c = some (.tup u) := fun c u q => by
    rw [upd_ne (ne_of q e2 (by intro z; cases t <;> cases z))]; exact q
  have m : ∀ {u : V} {x : PyData}, Df K H (gd Γ σ env) u x → Df K (upd H a (dcObj t (xs'.map (·.1)) us')) (gd Γ σ (env.set i (.dc t xs'))) u x := fun q =>
    q.mono (fun c u z k => ⟨(gg c z).1, by rw [upd_ne (gg c z).2]; exact k⟩) tq
  have ms : ∀ {u : List V} {x : List PyData}, DfAll K H (gd Γ σ env) u x → DfAll K (upd H a (dcObj t (xs'.map (·.1)) us')) (gd Γ σ (env.set i (.dc t xs'))) u x := fun q =>
    q.mono (fun c u z k => ⟨(gg c z).1, by rw [upd_ne (gg c z).2]; exact k⟩) tq
  refine ⟨by rw [List.length_set]; exact R.len, fun j y hy => ?_, fun j k y z hjk hj hk oj ok => ?_, R.okf, fun c o n q => ?_, ?_, fun p e z => R.drc p e ((ow _).mp z), fun p hp => ?_⟩
  · by_cases z : i = j
    · subst z
      rw [List.getElem?_set_self h2] at hy
      cases hy
      exact ⟨a, us', hv, upd_same, ms hA, hl, e5, e6⟩
    · rw [List.getElem?_set_ne z] at hy
      have q := R.slot j y hy
      have ne : ∀ b, y.own = true → σ[j]? = some (some (.ref b)) → b ≠ a := fun b oy e w => R.sep i j _ y z hs hy rfl oy (by rw [hv, e, w])
      cases y with
      | un => trivial
      | d x =>
        obtain ⟨u, q1, q2⟩ := q
        exact ⟨u, q1, m q2⟩
      | l x =>
        obtain ⟨b, u, q1, q2, q3, q4⟩ := q
        exact ⟨b, u, q1, by rw [upd_ne (ne b rfl q1)]; exact q2, ms q3, q4⟩
      | lk x =>
        obtain ⟨b, u, q1, q2, q3, q4⟩ := q
        exact ⟨b, u, q1, by rw [upd_ne (ne b rfl q1)]; exact q2, ms q3, q4⟩
      | dc t0 x =>
        obtain ⟨b, u, q1, q2, q3, q4⟩ := q
        exact ⟨b, u, q1, by rw [upd_ne (ne b rfl q1)]; exact q2, ms q3, q4⟩
      | drw => exact q
      | scr ns =>
        obtain ⟨b, q1, q2, q3⟩ := q
        refine ⟨b, q1, ?_, q3⟩
        rcases q2 with ⟨o, q2⟩ | q2
        · refine .inl ⟨o, ?_⟩
          rw [upd_ne (ne_of q2 e2 (by intro z; cases t <;> cases z))]
          exact q2
        · exact .inr q2
  · have hj' : ∃ y', env[j]? = some y' ∧ y'.own = true := by
      by_cases z : i = j
      · subst z; exact ⟨_, hs, rfl⟩
      · rw [List.getElem?_set_ne z] at hj; exact ⟨y, hj, oj⟩
    have hk' : ∃ y', env[k]? = some y' ∧ y'.own = true := by
      by_cases z : i = k
      · subst z; exact ⟨_, hs, rfl⟩
      · rw [List.getElem?_set_ne z] at hk; exact ⟨_, hk, ok⟩
    obtain ⟨y1, q1, q2⟩ := hj'
    obtain ⟨y2, q3, q4⟩ := hk'
    exact R.sep j k y1 y2 hjk q1 q3 q2 q4
  · have w := R.ext c o n q
    have : c ≠ a := fun z => by rw [z, e5] at q; cases q
    rw [upd_ne this]
    exact w
  · have dd := R.draw
    unfold DrR at dd ⊢
    cases hdr : Γ.dr with
    | none =>
      rw [hdr] at dd
      cases ds with
      | none => trivial
      | some s => exact dd
    | some p =>
      rw [hdr] at dd
      cases ds with
      | none => exact dd
      | some s =>
        obtain ⟨d1, d2, d3⟩ := dd
        refine ⟨by rw [upd_ne fun z => e6 p hdr z.symm]; exact d1, ?_, d3⟩
        have : p.2 ≠ a := fun z => R.drc p hdr (by rw [z]; exact oa)
        rw [upd_ne this]
        exact d2
  · obtain ⟨ys, q1, q2⟩ := R.lkd p hp
    have n1 : i ≠ p.1 := fun z => by
      subst z
      rw [hs] at q1
      cases q1
    exact ⟨ys, by rw [List.getElem?_set_ne n1]; exact q1, q2⟩
end
/-! ### dicts as lists of pairs -/
def keyEq (t : Bool) (a b : List Int) : Bool := if t then a == b else a.headD 0 == b.headD 0
def dGet (t : Bool) (kvs : List (List Int × PyData)) (k : List Int) : Option PyData := (kvs.find? fun p => keyEq t p.1 k).map (·.2)
def dPut (t : Bool) (kvs : List (List Int × PyData)) (k : List Int) (x : PyData) : List (List Int × PyData) := if kvs.any (fun p => keyEq t p.1 k) then kvs.map (fun p => if keyEq t p.1 k then (p.1, x) else p) else kvs ++ [(k, x)]
def keyOf (t : Bool) (d : PyData) : Option (List Int) := match t, d with
  | true, .tuple ds => intsOf ds
  | false, .int n => some [n]
  | _, _ => none
section
variable {K : PySem.W.Frag} {H : Hp} {g : Addr → Prop} {κ : Type} [DecidableEq κ] {f : List Int → κ} {t : Bool}
theorem zip_get (hf : ∀ a b, decide (f a = f b) = keyEq t a b) (k : List Int) : ∀ (kvs : List (List Int × PyData)) (us : List V), DfAll K H g us (kvs.map (·.2)) → (L2.valV (((kvs.map (·.1)).map f).zip us) (f k) = none ∧ dGet t kvs k = none) ∨ ∃ v x, L2.valV (((kvs.map (·.1)).map f).zip us) (f k) = some v ∧ dGet t kvs k = some x ∧ Df K H g v x
  | [], _, .nil => .inl ⟨rfl, rfl⟩
  | p :: r, _, .cons (v := v) (vs := vs) h tl => by
    have e := hf p.1 k
    unfold dGet
    rw [List.find?_cons]
    by_cases c : f p.1 = f k
    · rw [decide_eq_true c] at e
      rw [← e]
      exact .inr ⟨v, p.2, L2.valV_pos (p := (f p.1, v)) c, rfl, h⟩
    · rw [decide_eq_false c] at e
      rw [← e]
      have q : L2.valV ((((p :: r).map (·.1)).map f).zip (v :: vs)) (f k) = L2.valV (((r.map (·.1)).map f).zip vs) (f k) := L2.valV_neg (p := (f p.1, v)) c
      rw [q]
      exact zip_get hf k r vs tl
theorem zip_rep (hf : ∀ a b, decide (f a = f b) = keyEq t a b) (k : List Int) {v : V} {x : PyData} (hv : Df K H g v x) : ∀ (kvs : List (List Int × PyData)) (us : List V), DfAll K H g us (kvs.map (·.2)) →
    ∃ us', (((kvs.map (·.1)).map f).zip us).map (fun kv => if kv.1 = f k then (kv.1, v) else kv) = (((kvs.map fun p => if keyEq t p.1 k then (p.1, x) else p).map (·.1)).map f).zip us' ∧ DfAll K H g us' ((kvs.map fun p => if keyEq t p.1 k then (p.1, x) else p).map (·.2))
  | [], _, .nil => ⟨[], rfl, .nil⟩
  | p :: r, _, .cons (v := w) (vs := vs) h tl => by
    obtain ⟨us', e1, e2⟩ := zip_rep hf k hv r vs tl
    have e := hf p.1 k
    by_cases c : f p.1 = f k
    · rw [decide_eq_true c] at e
      refine ⟨v :: us', ?_, ?_⟩
      · show (if f p.1 = f k then (f p.1, v) else (f p.1, w)) :: List.map _ _ = ((f (if keyEq t p.1 k then (p.1, x) else p).1), v) :: _
        rw [if_pos c, ← e, if_pos rfl]
        exact congrArg _ e1
      · show DfAll K H g _ ((if keyEq t p.1 k then (p.1, x) else p).2 :: _)
        rw [← e, if_pos rfl]
        exact .cons hv e2
    · rw [decide_eq_false c] at e
      refine ⟨w :: us', ?_, ?_⟩
      · show (if f p.1 = f k then (f p.1, v) else (f p.1, w)) :: List.map _ _ = ((f (if keyEq t p.1 k then (p.1, x) else p).1), w) :: _
        rw [if_neg c, ← e, if_neg Bool.false_ne_true]
        exact congrArg _ e1
      · show DfAll K H g _ ((if keyEq t p.1 k then (p.1, x) else p).2 :: _)
        rw [← e, if_neg Bool.false_ne_true]
        exact .cons h e2
theorem zip_any (hf : ∀ a b, decide (f a = f b) = keyEq t a b) (k : List Int) : ∀ (kvs : List (List Int × PyData)) (us : List V), us.length = kvs.length → ((((kvs.map (·.1)).map f).zip us).any fun kv => decide (kv.1 = f k)) = kvs.any fun p => keyEq t p.1 k
  | [], _, _ => rfl
  | p :: r, [], h => by cases h
  | p :: r, v :: vs, h => by
    show (decide (f p.1 = f k) || _) = (keyEq t p.1 k || _)
    rw [hf]
    exact congrArg _ (zip_any hf k r vs (by simpa using h))
theorem zip_put (hf : ∀ a b, decide (f a = f b) = keyEq t a b) (k : List Int) {v : V} {x : PyData} (hv : Df K H g v x) (kvs : List (List Int × PyData)) (us : List V) (h : DfAll K H g us (kvs.map (·.2))) :
    ∃ us', L2.putK (((kvs.map (·.1)).map f).zip us) (f k) v = (((dPut t kvs k x).map (·.1)).map f).zip us' ∧ DfAll K H g us' ((dPut t kvs k x).map (·.2)) := by
  have ln : us.length = kvs.length := by rw [h.length, List.length_map]
  unfold L2.putK dPut
  rw [zip_any hf k kvs us ln]
  by_cases c : (kvs.any fun p => keyEq t p.1 k) = true
  · rw [if_pos c, if_pos c]
    exact zip_rep hf k hv kvs us h
  · rw [if_neg c, if_neg c]
    refine ⟨us ++ [v], ?_, ?_⟩
    · rw [List.map_append, List.map_append, List.zip_append (by rw [List.length_map, List.length_map, ln])]
      rfl
    · rw [List.map_append]
      exact h.append (.cons hv .nil)
end
theorem inlK (a b : List Int) : decide (a.map (Sum.inl : Int → Key) = b.map Sum.inl) = keyEq true a b := by
  show _ = (a == b)
  by_cases h : a = b
  · subst h; simp
  · rw [beq_eq_false_iff_ne.mpr h]
    refine decide_eq_false fun q => h ?_
    exact (List.map_inj_right (fun x y z => by cases z; rfl)).mp q
theorem headK (a b : List Int) : decide ((Sum.inl (a.headD 0) : Key) = Sum.inl (b.headD 0)) = keyEq false a b := by
  show _ = (a.headD 0 == b.headD 0)
  by_cases h : a.headD 0 = b.headD 0
  · rw [h]; simp
  · rw [beq_eq_false_iff_ne.mpr h]
    exact decide_eq_false fun q => h (Sum.inl.inj q)
section
variable {K : PySem.W.Frag} {H : Hp} {g : Addr → Prop} {t : Bool} {a : Addr} {kvs : List (List Int × PyData)} {us : List V} {y : V} {d : PyData} {k : List Int}
/-- a key by its value -/
theorem key_v (hy : Df K H g y d) (hk : keyOf t d = some k) : (t = true ∧ ∃ b, y = .ref b ∧ H b = some (.tup ((k.map (Sum.inl : Int → Key)).map kV))) ∨ (t = false ∧ y = kV (.inl (k.headD 0))) := by
  unfold keyOf at hk
  split at hk
  · cases hy with
    | tup h1 h2 h3 =>
      obtain rfl := intsOf_eq hk
      have e := h3.ints_inv
      subst e
      refine .inl ⟨rfl, _, rfl, ?_⟩
      rw [h1, List.map_map]
      rfl
  · cases hk
    cases hy
    exact .inr ⟨rfl, rfl⟩
  · cases hk
theorem dc_get (h : H a = some (dcObj t (kvs.map (·.1)) us)) (hA : DfAll K H g us (kvs.map (·.2))) (hy : Df K H g y d) (hk : keyOf t d = some k) : (DGet H a y none ∧ dGet t kvs k = none) ∨ ∃ v x, DGet H a y (some v) ∧ dGet t kvs k = some x ∧ Df K H g v x := by
  rcases key_v hy hk with ⟨rfl, b, rfl, hb⟩ | ⟨rfl, rfl⟩
  · have G := DGet.t (k := k.map Sum.inl) (show H a = some (.dT (((kvs.map (·.1)).map fun k => k.map Sum.inl).zip us)) from h) hb
    rcases zip_get (f := fun k => k.map (Sum.inl : Int → Key)) (t := true) inlK k kvs us hA with ⟨q1, q2⟩ | ⟨v, x, q1, q2, q3⟩
    · rw [q1] at G; exact .inl ⟨G, q2⟩
    · rw [q1] at G; exact .inr ⟨v, x, G, q2, q3⟩
  · have G := DGet.k (k := Sum.inl (k.headD 0)) (show H a = some (.dK (((kvs.map (·.1)).map fun k => Sum.inl (k.headD 0)).zip us)) from h)
    rcases zip_get (f := fun k => (Sum.inl (k.headD 0) : Key)) (t := false) headK k kvs us hA with ⟨q1, q2⟩ | ⟨v, x, q1, q2, q3⟩
    · rw [q1] at G; exact .inl ⟨G, q2⟩
    · rw [q1] at G; exact .inr ⟨v, x, G, q2, q3⟩
theorem dc_put {v : V} {x : PyData} (h : H a = some (dcObj t (kvs.map (·.1)) us)) (hA : DfAll K H g us (kvs.map (·.2))) (hy : Df K H g y d) (hk : keyOf t d = some k) (hv : Df K H g v x) (hl : kvs.length < 1000000) : ∃ us', DPut H a y v (upd H a (dcObj t ((dPut t kvs k x).map (·.1)) us')) ∧ DfAll K H g us' ((dPut t kvs k x).map (·.2)) := by
  have ln : us.length = kvs.length := by rw [hA.length, List.length_map]
  have sl := sizeLine_eq
  rcases key_v hy hk with ⟨rfl, b, rfl, hb⟩ | ⟨rfl, rfl⟩
  · obtain ⟨us', e1, e2⟩ := zip_put (f := fun k => k.map (Sum.inl : Int → Key)) (t := true) inlK k hv kvs us hA
    have P := DPut.t (k := k.map Sum.inl) (v := v) (show H a = some (.dT (((kvs.map (·.1)).map fun k => k.map Sum.inl).zip us)) from h) hb (by rw [List.length_zip, List.length_map, List.length_map, ln, Nat.min_self]; omega)
    rw [e1] at P
    exact ⟨us', P, e2⟩
  · obtain ⟨us', e1, e2⟩ := zip_put (f := fun k => (Sum.inl (k.headD 0) : Key)) (t := false) headK k hv kvs us hA
    have P := DPut.k (k := Sum.inl (k.headD 0)) (v := v) (show H a = some (.dK (((kvs.map (·.1)).map fun k => Sum.inl (k.headD 0)).zip us)) from h) (by rw [List.length_zip, List.length_map, List.length_map, ln, Nat.min_self]; omega)
    rw [e1] at P
    exact ⟨us', P, e2⟩
end
end DL

/-! DL18: dicts in the text: d[k], in, d.get, d[k] = v, displays. -/
namespace DL
open PySem PySem.Spec L2
open PyProof.Rows hiding St

/-! ### the meanings -/
def onD {α : Type} (i : Nat) (f : Bool → List (List Int × PyData) → ME α) : ME α := fun env ds => match env[i]? with
  | some (.dc t kvs) => f t kvs env ds
  | _ => none
/-- what stands under a key, if anything -/
def look (t : Bool) (kvs : List (List Int × PyData)) (d : PyData) : Option (Option PyData) := (keyOf t d).map (dGet t kvs)
def mDget (i : Nat) (k : ME PyData) : ME PyData := onD i fun t kvs => k.bind fun d => ME.lift ((look t kvs d).bind id)
def mDin (i : Nat) (k : ME PyData) : ME PyData := k.bind fun d => onD i fun t kvs => ME.lift ((look t kvs d).map fun o => .bool o.isSome)
def mDnot (i : Nat) (k : ME PyData) : ME PyData := k.bind fun d => onD i fun t kvs => ME.lift ((look t kvs d).map fun o => .bool (!o.isSome))
def mDget2 (i : Nat) (k x : ME PyData) : ME PyData := onD i fun t kvs => k.bind fun d => x.bind fun y => ME.lift ((look t kvs d).map fun o => o.getD y)
def mDput (i : Nat) (k x : ME PyData) : MS := exS x fun y env ds => match env[i]? with
  | some (.dc t kvs) => exS k (fun d env ds => match keyOf t d with
    | some z => if decide (kvs.length < 1000000) then some (.nx (env.set i (.dc t (dPut t kvs z y))), ds) else none
    | none => none) env ds
  | _ => none
abbrev DcL := List (List Int × PyData)
def mDempty : ME DcL := ME.pure []
def mDone (t : Bool) (k x : ME PyData) : ME DcL := k.bind fun d => x.bind fun y => ME.lift ((keyOf t d).map fun z => [(z, y)])
def mSetD (i : Nat) (t : Bool) (m : ME DcL) : MS := exS m fun kvs env ds => if decide (kvs.length ≤ 1000000) then match put i (.dc t kvs) env with
    | some env' => some (.nx env', ds)
    | none => none
  else none

section
variable {X : Cx} {C : Exs} {W : WX} {fr : Bool} {e e2 : Expr} {mk mx : ME PyData} {p pos pos' : Pos} {x : Str}
theorem dc_at {K : PySem.W.Frag} {Γ : Gm} {σ : St} {H H1 : Hp} {env : Ev} {ds ds1 : DS} (R : Rel K Γ σ H env ds) {i : Nat} {t : Bool} {kvs : DcL} (h : env[i]? = some (.dc t kvs)) (x1 : Ext Γ H H1) (d1 : DrR K Γ H1 ds1) : ∃ a us, σ[i]? = some (some (V.ref a)) ∧ H1 a = some (dcObj t (kvs.map (·.1)) us) ∧ DfAll K H1 (gd Γ σ env) us (kvs.map (·.2)) ∧ kvs.length ≤ 1000000 := by
  obtain ⟨a, us, q1, q2, q3, q4, _⟩ := (R.go x1 d1).slot i _ h
  exact ⟨a, us, q1, q2, q3, q4⟩
theorem look_rd {K : PySem.W.Frag} {H : Hp} {g : Addr → Prop} {t : Bool} {a : Addr} {kvs : DcL} {us : List V} {y : V} {d : PyData} {o : Option PyData} (h : H a = some (dcObj t (kvs.map (·.1)) us)) (hA : DfAll K H g us (kvs.map (·.2))) (hy : Df K H g y d) (hl : look t kvs d = some o) : ∃ w, DGet H a y w ∧ w.isSome = o.isSome ∧ ∀ x, o = some x → ∃ v, w = some v ∧ Df K H g v x := by
  obtain ⟨k, hk, rfl⟩ := Option.map_eq_some_iff.mp hl
  rcases dc_get h hA hy hk with ⟨G, q⟩ | ⟨v, x, G, q, hv⟩
  · rw [q]
    exact ⟨none, G, rfl, fun x z => by cases z⟩
  · rw [q]
    exact ⟨some v, G, rfl, fun x z => by cases z; exact ⟨v, rfl, hv⟩⟩
theorem se_dget (i : Nat) (hu : X.A.units + 65 < cLine) (hk : SE X C W e mk) (hN : X.N[i]? = some x := by rfl) (hv : Vis X.env.scope x := by first | exact Or.inl rfl | exact Or.inr (Or.inl rfl) | exact Or.inr (Or.inr rfl)) (hd : (x == ("__debug__" : Str)) = false := by decide) (hcd : (x == ("__classdict__" : Str)) = false := by decide)
    (hs : NoSl e := by exact fun _ _ => rfl) : SE X C W (.Subscript (.Name x p) e pos) (mDget i mk) :=
  PE.imp (pe_dget (by omega) (pe_var hN hv hd hcd) hk hs) fun σ H Q ⟨Γ, env, ds, R, h⟩ => by
    unfold mDget onD at h
    rcases q : env[i]? with _ | y
    · rw [q] at h; exact h.elim
    · rw [q] at h
      cases y with
      | dc t kvs =>
        obtain ⟨a, us, q1, _⟩ := dc_at R q Ext.refl R.draw
        refine ⟨_, q1, Γ, env, ds, R, (Aft.bind h).imp fun d ds1 H1 e1 d1 h y hy => ?_⟩
        obtain ⟨a', us', r1, r2, r3, _⟩ := dc_at R q e1 d1
        rw [q1] at r1
        cases r1
        obtain ⟨z, hz, h⟩ := lift_some h
        obtain ⟨o, ho, hz⟩ := Option.bind_eq_some_iff.mp hz
        obtain ⟨w, G, _, g2⟩ := look_rd r2 r3 hy ho
        obtain ⟨v, rfl, hv⟩ := g2 z hz
        exact ⟨a, v, rfl, G, h H1 Ext.refl d1 v hv⟩
      | _ => exact h.elim
theorem din_rd {K : PySem.W.Frag} {σ : St} {H : Hp} {Q : VK} {i : Nat} (h : rdG MD K C W (mDin i mk) σ H Q) : tDIn (rdG MD K C W mk) (tVar i) σ H Q := by
  obtain ⟨Γ, env, ds, R, h⟩ := h
  refine ⟨Γ, env, ds, R, (Aft.bind h).imp fun d ds1 H1 e1 d1 h y hy => ?_⟩
  dsimp only [onD] at h
  rcases q : env[i]? with _ | z
  · rw [q] at h; exact h.elim
  · rw [q] at h
    cases z with
    | dc t kvs =>
      obtain ⟨a, us, r1, r2, r3, _⟩ := dc_at R q e1 d1
      obtain ⟨z, hz, h⟩ := lift_some h
      obtain ⟨o, ho, rfl⟩ := Option.map_eq_some_iff.mp hz
      obtain ⟨w, G, g1, _⟩ := look_rd r2 r3 hy ho
      exact ⟨_, r1, a, w, rfl, G, h H1 Ext.refl d1 _ (by rw [g1]; exact .bl _)⟩
    | _ => exact h.elim
theorem dnot_rd {K : PySem.W.Frag} {σ : St} {H : Hp} {Q : VK} {i : Nat} (h : rdG MD K C W (mDnot i mk) σ H Q) : tDNotIn (rdG MD K C W mk) (tVar i) σ H Q := by
  obtain ⟨Γ, env, ds, R, h⟩ := h
  refine ⟨Γ, env, ds, R, (Aft.bind h).imp fun d ds1 H1 e1 d1 h y hy => ?_⟩
  dsimp only [onD] at h
  rcases q : env[i]? with _ | z
  · rw [q] at h; exact h.elim
  · rw [q] at h
    cases z with
    | dc t kvs =>
      obtain ⟨a, us, r1, r2, r3, _⟩ := dc_at R q e1 d1
      obtain ⟨z, hz, h⟩ := lift_some h
      obtain ⟨o, ho, rfl⟩ := Option.map_eq_some_iff.mp hz
      obtain ⟨w, G, g1, _⟩ := look_rd r2 r3 hy ho
      exact ⟨_, r1, a, w, rfl, G, h H1 Ext.refl d1 _ (by rw [g1]; exact .bl _)⟩
    | _ => exact h.elim
theorem se_din (i : Nat) (hu : X.A.units + 65 < cLine) (hk : SE X C W e mk) (hN : X.N[i]? = some x := by rfl) (hv : Vis X.env.scope x := by first | exact Or.inl rfl | exact Or.inr (Or.inl rfl) | exact Or.inr (Or.inr rfl)) (hd : (x == ("__debug__" : Str)) = false := by decide) (hcd : (x == ("__classdict__" : Str)) = false := by decide) : SE X C W (.Compare e [.In] [.Name x p] pos) (mDin i mk) :=
  PE.imp (pe_cmp (pc_din (by omega) hk (pe_var hN hv hd hcd)) rfl) fun _ _ _ h => din_rd h
theorem se_dnot (i : Nat) (hu : X.A.units + 65 < cLine) (hk : SE X C W e mk) (hN : X.N[i]? = some x := by rfl) (hv : Vis X.env.scope x := by first | exact Or.inl rfl | exact Or.inr (Or.inl rfl) | exact Or.inr (Or.inr rfl)) (hd : (x == ("__debug__" : Str)) = false := by decide) (hcd : (x == ("__classdict__" : Str)) = false := by decide) : SE X C W (.Compare e [.NotIn] [.Name x p] pos) (mDnot i mk) :=
  PE.imp (pe_cmp (pc_dnotin (by omega) hk (pe_var hN hv hd hcd)) rfl) fun _ _ _ h => dnot_rd h
theorem st_din (i : Nat) (hu : X.A.units + 65 < cLine) (hk : SE X C W e mk) (hN : X.N[i]? = some x := by rfl) (hv : Vis X.env.scope x := by first | exact Or.inl rfl | exact Or.inr (Or.inl rfl) | exact Or.inr (Or.inr rfl)) (hd : (x == ("__debug__" : Str)) = false := by decide) (hcd : (x == ("__classdict__" : Str)) = false := by decide) : ST X C W (.Compare e [.In] [.Name x p] pos) (mTst (mDin i mk)) :=
  PT.imp (pt_cmp (pc_din (by omega) hk (pe_var hN hv hd hcd)) rfl) fun _ _ _ h => tst_rd (fun _ _ _ z => din_rd z) h
theorem st_dnot (i : Nat) (hu : X.A.units + 65 < cLine) (hk : SE X C W e mk) (hN : X.N[i]? = some x := by rfl) (hv : Vis X.env.scope x := by first | exact Or.inl rfl | exact Or.inr (Or.inl rfl) | exact Or.inr (Or.inr rfl)) (hd : (x == ("__debug__" : Str)) = false := by decide) (hcd : (x == ("__classdict__" : Str)) = false := by decide) : ST X C W (.Compare e [.NotIn] [.Name x p] pos) (mTst (mDnot i mk)) :=
  PT.imp (pt_cmp (pc_dnotin (by omega) hk (pe_var hN hv hd hcd)) rfl) fun _ _ _ h => tst_rd (fun _ _ _ z => dnot_rd z) h
theorem ss_dput (i : Nat) {sp : Pos} (hu : X.A.units + 65 < cLine) (hx : SE X C W e2 mx) (hk : SE X C W e mk) (hN : X.N[i]? = some x := by rfl) (hv : Vis X.env.scope x := by first | exact Or.inl rfl | exact Or.inr (Or.inl rfl) | exact Or.inr (Or.inr rfl)) (hd : (x == ("__debug__" : Str)) = false := by decide) (hcd : (x == ("__classdict__" : Str)) = false := by decide)
    (hs : swapsWith e2 (some (.Subscript (.Name x p) e sp)) pos.line X.env = pure false := by rfl) : SS X C W fr (.Assign [.Subscript (.Name x p) e sp] e2 pos) (mDput i mk mx) :=
  PS.imp (L2.ps_dput (by omega) (pe_var hN hv hd hcd) hk hx hs) fun D σ H ⟨Γ, env, ds, R, h⟩ => ⟨Γ, env, ds, R, (exS_aft R h).imp fun y ds1 H1 x1 d1 h v hv => by
    have R1 := R.go x1 d1
    rcases q : env[i]? with _ | z
    · rw [q] at h; exact h.elim
    · rw [q] at h
      cases z with
      | dc t kvs =>
        obtain ⟨a, us, q1, _⟩ := dc_at R1 q Ext.refl R1.draw
        refine ⟨_, q1, Γ, env, ds1, R1, (exS_aft R1 h).imp fun d ds2 H2 x2 d2 h w hw => ?_⟩
        have R2 := R1.go x2 d2
        obtain ⟨a', us', r1, r2, r3, r4⟩ := dc_at R1 q x2 d2
        rw [q1] at r1
        cases r1
        cases hz : keyOf t d with
        | none => rw [hz] at h; exact h.elim
        | some z =>
          rw [hz] at h
          dsimp only at h
          by_cases hl : kvs.length < 1000000
          · rw [decide_eq_true hl, if_pos rfl] at h
            obtain ⟨us2, P, hA⟩ := dc_put r2 r3 hw hz (Df.ext x2 d1 hv) hl
            refine ⟨a, _, rfl, P, h _ _ (R2.upd_dc q q1 ?_ hA)⟩
            unfold dPut
            split
            · rw [List.length_map]; omega
            · rw [List.length_append, List.length_singleton]; omega
          · rw [decide_eq_false hl, if_neg Bool.false_ne_true] at h
            exact h.elim
      | _ => exact h.elim⟩
/-! ### displays -/
def rdDc (K : PySem.W.Frag) (C : Exs) (W : WX) (t : Bool) (m : ME DcL) : TE := fun σ H Q => ∃ Γ env ds, Rel K Γ σ H env ds ∧
  Aft K C W Γ σ H (m env ds) fun kvs _ H' => ∀ a us, H a = none → H' a = some (dcObj t (kvs.map (·.1)) us) → DfAll K H' (gdx Γ σ env a) us (kvs.map (·.2)) → Q (.ref a) H'
abbrev SD (X : Cx) (C : Exs) (W : WX) (t : Bool) (e : Expr) (m : ME DcL) : Prop := PE X e (rdDc X.K C W t m)
theorem sd_emptyT : SD X C W true (.Dict [] [] pos) mDempty := PE.imp pe_dnewT fun σ H Q ⟨Γ, env, ds, R, h⟩ p hp => h _ (ext_new hp) (R.draw.new hp) p [] hp upd_same .nil
theorem sd_emptyK : SD X C W false (.Dict [] [] pos) mDempty := PE.imp pe_dnewK fun σ H Q ⟨Γ, env, ds, R, h⟩ p hp => h _ (ext_new hp) (R.draw.new hp) p [] hp upd_same .nil
theorem ss_setD (i : Nat) {t : Bool} {m : ME DcL} (hN : X.N.Nodup) (he : SD X C W t e m) (hi : X.N[i]? = some x := by rfl) (hx : Loc X.env.scope x := by exact .inl rfl) (hs : swapsWith e (some (.Name x p)) pos.line X.env = pure false := by rfl)
    (hf : X.fn x = true ∨ X.env.scope.names.lookup x = some .local := by first | exact .inl rfl | exact .inr rfl) : SS X C W fr (.Assign [.Name x p] e pos) (mSetD i t m) :=
  PS.imp (ps_set hN hi hx he hs hf) fun D σ H ⟨Γ, env, ds, R, h⟩ => ⟨Γ, env, ds, R, (exS_aft R h).imp fun kvs ds1 H1 e1 d1 h a us q1 q2 q3 => by
    by_cases hl : kvs.length ≤ 1000000
    · rw [decide_eq_true hl, if_pos rfl] at h
      cases hp : put i (.dc t kvs) env with
      | none => rw [hp] at h; exact h.elim
      | some env' =>
        rw [hp] at h
        exact h _ _ (R.set_dc e1 d1 q1 q2 hl q3 hp)
    · rw [decide_eq_false hl, if_neg Bool.false_ne_true] at h
      exact h.elim⟩
/-- {k: v}, k a tuple of ints -/
def tDispT (tk tv : TE) : TE := fun σ H Q => ∀ p, H p = none → tPairs [(tk, tv)] σ (upd H p (.dT [])) fun ps H2 => H2 p = some (.dT []) ∧ ∃ (b : Addr) (k : List Key) (v : V), ps = [(.ref b, v)] ∧ H2 b = some (.tup (k.map kV)) ∧ Q (.ref p) (upd H2 p (.dT [(k, v)]))
theorem pe_dispT {k v : Expr} {tk tv : TE} (hu : X.A.units + 65 < cLine) (hk : PE X k tk) (hv : PE X v tv) : PE X (.Dict [some k] [v] pos) (tDispT tk tv) := by
  refine ⟨fun pins s σ H Q I q => ?_⟩
  have hn := I.hok.fresh (Nat.le_refl s.heap.objs.size)
  have I1 := I.laid (a := s.heap.objs.size) (o := .dT []) (h' := s.heap.push { cls := .type "dict", data := .dict #[] }) (t' := s.toks) (fun _ _ z => Heap.get?_push_of_some _ z) (Nat.le_refl _) (dt_empty s.heap I.big)
  rw [arm_eval_Dict, zip_pairTrees [some k] [v] X.env pos rfl rfl, dictDisplay_pairs (pairTrees [some k] [v] X.env pos) (fun z => by cases z) (by show 1 < 17; decide)]
  refine wpAny_bind (wpAny_standAt (wpAny_bind (wpAny_subDictH (knd := tupleKind (mixKind X.prog X.w)) (Q := fun d s' => wpAny (model X.prog X.w) X.A (pure (Value.ref d)) (EP X pins σ Q) X.xe s') (show (tupleKind (mixKind X.prog X.w)).room X.A from (show X.A.units < cLine by omega)) (by show 1 ≤ 15; decide) ?_)))
  refine thn ((pps_cons hk hv pps_nil).run pins _ σ _ _ I1 (q _ hn)) fun ws s2 ⟨ps, H2, I2, rel, e0, b, ks, w, ep, eb, q2⟩ => ?_
  subst ep
  obtain ⟨z, hd, xs, r0, dd⟩ := dt_of I2.hok e0
  cases r0
  cases rel with
  | @cons _ c _ _ h1 h2 =>
    cases h2
    obtain ⟨u1, u2⟩ := c
    obtain ⟨h3, h4⟩ := h1
    obtain rfl : u1 = Value.ref b := h3
    refine ⟨[(ks, b, u2)], ⟨rfl, rfl, key_of I2.hok eb, trivial⟩, dd, fun h' tk' dd' hs => wpAny_pure ?_⟩
    obtain ⟨o, es, epo, hq, k2, k3, k4, _, k5⟩ := dd'
    refine ⟨.ref s.heap.objs.size, upd H2 s.heap.objs.size (.dT [(ks, w)]), d_write (ob := .dT [(ks, w)]) I2 (by rw [e0]; exact True.intro) hs ⟨o, hq⟩ ⟨?_, hd, [(ks, b, u2)], .cons ⟨rfl, ?_, h4⟩ .nil, o, es, epo, hq, k2, k3, k4, k5⟩, rfl, q2⟩
    · rw [sizeLine_eq]; exact (by decide : 1 ≤ 16777216)
    · rw [upd_ne (ne_of eb e0 (fun z => nomatch z))]
      exact eb
theorem sd_oneT (hu : X.A.units + 65 < cLine) (hk : SE X C W e mk) (hv : SE X C W e2 mx) : SD X C W true (.Dict [some e] [e2] pos) (mDone true mk mx) :=
  PE.imp (pe_dispT hu hk hv) fun σ H Q ⟨Γ, env, ds, R, h⟩ p hp => by
    have x0 : Ext Γ H (upd H p (.dT [])) := ext_new hp
    have y0 := R.draw.new (o := .dT []) hp
    have R0 := R.go x0 y0
    have B : Rel X.K (Γ.blk σ env (upd H p (.dT [])) p) σ (upd H p (.dT [])) env ds := R.blk (vs := []) hp x0 y0 ⟨_, upd_same⟩ rfl
    have h0 : Aft X.K C W Γ σ (upd H p (.dT [])) (mDone true mk mx env ds) fun kvs ds' _ => ∀ (H3 : Hp) (us : List V), Ext Γ H H3 → DrR X.K Γ H3 ds' → H3 p = some (dcObj true (kvs.map (·.1)) us) → DfAll X.K H3 (gdx Γ σ env p) us (kvs.map (·.2)) → Q (.ref p) H3 := by
      revert h
      unfold Aft
      rcases mDone true mk mx env ds with _ | ⟨kvs | x, ds'⟩
      · exact id
      · exact fun h H' _ _ H3 us x3 d3 q1 q2 => h H3 x3 d3 p us hp q1 q2
      · exact fun h cls d H' x1 d1 hx => h cls d H' (x0.trans x1) d1 hx
    refine ⟨_, env, ds, B, (Aft.bind h0).blk.imp fun d ds1 H1 e1 d1 h v hv => ?_⟩
    have B1 := B.go e1 d1
    refine ⟨_, env, ds1, B1, (Aft.bind h).blk.imp fun y ds2 H2 e2 d2 h w hw => ?_⟩
    obtain ⟨z, hz, h⟩ := lift_some h
    obtain ⟨k, hk, rfl⟩ := Option.map_eq_some_iff.mp hz
    have nd := (R.new_gd hp).2.2
    have pH : H2 p = some (.dT []) := e2 p _ nd (e1 p _ nd upd_same)
    have hv2 : Df X.K H2 (gd (Γ.blk σ env (upd H p (.dT [])) p) σ env) v d := Df.ext e2 d1 hv
    rcases key_v hv2 hk with ⟨_, b, rfl, hb⟩ | ⟨z, _⟩
    · refine ⟨pH, b, _, w, rfl, hb, ?_⟩
      have hbp : b ≠ p := fun z => by rw [z, pH] at hb; cases hb
      have nx : ∀ a o, a ≠ p → H2 a = some o → upd H2 p (.dT [(k.map Sum.inl, w)]) a = some o := fun a o n q => by rw [upd_ne n]; exact q
      have x12 : Ext Γ H H2 := x0.trans (e1.trans e2)
      have fin := h H2 Ext.refl d2.unblk
      have x3 : Ext Γ H (upd H2 p (.dT [(k.map Sum.inl, w)])) := fun a o n q => nx a o (ne_of_none q hp) (x12 a o n q)
      have cn := R.cell_ne hp
      have d3 : DrR X.K Γ (upd H2 p (.dT [(k.map Sum.inl, w)])) ds2 := by
        have dd := d2.unblk
        unfold DrR at dd ⊢
        cases hdr : Γ.dr with
        | none =>
          rw [hdr] at dd
          cases ds2 with
          | none => trivial
          | some s => exact dd
        | some r =>
          rw [hdr] at dd
          cases ds2 with
          | none => exact dd
          | some s =>
            obtain ⟨g1, g2, g3⟩ := dd
            exact ⟨nx _ _ (fun z => nd r hdr z.symm) g1, nx _ _ (cn r hdr) g2, g3⟩
      have hw3 : Df X.K (upd H2 p (.dT [(k.map Sum.inl, w)])) (gdx Γ σ env p) w y := (show Df X.K H2 (gd (Γ.blk σ env (upd H p (.dT [])) p) σ env) w y from hw).mono (fun a u z q => ⟨⟨⟨z.1.1, z.2.1, z.2.2⟩, z.1.2⟩, nx a _ z.1.2 q⟩) fun a u q => nx a _ (fun z => by rw [z, pH] at q; cases q) q
      exact fin _ [w] x3 d3 upd_same (.cons hw3 .nil)
    · cases z
end
end DL

/-! DL19: list.index; max, min of two; a written tuple of the module walked; a dict and a list at once. -/
namespace DL
open PySem PySem.Spec L2
open PyProof.Rows hiding St

section
variable {X : Cx} {C : Exs} {W : WX} {fr : Bool} {K : PySem.W.Frag} {M : Md} {o e a b : Expr} {mo me ma mb : ME PyData} {p pos ap cp : Pos} {x y : Str}
/-! ### xs.index(e) -/
def ixFrom (d : PyData) : Nat → List PyData → Option Nat
  | _, [] => none
  | k, z :: r => if PyData.eqv z d then some k else ixFrom d (k + 1) r
def fIndex (l d : PyData) : Option PyData := match l with
  | .list ds => if SeqAt.shaped d && SeqAt.shaped (.list ds) then (ixFrom d 0 ds).map fun (j : Nat) => .int (j : Int) else none
  | _ => none
def isList : PyData → Bool
  | .list _ => true
  | _ => false
def mIndex (o e : ME PyData) : ME PyData := o.bind fun x => (ME.lift (if isList x then some () else none)).bind fun _ => e.bind fun d => ME.lift (fIndex x d)
theorem ixFrom_spec {d : PyData} : ∀ {ds : List PyData} {k j : Nat}, ixFrom d k ds = some j → k ≤ j ∧ (∃ z, ds[j - k]? = some z ∧ PyData.eqv z d = true) ∧ ∀ (m : Nat) (z : PyData), m < j - k → ds[m]? = some z → PyData.eqv z d = false
  | [], _, _, h => by cases h
  | z :: r, k, j, h => by
    unfold ixFrom at h
    split at h
    · rename_i c
      cases h
      exact ⟨Nat.le_refl _, ⟨z, by rw [Nat.sub_self]; rfl, c⟩, fun m _ hm => absurd hm (by omega)⟩
    · rename_i c
      obtain ⟨h1, ⟨w, h2, h3⟩, h4⟩ := ixFrom_spec h
      have e : j - k = (j - (k + 1)) + 1 := by omega
      refine ⟨by omega, ⟨w, by rw [e]; exact h2, h3⟩, fun m u hm hu => ?_⟩
      cases m with
      | zero =>
        cases hu
        exact Bool.not_eq_true _ ▸ c
      | succ m => exact h4 m u (by omega) hu
theorem se_index (hu : X.A.units + 65 < cLine) (p1 : Pers M) (ho : PE X o (rdG M X.K C W mo)) (he : SE X C W e me) (hbase : attributeBase o "index" X.env (eval o X.env) = eval o X.env := by rfl)
    (hfew : ((backTo cp (starEach [e] X.env)).all (fun x => !x.1) && (backToKw cp (keywordEach [] X.env)).all (fun x => x.1.isSome) && decide ([e].length + ([] : List Keyword).length + (if ([] : List Keyword).isEmpty then 0 else 1) < 30)) = true := by rfl)
    (hline : (ap.endLine == cp.line) = true := by rfl) (hs : starEach (e :: []) X.env = (false, eval e X.env) :: starEach [] X.env := by rfl) (hplain : (backTo cp (starEach [] X.env)).any (·.1) = false := by rfl) : SE X C W (.Call (.Attribute o "index" ap) [e] [] cp) (mIndex mo me) :=
  PE.imp (pe_bm PySem.F.plainAttrs_list PySem.F.slot_list_index PySem.F.type_list_index (mt_indexD hu) ho (pa_cons he pa_nil hs) hbase hfew hline hs hplain) fun σ H Q ⟨Γ, env, ds, R, h⟩ => by
    refine ⟨Γ, env, ds, R, (Aft.bind h).imp fun d ds1 H1 e1 d1 q v hv => ?_⟩
    have R1 := R.go e1 d1
    obtain ⟨z, hz, q⟩ := lift_some (Aft.bind q)
    have q := q H1 Ext.refl d1
    have tyl : tyV X.K "list" v H1 := by
      cases d with
      | list xs =>
        obtain ⟨a, us, rfl, hS, _⟩ := (p1.pk hv).list
        exact tyV_list hS
      | _ => cases hz
    refine ⟨tyl, Γ, env, ds1, R1, (Aft.bind q).imp fun e' ds2 H2 e2 d2 q w hw => ?_⟩
    obtain ⟨z, hz, q⟩ := lift_some q
    have hv2 := p1.ext e2 d1 hv
    unfold fIndex at hz
    split at hz
    · split at hz
      · rename_i hc
        rw [Bool.and_eq_true] at hc
        obtain ⟨j, hj, rfl⟩ := Option.map_eq_some_iff.mp hz
        obtain ⟨_, ⟨z, g1, g2⟩, g3⟩ := ixFrom_spec hj
        obtain ⟨a, us, rfl, hS, hl, hA⟩ := (p1.pk hv2).list
        rw [Nat.sub_zero] at g1 g3
        exact ⟨a, w, e', _, j, z, rfl, rfl, .lst (.inl (.inl hS)) hA.dp, hw.dp, hc.2, hc.1, g1, g2, g3, q H2 Ext.refl d2 _ (.int _)⟩
      · cases hz
    · cases hz
/-! ### a written tuple of ints of the module, walked -/
theorem si_glob {tg : Expr} {u : Value} {c : Addr} {ns : List Int} (hm : X.mg x = some u) (r : RelV (.ref c) u) (hs : ∀ H, SqT X.K H c (ns.map V.int)) (hg : Gl X x := by rfl) (hdb : (x == ("__debug__" : Str)) = false := by decide) : SI X C W tg (.Name x pos) (mItems (mC (.tuple (ns.map .int)))) :=
  PI.imp (pi_seq (pe_glob hg hm r hdb)) fun σ H Q ⟨Γ, env, ds, R, h⟩ => ⟨c, rfl, .inr ⟨⟨_, hs H⟩, Aft.here h R.draw _ (wk_tup R (hs H) (DfAll.of_ints ns))⟩⟩
/-! ### max, min of two -/
def fMax2 : PyData → PyData → Option PyData
  | .int i, .int j => some (.int (if j > i then j else i))
  | _, _ => none
def fMin2 : PyData → PyData → Option PyData
  | .int i, .int j => some (.int (if j < i then j else i))
  | _, _ => none
theorem two_rd {r : List V → Hp → VK → Prop} {f : PyData → PyData → Option PyData} (hr : ∀ (i j : Int) (z : PyData) (H : Hp) (Q : VK), f (.int i) (.int j) = some z → (∀ H' g, Df K H' g (match z with | .int n => .int n | _ => .non) z) → Q (match z with | .int n => .int n | _ => .non) H → r [.int i, .int j] H Q)
    (hf : ∀ d e z, f d e = some z → ∃ i j n, d = .int i ∧ e = .int j ∧ z = .int n) {σ : St} {H : Hp} {Q : VK} (h : rdG MD K C W (mOp f ma mb) σ H Q) : tCB r (tCons (rdG MD K C W ma) (tCons (rdG MD K C W mb) tNil)) σ H Q := by
  obtain ⟨Γ, env, ds, R, h⟩ := h
  refine ⟨Γ, env, ds, R, (Aft.bind h).imp fun d ds1 H1 e1 d1 q v hv => ?_⟩
  have R1 := R.go e1 d1
  refine ⟨Γ, env, ds1, R1, (Aft.bind q).imp fun e ds2 H2 e2 d2 q w hw => ?_⟩
  obtain ⟨z, hz, q⟩ := lift_some q
  obtain ⟨i, j, n, rfl, rfl, rfl⟩ := hf d e z hz
  cases hv
  cases hw
  exact hr i j _ H2 Q hz (fun _ _ => .int n) (q H2 Ext.refl d2 _ (.int n))
theorem se_max2 (hc : X.calm = true) (hm : X.mg "max" = none) (ha : SE X C W a ma) (hb : SE X C W b mb) (hg : Gl X "max" := by rfl) (he : starEach (a :: [b]) X.env = (false, eval a X.env) :: starEach [b] X.env := by rfl) (he2 : starEach (b :: []) X.env = (false, eval b X.env) :: starEach [] X.env := by rfl)
    (hpl : (backTo pos (starEach [b] X.env)).any (·.1) = false := by rfl) : SE X C W (.Call (.Name "max" p) [a, b] [] pos) (mOp fMax2 ma mb) :=
  PE.imp (pe_callB (call_max2 hc) hg hm PyProof.Rows.boot_max (pa_cons ha (pa_cons hb pa_nil he2) he) (by decide) (by decide) he hpl) fun _ _ _ h => two_rd (fun i j z H Q hz _ q => by cases hz; exact ⟨i, j, rfl, q⟩) (fun d e z hz => by
    unfold fMax2 at hz
    split at hz
    · cases hz; exact ⟨_, _, _, rfl, rfl, rfl⟩
    · cases hz) h
theorem se_min2 (hc : X.calm = true) (hm : X.mg "min" = none) (ha : SE X C W a ma) (hb : SE X C W b mb) (hg : Gl X "min" := by rfl) (he : starEach (a :: [b]) X.env = (false, eval a X.env) :: starEach [b] X.env := by rfl) (he2 : starEach (b :: []) X.env = (false, eval b X.env) :: starEach [] X.env := by rfl)
    (hpl : (backTo pos (starEach [b] X.env)).any (·.1) = false := by rfl) : SE X C W (.Call (.Name "min" p) [a, b] [] pos) (mOp fMin2 ma mb) :=
  PE.imp (pe_callB (call_min2 hc) hg hm PyProof.Rows.boot_min (pa_cons ha (pa_cons hb pa_nil he2) he) (by decide) (by decide) he hpl) fun _ _ _ h => two_rd (fun i j z H Q hz _ q => by cases hz; exact ⟨i, j, rfl, q⟩) (fun d e z hz => by
    unfold fMin2 at hz
    split at hz
    · cases hz; exact ⟨_, _, _, rfl, rfl, rfl⟩
    · cases hz) h
/-! ### a, b = {..}, [..] -/
def mParCL (i j : Nat) (t : Bool) (a : ME DcL) (b : ME (List PyData)) : MS := exS a fun x => exS b fun y env ds => if decide (x.length ≤ 1000000) then putS i j (.dc t x) (.l y) env ds else none
theorem ss_parCL (i j : Nat) {t : Bool} {md : ME DcL} {fb : ME (List PyData)} {px py pt : Pos} {kt k2 : Nat} {pt2 : Pos} (hN : X.N.Nodup) (ha : SD X C W t a md) (hb : SF X C W b fb) (hc : X.calm = true := by rfl) (hi : X.N[i]? = some x := by rfl) (hj : X.N[j]? = some y := by rfl) (hij : i ≠ j := by decide) (hx : X.env.scope.names.lookup x = some .local := by rfl) (hy : X.env.scope.names.lookup y = some .local := by rfl)
    (he : starEach (a :: [b]) X.env = (false, eval a X.env) :: starEach [b] X.env := by rfl) (he2 : starEach (b :: []) X.env = (false, eval b X.env) :: starEach [] X.env := by rfl)
    (hw : swappedStores [.Tuple [.Name x px, .Name y py] kt pt] (.Tuple [a, b] k2 pt2) X.env = pure (some [x, y]) := by rfl) (hs : swapsWithSole [.Tuple [.Name x px, .Name y py] kt pt] (.Tuple [a, b] k2 pt2) pos.line X.env = pure false := by rfl) :
    SS X C W fr (.Assign [.Tuple [.Name x px, .Name y py] kt pt] (.Tuple [a, b] k2 pt2) pos) (mParCL i j t md fb) :=
  PS.imp (ps_par hc hN hi hj hij hx hy (pa_cons ha (pa_cons hb pa_nil he2) he) hw hs) fun D σ H ⟨Γ, env, ds, R, h⟩ => by
    refine ⟨Γ, env, ds, R, (exS_aft R h).imp fun d ds1 H1 e1 d1 q p us g1 g2 g4 => ?_⟩
    have R1 := R.go e1 d1
    have RB : Rel X.K (Γ.blk σ env H1 p) σ H1 env ds1 := R.blk (vs := []) g1 e1 d1 ⟨_, g2⟩ rfl
    refine ⟨_, env, ds1, RB, (exS_aft R1 q).blk.imp fun e ds2 H2 e2 d2 q p' us' f1 f2 f3 f4 => ?_⟩
    by_cases hl : d.length ≤ 1000000
    · rw [decide_eq_true hl, if_pos rfl] at q
      obtain ⟨env1, env2, p1, p2, q⟩ := putS_aft q
      refine ⟨_, _, rfl, q _ _ ?_⟩
      have S1 := R.set_dc e1 d1 g1 g2 hl g4 p1
      refine S1.set_l e2 d2.unblk f1 f2 f3 (f4.mono (fun a u z k => ⟨⟨?_, z.2⟩, k⟩) fun _ _ z => z) p2
      obtain ⟨h1, h2, rfl⟩ := put_some p1
      have hi : i < σ.length := by rw [R.len]; exact h2
      refine ⟨z.1.1.1, fun ⟨j, x, q1, q2, q3⟩ => ?_, z.1.2.2⟩
      by_cases e : i = j
      · subst e
        rw [List.getElem?_set_self hi] at q3
        cases q3
        exact z.1.1.2 rfl
      · rw [List.getElem?_set_ne e] at q1 q3
        exact z.1.2.1 ⟨j, x, q1, q2, q3⟩
    · rw [decide_eq_false hl, if_neg Bool.false_ne_true] at q
      exact q.elim
end
end DL

/-! DL20: a, b = {..}, data; {k: v} with an int key. -/
namespace DL
open PySem PySem.Spec L2
open PyProof.Rows hiding St

def mParCD (i j : Nat) (t : Bool) (a : ME DcL) (b : ME PyData) : MS := exS a fun x => exS b fun y env ds => if decide (x.length ≤ 1000000) then putS i j (.dc t x) (.d y) env ds else none
/-- the members of a list, each once -/
def dist {α : Type} [DecidableEq α] (xs : List α) : List α := match xs with
  | [] => []
  | x :: r => if x ∈ dist r then dist r else x :: dist r
section
variable {α : Type} [DecidableEq α]
theorem dist_mem {x : α} : ∀ {xs : List α}, x ∈ dist xs ↔ x ∈ xs
  | [] => Iff.rfl
  | y :: r => by
    show x ∈ (if y ∈ dist r then dist r else y :: dist r) ↔ _
    have ih := dist_mem (x := x) (xs := r)
    by_cases h : y ∈ dist r
    · rw [if_pos h, ih, List.mem_cons]
      refine ⟨.inr, fun q => q.elim (fun e => ?_) id⟩
      rw [e]
      exact dist_mem.mp h
    · rw [if_neg h, List.mem_cons, List.mem_cons, ih]
theorem dist_nodup : ∀ xs : List α, (dist xs).Nodup
  | [] => List.nodup_nil
  | y :: r => by
    show (if y ∈ dist r then dist r else y :: dist r).Nodup
    by_cases h : y ∈ dist r
    · rw [if_pos h]; exact dist_nodup r
    · rw [if_neg h]; exact List.nodup_cons.mpr ⟨h, dist_nodup r⟩
theorem dist_id : ∀ {xs : List α}, xs.Nodup → dist xs = xs
  | [], _ => rfl
  | y :: r, h => by
    rw [List.nodup_cons] at h
    show (if y ∈ dist r then dist r else y :: dist r) = _
    rw [dist_id h.2, if_neg h.1]
theorem dist_len (xs : List α) : (dist xs).length ≤ xs.length := by
  induction xs with
  | nil => exact Nat.le_refl _
  | cons y r ih =>
    show (if y ∈ dist r then dist r else y :: dist r).length ≤ _
    split
    · rw [List.length_cons]; omega
    · rw [List.length_cons, List.length_cons]; omega
theorem dist_full {xs : List α} (h : (dist xs).length = xs.length) : xs.Nodup := by
  induction xs with
  | nil => exact List.nodup_nil
  | cons y r ih =>
    change (if y ∈ dist r then dist r else y :: dist r).length = _ at h
    by_cases q : y ∈ dist r
    · rw [if_pos q, List.length_cons] at h
      have := dist_len r
      omega
    · rw [if_neg q, List.length_cons, List.length_cons] at h
      exact List.nodup_cons.mpr ⟨fun z => q (dist_mem.mpr z), ih (by omega)⟩
theorem nodup_sub_len {l m : List α} (h : l.Nodup) (hs : ∀ x ∈ l, x ∈ m) : l.length ≤ m.length := by
  induction l generalizing m with
  | nil => exact Nat.zero_le _
  | cons x r ih =>
    rw [List.nodup_cons] at h
    have hm := hs x List.mem_cons_self
    have h2 : ∀ y ∈ r, y ∈ m.erase x := fun y hy => (List.mem_erase_of_ne (fun e => h.1 (by rw [← e]; exact hy))).mpr (hs y (List.mem_cons_of_mem _ hy))
    have q := ih h.2 h2
    rw [List.length_erase_of_mem hm] at q
    have := List.length_pos_of_mem hm
    rw [List.length_cons]
    omega
/-- what is once each and all of it has as many -/
theorem dist_count {l xs : List α} (h : l.Nodup) (hs : ∀ x, x ∈ l ↔ x ∈ xs) : l.length = (dist xs).length :=
  Nat.le_antisymm (nodup_sub_len h fun x hx => dist_mem.mpr ((hs x).mp hx)) (nodup_sub_len (dist_nodup xs) fun x hx => (hs x).mpr (dist_mem.mp hx))
end
/-- tuples of ints -/
def rowsD : List PyData → Option (List (List Int))
  | [] => some []
  | .tuple ds :: r => (intsOf ds).bind fun k => (rowsD r).map (k :: ·)
  | _ => none
/-- the number of a set's members: ints, or tuples of ints -/
def fSetLen : PyData → Option PyData
  | .list ds => match intsOf ds with
    | some ns => if decide (ns.length ≤ 1000) then some (.int (dist ns).length) else none
    | none => match rowsD ds with
      | some ks => if decide (ks.length ≤ 64) then some (.int (dist ks).length) else none
      | none => none
  | .tuple ds => match intsOf ds with
    | some ns => if decide (ns.length ≤ 1000) then some (.int (dist ns).length) else none
    | none => none
  | _ => none
section
variable {X : Cx} {C : Exs} {W : WX} {fr : Bool} {a b e e2 : Expr} {x y : Str} {pos : Pos} {mk mx : ME PyData}
theorem ss_parCD (i j : Nat) {t : Bool} {md : ME DcL} {mb : ME PyData} {px py pt : Pos} {kt k2 : Nat} {pt2 : Pos} (hN : X.N.Nodup) (ha : SD X C W t a md) (hb : SE X C W b mb) (hc : X.calm = true := by rfl) (hi : X.N[i]? = some x := by rfl) (hj : X.N[j]? = some y := by rfl) (hij : i ≠ j := by decide) (hx : X.env.scope.names.lookup x = some .local := by rfl) (hy : X.env.scope.names.lookup y = some .local := by rfl)
    (he : starEach (a :: [b]) X.env = (false, eval a X.env) :: starEach [b] X.env := by rfl) (he2 : starEach (b :: []) X.env = (false, eval b X.env) :: starEach [] X.env := by rfl)
    (hw : swappedStores [.Tuple [.Name x px, .Name y py] kt pt] (.Tuple [a, b] k2 pt2) X.env = pure (some [x, y]) := by rfl) (hs : swapsWithSole [.Tuple [.Name x px, .Name y py] kt pt] (.Tuple [a, b] k2 pt2) pos.line X.env = pure false := by rfl) :
    SS X C W fr (.Assign [.Tuple [.Name x px, .Name y py] kt pt] (.Tuple [a, b] k2 pt2) pos) (mParCD i j t md mb) :=
  PS.imp (ps_par hc hN hi hj hij hx hy (pa_cons ha (pa_cons hb pa_nil he2) he) hw hs) fun D σ H ⟨Γ, env, ds, R, h⟩ => by
    refine ⟨Γ, env, ds, R, (exS_aft R h).imp fun d ds1 H1 e1 d1 q p us g1 g2 g4 => ?_⟩
    have RB : Rel X.K (Γ.blk σ env H1 p) σ H1 env ds1 := R.blk (vs := []) g1 e1 d1 ⟨_, g2⟩ rfl
    refine ⟨_, env, ds1, RB, (exS_aft (R.go e1 d1) q).blk.imp fun z ds2 H2 e2 d2 q v hv => ?_⟩
    by_cases hl : d.length ≤ 1000000
    · rw [decide_eq_true hl, if_pos rfl] at q
      obtain ⟨env1, env2, p1, p2, q⟩ := putS_aft q
      refine ⟨_, v, rfl, q _ _ ?_⟩
      have S1 := (R.set_dc e1 d1 g1 g2 hl g4 p1).go e2 d2.unblk
      refine S1.set_d ((show Df X.K H2 (gd (Γ.blk σ env H1 p) σ env) v z from hv).mono (fun a u z k => ⟨?_, k⟩) fun _ _ z => z) p2
      obtain ⟨h1, h2, rfl⟩ := put_some p1
      have hi : i < σ.length := by rw [R.len]; exact h2
      refine ⟨z.1.1, fun ⟨j, x, q1, q2, q3⟩ => ?_, z.2.2⟩
      by_cases e : i = j
      · subst e
        rw [List.getElem?_set_self hi] at q3
        cases q3
        exact z.1.2 rfl
      · rw [List.getElem?_set_ne e] at q1 q3
        exact z.2.1 ⟨j, x, q1, q2, q3⟩
    · rw [decide_eq_false hl, if_neg Bool.false_ne_true] at q
      exact q.elim
theorem sd_oneK (hu : X.A.units + 65 < cLine) (hk : SE X C W e mk) (hv : SE X C W e2 mx) : SD X C W false (.Dict [some e] [e2] pos) (mDone false mk mx) :=
  PE.imp (pe_disp (pps_cons hk hv pps_nil) rfl rfl (fun z => by cases z) (show 1 ≤ 15 by decide)) fun σ H Q ⟨Γ, env, ds, R, h⟩ p hp => by
    have x0 : Ext Γ H (upd H p (.dK [])) := ext_new hp
    have y0 := R.draw.new (o := .dK []) hp
    have R0 := R.go x0 y0
    have B : Rel X.K (Γ.blk σ env (upd H p (.dK [])) p) σ (upd H p (.dK [])) env ds := R.blk (vs := []) hp x0 y0 ⟨_, upd_same⟩ rfl
    have h0 : Aft X.K C W Γ σ (upd H p (.dK [])) (mDone false mk mx env ds) fun kvs ds' _ => ∀ (H3 : Hp) (us : List V), Ext Γ H H3 → DrR X.K Γ H3 ds' → H3 p = some (dcObj false (kvs.map (·.1)) us) → DfAll X.K H3 (gdx Γ σ env p) us (kvs.map (·.2)) → Q (.ref p) H3 := by
      revert h
      unfold Aft
      rcases mDone false mk mx env ds with _ | ⟨kvs | x, ds'⟩
      · exact id
      · exact fun h H' _ _ H3 us x3 d3 q1 q2 => h H3 x3 d3 p us hp q1 q2
      · exact fun h cls d H' x1 d1 hx => h cls d H' (x0.trans x1) d1 hx
    refine ⟨_, env, ds, B, (Aft.bind h0).blk.imp fun d ds1 H1 e1 d1 h v hv => ?_⟩
    have B1 := B.go e1 d1
    refine ⟨_, env, ds1, B1, (Aft.bind h).blk.imp fun y ds2 H2 e2 d2 h w hw => ?_⟩
    obtain ⟨z, hz, h⟩ := lift_some h
    obtain ⟨k, hk, rfl⟩ := Option.map_eq_some_iff.mp hz
    have nd := (R.new_gd hp).2.2
    have pH : H2 p = some (.dK []) := e2 p _ nd (e1 p _ nd upd_same)
    have hv2 : Df X.K H2 (gd (Γ.blk σ env (upd H p (.dK [])) p) σ env) v d := Df.ext e2 d1 hv
    rcases key_v hv2 hk with ⟨z, _⟩ | ⟨_, rfl⟩
    · cases z
    · refine ⟨pH, [(.inl (k.headD 0), w)], rfl, (show 1 ≤ 15 by decide), ?_⟩
      have nx : ∀ a o, a ≠ p → H2 a = some o → upd H2 p (.dK (mergeK [] [(.inl (k.headD 0), w)])) a = some o := fun a o n q => by rw [upd_ne n]; exact q
      have x12 : Ext Γ H H2 := x0.trans (e1.trans e2)
      have fin := h H2 Ext.refl d2.unblk
      have x3 : Ext Γ H (upd H2 p (.dK (mergeK [] [(.inl (k.headD 0), w)]))) := fun a o n q => nx a o (ne_of_none q hp) (x12 a o n q)
      have cn := R.cell_ne hp
      have d3 : DrR X.K Γ (upd H2 p (.dK (mergeK [] [(.inl (k.headD 0), w)]))) ds2 := by
        have dd := d2.unblk
        unfold DrR at dd ⊢
        cases hdr : Γ.dr with
        | none =>
          rw [hdr] at dd
          cases ds2 with
          | none => trivial
          | some s => exact dd
        | some r =>
          rw [hdr] at dd
          cases ds2 with
          | none => exact dd
          | some s =>
            obtain ⟨g1, g2, g3⟩ := dd
            exact ⟨nx _ _ (fun z => nd r hdr z.symm) g1, nx _ _ (cn r hdr) g2, g3⟩
      have hw3 : Df X.K (upd H2 p (.dK (mergeK [] [(.inl (k.headD 0), w)]))) (gdx Γ σ env p) w y := (show Df X.K H2 (gd (Γ.blk σ env (upd H p (.dK [])) p) σ env) w y from hw).mono (fun a u z q => ⟨⟨⟨z.1.1, z.2.1, z.2.2⟩, z.1.2⟩, nx a _ z.1.2 q⟩) fun a u q => nx a _ (fun z => by rw [z, pH] at q; cases q) q
      exact fin _ [w] x3 d3 upd_same (.cons hw3 .nil)
end
end DL

/-! DS1: set(list), by what adding each item does. -/
namespace DL
open PySem PySem.Spec L2
open PyProof.Rows hiding St

/-- all that stood at first still stands -/
abbrev Kp (h0 h : Heap) : Prop := ∀ b o, h0.get? b = some o → h.get? b = some o
section
variable {P : Program} {w : World} {A : Around} {E : Value → Shared → Prop} {s : Shared}
theorem Moved.kp {wr : List Addr} {G : Array GenState → Array GenState → Prop} {s s' : Shared} {h0 : Heap} (m : Moved wr G s s') (nw : ∀ b ∈ wr, h0.get? b = none) (k : Kp h0 s.heap) : Kp h0 s'.heap :=
  fun b o e => m.heap b o (fun z => nomatch (nw b z).symm.trans e) (k b o e)
/-- what is asked of an adding: from the i-th state of things to the next -/
def AddsAt (P : Program) (w : World) (A : Around) (S : Addr) (h0 : Heap) (J : Nat → Heap → Prop) (i : Nat) (v : Value) : Prop :=
  ∀ (E : Value → Shared → Prop) (s : Shared) (Q : Bool → Shared → Prop), Kp h0 s.heap → J i s.heap → (∀ r h' tk, s.toks ≤ tk → Heap.SameBut S s.heap h' → J (i + 1) h' → Q r { s with heap := h', toks := tk }) → wpAny (model P w) A (setAdd S v) Q E s
theorem set_loop {I : Addr} {fp wr : List Addr} {G : Array GenState → Array GenState → Prop} {n : Nat} {Pv : Nat → Value → Prop} {St : Nat → Shared → Prop} {R : Result → Shared → Prop} (W : WalksS P w A.in1 I fp wr G n Pv St) {S : Addr} (nS : S ∉ fp) {h0 : Heap} {J : Nat → Heap → Prop}
    (nw : ∀ b ∈ wr, h0.get? b = none) (n0 : h0.get? S = none) (kJ : ∀ {i h h'}, J i h → (∀ o, h.get? S = some o → h'.get? S = some o) → Kp h0 h' → J i h') (add : ∀ i v, i < n → Pv i v → AddsAt P w A.in1 S h0 J i v) :
    ∀ (k i : Nat) (s : Shared), i + k = n → St i s → Kp h0 s.heap → J i s.heap → (∀ s', Moved (S :: wr) G s s' → J n s'.heap → Kp h0 s'.heap → R (.ok (.ret .none)) s') → codeAny (model P w) A (.builtin "set.update.loop" ⟨[.ref S, .ref I], []⟩) R s := by
  have nSw : S ∉ wr := fun z => nS (W.sub _ z)
  intro k
  induction k with
  | zero =>
    intro i s e st kp j fin
    obtain rfl : i = n := e
    refine codeAny_builtin F.entry_set_update_loop ?_
    rw [Around.under_plainId F.plain_set_update_loop _]
    show wpAny _ A.in1 (pyNext (.ref I) >>= _) _ _ s
    refine wpAny_bind (W.done s _ _ st fun s1 m => ?_)
    have kp1 := Moved.kp m nw kp
    show wpAny _ A.in1 (ret Value.none) _ _ s1
    exact wpAny_pure (fin s1 (m.mono fun b z => List.mem_cons_of_mem _ z) (kJ j (fun o q => m.heap S o nSw q) kp1) kp1)
  | succ k ih =>
    intro i s e st kp j fin
    refine codeAny_builtin F.entry_set_update_loop ?_
    rw [Around.under_plainId F.plain_set_update_loop _]
    show wpAny _ A.in1 (pyNext (.ref I) >>= _) _ _ s
    refine wpAny_bind (W.item i s _ _ (by omega) st fun v s1 pv st1 m => ?_)
    have kp1 := Moved.kp m nw kp
    show wpAny _ A.in1 (holding [v] (setAdd S v) >>= _) _ _ s1
    refine wpAny_bind (wpAny_holding (add i v (by omega) pv _ s1 _ kp1 (kJ j (fun o q => m.heap S o nSw q) kp1) fun r h2 tk ht sb j2 => ?_))
    have kp2 : Kp h0 h2 := fun b o q => (sb.2 b fun z => by rw [z, n0] at q; cases q).trans (kp1 b o q)
    refine wpAny_pure ⟨plainId_quiet F.plain_set_update_loop _, ih (i + 1) _ (by omega) (W.frame _ s1 _ _ st1 ht fun b z o q => (sb.2 b fun y => nS (y ▸ z)).trans q) kp2 j2 fun s3 m3 j3 kp3 => fin s3 (Moved.trans W.gtrans ((m.mono fun b z => List.mem_cons_of_mem _ z).then_heap ht fun b o z q => ?_) m3) j3 kp3⟩
    exact (sb.2 b fun y => z (by rw [y]; exact List.mem_cons_self)).trans q
set_option maxHeartbeats 3200000 in
/-- set(xs) -/
theorem call_set_by {l : Addr} {items : Array Value} {Q : Value → Shared → Prop} (J : Nat → Heap → Prop) (nh : A.handled = none) (hl : s.heap.IsList l items)
    (j0 : ∀ h', h'.get? s.heap.objs.size = some (setE w) → J 0 h') (kJ : ∀ {i h h'}, J i h → (∀ o, h.get? s.heap.objs.size = some o → h'.get? s.heap.objs.size = some o) → Kp s.heap h' → J i h')
    (add : ∀ i v, items[i]? = some v → ∀ B : Around, B.units ≤ A.units + 3 → AddsAt P w B s.heap.objs.size s.heap J i v)
    (fin : ∀ (h' : Heap) (tk : Nat), J items.size h' → Kp s.heap h' → Q (.ref s.heap.objs.size) { s with heap := h', toks := tk }) :
    wpAny (model P w) A (call (.type "set") [.ref l]) Q E s := by
  obtain ⟨c, tl, hmro⟩ := F.called_set.mro
  have hmade := F.called_set.made
  have hsub := F.called_set.sub
  have h1 := F.called_set.notType
  have h2 := F.called_set.canCreate
  have hct := F.typeCall_set_1 (.ref l)
  refine wpAny_call (codeAny_of_tree ?_)
  show wpAny _ _ (callAny (.type "set") _) _ _ _
  refine wpAny_pure ⟨Code.quiet_builtin _ (by decide +kernel), codeAny_builtin F.entry_type_call ?_⟩
  rw [Around.under_plain (weight_type_call_type "set" [.ref l] []) rfl]
  repeat (any_goals (first | assumption | wp_step))
  refine codeAny_mono (code_set_led1 (.ref l) (E := E) (Q₁ := fun u z => u = .ref s.heap.objs.size ∧ z = { s with heap := s.heap.push (setE w) }) ⟨rfl, rfl⟩) fun r s1 hr => ?_
  cases r with
  | error e => exact hr
  | ok fl =>
    cases fl with
    | ret u =>
      obtain ⟨rfl, rfl⟩ := hr
      have gS : (s.heap.push (setE w)).get? s.heap.objs.size = some (setE w) := Heap.get?_push_size _ rfl
      have hT : Shared.TypeIs { s with heap := s.heap.push (setE w) } (.ref s.heap.objs.size) "set" := ⟨_, gS, rfl⟩
      have hli := F.called_set.init.lookup
      have hbi := F.called_set.init.bind (.ref s.heap.objs.size)
      repeat (any_goals (first | assumption | wp_step))
      refine codeAny_mono (codeAny_call_builtin (R := wants (fun u z => u = .none ∧ ∃ h' tk, z = { s with heap := h', toks := tk } ∧ J items.size h' ∧ Kp s.heap h') E) F.called_set.init.plain F.entry_set_init (check_set_init_1 hT ?_)) fun r2 s2 hr2 => ?_
      · obtain ⟨ol, gl, hcl, nl, hdl⟩ := hl
        obtain ⟨ocls, odict, odata, oslots⟩ := ol
        simp only at hcl hdl
        subst hcl hdl
        have gl1 : (s.heap.push (setE w)).get? l = some { cls := .type "list", dict := odict, data := .seq items nl, slots := oslots } := Heap.get?_push_of_some _ gl
        have hsls := F.sub_list_set
        have hslf := F.sub_list_frozenset
        have hne : (Value.type "list" == Value.type "dict") = false := by decide
        have il : (s.heap.push (setE w)).IsList l items := ⟨_, gl1, rfl, nl, rfl⟩
        unfold Builtin.«set.__init__» noKeywords Builtin.Frozenset.updateFrom
        generalize hPI : pyIter = PI
        wp_walk
        subst hPI
        refine wpAny_pyIter_list il ?_
        refine wpAny_bind (wpAny_runValue ?_)
        have ll : l < s.heap.objs.size := Heap.lt_size gl
        have sz : (s.heap.push (setE w)).objs.size = s.heap.objs.size + 1 := Heap.size_push ..
        have nI : l ≠ (s.heap.push (setE w)).objs.size := by rw [sz]; exact Nat.ne_of_lt (Nat.lt_succ_of_lt ll)
        have nS : s.heap.objs.size ∉ [(s.heap.push (setE w)).objs.size, l] := by
          rw [sz]
          simp only [List.mem_cons, List.not_mem_nil, or_false, not_or]
          exact ⟨Nat.ne_of_lt (Nat.lt_succ_self _), Nat.ne_of_gt ll⟩
        have non : ∀ b, s.heap.objs.size ≤ b → s.heap.get? b = none := fun b hb => by
          cases q : s.heap.get? b with
          | none => rfl
          | some o => exact absurd (Heap.lt_size q) (Nat.not_lt.mpr hb)
        refine set_loop (h0 := s.heap) (J := J) ((Walks.list (by simp [nh]) _ l nI items).toS) nS (fun b hb => non b (by rw [List.mem_singleton.mp hb, sz]; exact Nat.le_succ _)) (non _ (Nat.le_refl _)) kJ (fun i v _ hv => add i v hv _ (by first | omega | exact Nat.le_refl _)) items.size 0 _ (Nat.zero_add _)
          ⟨⟨_, Heap.get?_push_size _ rfl, rfl, rfl⟩, il.push _⟩ (fun b o q => Heap.get?_push_of_some _ (Heap.get?_push_of_some _ q)) (j0 _ (Heap.get?_push_of_some _ gS)) fun s3 m j k => ?_
        obtain ⟨h', g2, d', tk', os'⟩ := s3
        have eg : g2 = s.gens := m.gens
        have ed : d' = s.drawn := m.drawn
        have eo : os' = s.os := m.os
        subst eg ed eo
        show wpAny _ _ _ _ _ _
        refine wpAny_pure ?_
        show wpAny _ _ (ret Value.none) _ _ _
        exact wpAny_pure ⟨rfl, h', tk', rfl, j, k⟩
      · cases r2 with
        | error e => exact hr2
        | ok fl2 =>
          cases fl2 with
          | ret u =>
            obtain ⟨rfl, h', tk, rfl, j, k⟩ := hr2
            repeat (any_goals (first | assumption | wp_step))
            exact fin h' tk j k
          | _ => exact hr2.elim
    | _ => exact hr.elim
end
end DL

/-! DS0: set(t), t a tuple, by what adding each item does; of ints, counted. -/
namespace DL
open PySem PySem.Spec L2
open PyProof.Rows hiding St
section
variable {P : Program} {w : World} {A : Around} {E : Value → Shared → Prop} {s : Shared}
set_option maxHeartbeats 3200000 in
/-- set(t) -/
theorem call_set_tup_by {l : Addr} {items : Array Value} {Q : Value → Shared → Prop} (J : Nat → Heap → Prop) (nh : A.handled = none) (hl : s.heap.IsTuple l items)
    (j0 : ∀ h', h'.get? s.heap.objs.size = some (setE w) → J 0 h') (kJ : ∀ {i h h'}, J i h → (∀ o, h.get? s.heap.objs.size = some o → h'.get? s.heap.objs.size = some o) → Kp s.heap h' → J i h')
    (add : ∀ i v, items[i]? = some v → ∀ B : Around, B.units ≤ A.units + 3 → AddsAt P w B s.heap.objs.size s.heap J i v)
    (fin : ∀ (h' : Heap) (tk : Nat), J items.size h' → Kp s.heap h' → Q (.ref s.heap.objs.size) { s with heap := h', toks := tk }) :
    wpAny (model P w) A (call (.type "set") [.ref l]) Q E s := by
  obtain ⟨c, tl, hmro⟩ := F.called_set.mro
  have hmade := F.called_set.made
  have hsub := F.called_set.sub
  have h1 := F.called_set.notType
  have h2 := F.called_set.canCreate
  have hct := F.typeCall_set_1 (.ref l)
  refine wpAny_call (codeAny_of_tree ?_)
  show wpAny _ _ (callAny (.type "set") _) _ _ _
  refine wpAny_pure ⟨Code.quiet_builtin _ (by decide +kernel), codeAny_builtin F.entry_type_call ?_⟩
  rw [Around.under_plain (weight_type_call_type "set" [.ref l] []) rfl]
  repeat (any_goals (first | assumption | wp_step))
  refine codeAny_mono (code_set_led1 (.ref l) (E := E) (Q₁ := fun u z => u = .ref s.heap.objs.size ∧ z = { s with heap := s.heap.push (setE w) }) ⟨rfl, rfl⟩) fun r s1 hr => ?_
  cases r with
  | error e => exact hr
  | ok fl =>
    cases fl with
    | ret u =>
      obtain ⟨rfl, rfl⟩ := hr
      have gS : (s.heap.push (setE w)).get? s.heap.objs.size = some (setE w) := Heap.get?_push_size _ rfl
      have hT : Shared.TypeIs { s with heap := s.heap.push (setE w) } (.ref s.heap.objs.size) "set" := ⟨_, gS, rfl⟩
      have hli := F.called_set.init.lookup
      have hbi := F.called_set.init.bind (.ref s.heap.objs.size)
      repeat (any_goals (first | assumption | wp_step))
      refine codeAny_mono (codeAny_call_builtin (R := wants (fun u z => u = .none ∧ ∃ h' tk, z = { s with heap := h', toks := tk } ∧ J items.size h' ∧ Kp s.heap h') E) F.called_set.init.plain F.entry_set_init (check_set_init_1 hT ?_)) fun r2 s2 hr2 => ?_
      · obtain ⟨ol, gl, hcl, nl, hdl⟩ := hl
        obtain ⟨ocls, odict, odata, oslots⟩ := ol
        simp only at hcl hdl
        subst hcl hdl
        have gl1 : (s.heap.push (setE w)).get? l = some { cls := .type "tuple", dict := odict, data := .seq items nl, slots := oslots } := Heap.get?_push_of_some _ gl
        have hsls := F.sub_tuple_set
        have hslf := F.sub_tuple_frozenset
        have hne : (Value.type "tuple" == Value.type "dict") = false := by decide
        have il : (s.heap.push (setE w)).IsTuple l items := ⟨_, gl1, rfl, nl, rfl⟩
        unfold Builtin.«set.__init__» noKeywords Builtin.Frozenset.updateFrom
        generalize hPI : pyIter = PI
        wp_walk
        subst hPI
        refine wpAny_pyIter_tuple il ?_
        refine wpAny_bind (wpAny_runValue ?_)
        have ll : l < s.heap.objs.size := Heap.lt_size gl
        have sz : (s.heap.push (setE w)).objs.size = s.heap.objs.size + 1 := Heap.size_push ..
        have nI : l ≠ (s.heap.push (setE w)).objs.size := by rw [sz]; exact Nat.ne_of_lt (Nat.lt_succ_of_lt ll)
        have nS : s.heap.objs.size ∉ [(s.heap.push (setE w)).objs.size, l] := by
          rw [sz]
          simp only [List.mem_cons, List.not_mem_nil, or_false, not_or]
          exact ⟨Nat.ne_of_lt (Nat.lt_succ_self _), Nat.ne_of_gt ll⟩
        have non : ∀ b, s.heap.objs.size ≤ b → s.heap.get? b = none := fun b hb => by
          cases q : s.heap.get? b with
          | none => rfl
          | some o => exact absurd (Heap.lt_size q) (Nat.not_lt.mpr hb)
        refine set_loop (h0 := s.heap) (J := J) ((Walks.tuple (by simp [nh]) _ l nI items).toS) nS (fun b hb => non b (by rw [List.mem_singleton.mp hb, sz]; exact Nat.le_succ _)) (non _ (Nat.le_refl _)) kJ (fun i v _ hv => add i v hv _ (by first | omega | exact Nat.le_refl _)) items.size 0 _ (Nat.zero_add _)
          ⟨⟨_, Heap.get?_push_size _ rfl, rfl, rfl⟩, il.push _⟩ (fun b o q => Heap.get?_push_of_some _ (Heap.get?_push_of_some _ q)) (j0 _ (Heap.get?_push_of_some _ gS)) fun s3 m j k => ?_
        obtain ⟨h', g2, d', tk', os'⟩ := s3
        have eg : g2 = s.gens := m.gens
        have ed : d' = s.drawn := m.drawn
        have eo : os' = s.os := m.os
        subst eg ed eo
        show wpAny _ _ _ _ _ _
        refine wpAny_pure ?_
        show wpAny _ _ (ret Value.none) _ _ _
        exact wpAny_pure ⟨rfl, h', tk', rfl, j, k⟩
      · cases r2 with
        | error e => exact hr2
        | ok fl2 =>
          cases fl2 with
          | ret u =>
            obtain ⟨rfl, h', tk, rfl, j, k⟩ := hr2
            repeat (any_goals (first | assumption | wp_step))
            exact fin h' tk j k
          | _ => exact hr2.elim
    | _ => exact hr.elim
/-- set(t) of ints -/
theorem call_set_tupN {l : Addr} {items : Array Value} {ns : List Int} {Q : Value → Shared → Prop} (nh : A.handled = none) (hl : s.heap.IsTuple l items) (hi : IntsAre items.toList ns) (hb : items.size + 1 < scanBound)
    (fin : ∀ (h' : Heap) (tk : Nat), h'.SetOf (intKind P w) s.heap.objs.size (fun k' => (firstMet (fun i => ns.getD i 0) items.size).any (· == k')) (firstMet (fun i => ns.getD i 0) items.size).length → Kp s.heap h' → Q (.ref s.heap.objs.size) { s with heap := h', toks := tk }) :
    wpAny (model P w) A (call (.type "set") [.ref l]) Q E s := by
  refine call_set_tup_by (fun i h => h.SetOf (intKind P w) s.heap.objs.size (fun k' => (firstMet (fun i => ns.getD i 0) i).any (· == k')) (firstMet (fun i => ns.getD i 0) i).length) nh hl (fun h' e => ?_) (fun {i h h'} j q _ => ?_) (fun i v hv B _ => ?_) fin
  · exact SetOf_congr ((setObjOf_fresh (knd := intKind P w) _).setOf e (by unfold scanBound; omega)) (fun _ => rfl) rfl
  · obtain ⟨o, es, ep, tb, ho, rest⟩ := j
    exact ⟨o, es, ep, tb, q _ ho, rest⟩
  · intro E' z Q' kp j c
    obtain ⟨t, rfl⟩ := IntsAre.int_at hi i v (by rw [Array.getElem?_toList]; exact hv)
    have il : i < items.size := (Array.getElem?_eq_some_iff.mp hv).1
    unfold setAdd
    refine wpAny_holding (wpAny_bind ((intKind P w).pyHash (k := ns.getD i 0) (intKind_is _ _ _ _) ?_))
    have room : (firstMet (fun i => ns.getD i 0) i).length + 1 < scanBound := by have := firstMet_length_le (fun i => ns.getD i 0) i; omega
    exact wpAny_setAddHashed_of (knd := intKind P w) (s := { z with toks := z.toks + 1 }) (intKind_is _ _ _ _) rfl j room fun h' sb S2 => c _ h' _ (Nat.le_succ _) sb (SetOf_congr S2 (fun k' => by rw [firstMet_succ, step_any]) (by rw [firstMet_succ, step_length]))
end
end DL

/-! DS2: len(set(rows)), up to 64 rows. -/
namespace DL
open PySem PySem.Spec L2
open PyProof.Rows hiding St

section
variable {P : Program} {w : World} {A : Around} {E : Value → Shared → Prop} {s : Shared} {a : Addr} {L : List (Addr × List Int)} {es : Array (Int × Value)} {ep : Nat} {t : SetTable}
/-- a set of n members stands at a -/
def SetN (h : Heap) (a : Addr) (n : Nat) : Prop := ∃ o es ep t, h.get? a = some o ∧ o.ExactSet ∧ o.data = .set es ep t ∧ t.fits es.size = true ∧ es.size = n
theorem setN_of (R : SetTR P w s.heap a L es ep t) : SetN s.heap a L.length := by
  obtain ⟨o, ho, hx, hd⟩ := R.ob
  exact ⟨o, es, ep, t, ho, hx, hd, R.fits, R.size⟩
/-- the 64th member -/
theorem add_last (R : SetTR P w s.heap a L es ep t) (big : L.length = 63) {x : Addr} {k : List Int} (hx : IsT P w s.heap k x) (hu : A.units < cLine) {Q : Bool → Shared → Prop} (old : k ∈ L.map (·.2) → Q false s)
    (new : ∀ h', k ∉ L.map (·.2) → Heap.SameBut a s.heap h' → SetN h' a 64 → Q true { s with heap := h' }) : wpAny (model P w) A (setAddHashed a (.ref x) (thash P w k)) Q E s := by
  obtain ⟨o, ho, ex, hd⟩ := R.ob
  have size := R.size
  have m127 : t.mask = 127 := by
    have r := R.room
    rcases R.tab.mok with e | e | e
    · omega
    · omega
    · exact e
  unfold setAddHashed
  refine wpAny_holding ?_
  rw [show (100000 : Nat) = 99999 + 1 from rfl, setAddHashedIn_succ]
  refine wpAny_bind (wpAny_setState_of ho hd R.fits ?_)
  dsimp only
  refine wp_if_neg (by simp [byScan, Value.scannable]) ?_
  try refine wpAny_bind (wpAny_pure ?_)
  refine wpAny_bind (search_at R hx hu (fun hm => ?_) fun K hm hK hb => ?_)
  · dsimp only
    exact wpAny_pure (old hm)
  · dsimp only
    refine wpAny_bind (wpAny_setState_of ho hd R.fits ?_)
    dsimp only
    have q := R.tab.put hK hb
    generalize ept : t.put (way t.mask (thash P w k) K) = pt at q ⊢
    obtain ⟨t1, p⟩ := pt
    dsimp only at q ⊢
    obtain ⟨q1, q2, q3, q4, q5, q6, q7, q8, q9⟩ := q
    subst q1
    have pl : t1.plain = true := q6.trans R.plain
    first
      | (refine wpAny_bind ?_; refine wp_if_pos pl ?_; refine hashBy_tup hx ?_)
      | refine wp_if_pos pl (wpAny_bind (hashBy_tup hx ?_))
    simp only [if_true]
    have len : (SetTable.insertAt es (SetTable.below t.place (way t.mask (thash P w k) K)) (thash P w k, Value.ref x)).size = 64 := by
      rw [← Array.length_toList, SetTable.toList_insertAt, len_ins _ (by rw [Array.length_toList, size]; simpa using q2), Array.length_toList, size, big]
    generalize SetTable.insertAt es (SetTable.below t.place (way t.mask (thash P w k) K)) (thash P w k, Value.ref x) = es1 at len ⊢
    refine wpAny_bind (wpAny_storeSet_of ho hd ?_ (by rw [len, sizeLine_eq]; decide))
    have nf : ¬ t1.tooFull = true := by
      unfold SetTable.tooFull
      rw [decide_eq_true_eq, q9, List.length_map, big, q4, m127]
      decide
    have sb : Heap.SameBut a s.heap (s.heap.update a (Obj.putSet es1 t1)) := Heap.SameBut.update ..
    have ho1 := store_at (es' := es1) (t' := t1) ho hd
    generalize s.heap.update a (Obj.putSet es1 t1) = h1 at sb ho1 ⊢
    first
      | refine wp_if_neg (by simp [nf]) ?_
      | (refine wpAny_bind ?_; refine wp_if_neg (by simp [nf]) ?_; refine wpAny_pure ?_)
    refine wpAny_pure (new h1 hm sb ⟨_, es1, ep + 1, t1, ho1, ⟨ex.1, ex.2.1, ex.2.2⟩, rfl, ?_, len⟩)
    have sz := q3.sz
    rw [len_ins _ (by rw [List.length_map]; simpa using q2), List.length_map, big] at sz
    unfold SetTable.fits SetTable.fill
    rw [q3.dm, Bool.and_eq_true, beq_iff_eq, decide_eq_true_eq, sz, len]
    refine ⟨rfl, ?_⟩
    show 63 + 1 + 0 ≤ t1.mask
    rw [q4, m127]
    decide
end
end DL

/-! DS3: len(set(e)). -/
namespace DL
open PySem PySem.Spec L2
open PyProof.Rows hiding St

section
variable {P : Program} {w : World} {A : Around} {E : Value → Shared → Prop} {s : Shared}
/-- the rows put in so far, up to 64 -/
def JR (P : Program) (w : World) (S : Addr) (ks : List (Addr × List Int)) (i : Nat) (h : Heap) : Prop := (∃ L es ep t, SetTR P w h S L es ep t ∧ Got ks i L) ∨ (i = 64 ∧ SetN h S 64 ∧ (ks.map (·.2)).Nodup)
theorem got_nd {ks L : List (Addr × List Int)} {i : Nat} (g : Got ks i L) (nd : (L.map (·.2)).Nodup) : (L.map (·.2)).length = (dist ((ks.take i).map (·.2))).length :=
  dist_count nd fun x => ⟨fun h => by
    obtain ⟨p, hp, rfl⟩ := List.mem_map.mp h
    exact List.mem_map.mpr ⟨p, g.sub p hp, rfl⟩, fun h => by
    obtain ⟨p, hp, rfl⟩ := List.mem_map.mp h
    exact g.all p hp⟩
theorem call_set_rows {l : Addr} {items : Array Value} (ks : List (Addr × List Int)) {Q : Value → Shared → Prop} (nh : A.handled = none) (hl : s.heap.IsList l items) (hit : items.toList = ks.map fun p => Value.ref p.1) (hk : ∀ p ∈ ks, IsT P w s.heap p.2 p.1) (few : ks.length ≤ 64) (hu : A.units + 3 < cLine)
    (fin : ∀ (h' : Heap) (tk : Nat), SetN h' s.heap.objs.size (dist (ks.map (·.2))).length → Kp s.heap h' → Q (.ref s.heap.objs.size) { s with heap := h', toks := tk }) : wpAny (model P w) A (call (.type "set") [.ref l]) Q E s := by
  have sz : items.size = ks.length := by
    rw [← Array.length_toList, hit, List.length_map]
  have keepT : ∀ {h' : Heap}, Kp s.heap h' → ∀ p ∈ ks, IsT P w h' p.2 p.1 := fun k p hp => isT_keep (hk p hp) k
  have lt : ∀ {p : Addr × List Int}, p ∈ ks → p.1 < s.heap.objs.size := fun {p} hp => by
    obtain ⟨o, _, _, ho, _⟩ := hk p hp
    exact Heap.lt_size ho
  refine call_set_by (JR P w s.heap.objs.size ks) nh hl (fun h' g => .inl ⟨[], #[], 0, _, setTR_fresh g, Got.zero ks⟩) (fun {i h h'} j kS kp => ?_) (fun i v hv B hB => ?_) fun h' tk j kp => fin h' tk ?_ kp
  · rcases j with ⟨L, es, ep, t, R, g⟩ | ⟨rfl, ⟨o, es, ep, t, ho, r⟩, nd⟩
    · exact .inl ⟨L, es, ep, t, R.keep kS fun p hp => keepT kp p (List.mem_of_mem_take (g.sub p hp)), g⟩
    · exact .inr ⟨rfl, ⟨o, es, ep, t, kS o ho, r⟩, nd⟩
  · have hv' : (ks.map fun p => Value.ref p.1)[i]? = some v := by rw [← hit, Array.getElem?_toList]; exact hv
    rw [List.getElem?_map] at hv'
    obtain ⟨p, hp, rfl⟩ := Option.map_eq_some_iff.mp hv'
    have il : i < ks.length := (List.getElem?_eq_some_iff.mp hp).1
    have bu : B.units < cLine := by omega
    intro E' z Q' kp j c
    rcases j with ⟨L, es, ep, t, R, g⟩ | ⟨e, _⟩
    · have hx : IsT P w z.heap p.2 p.1 := keepT kp p (List.mem_of_getElem? hp)
      unfold setAdd
      refine wpAny_holding (wpAny_bind (wpAny_pyHash_tuple bu hx ?_))
      have gl := g.len
      rcases Nat.lt_or_ge (L.length + 1) 64 with q | q
      · refine add_at (s := { z with toks := z.toks + (p.2.length + 1) }) R hx bu q fun r h' L' es' ep' t' sb R' c1 c2 => ?_
        refine c r h' _ (Nat.le_add_right _ _) sb (.inl ⟨L', es', ep', t', R', ?_⟩)
        by_cases m : p.2 ∈ L.map (·.2)
        · rw [c1 m]; exact g.same hp m
        · exact g.more hp (c2 m)
      · refine add_last (s := { z with toks := z.toks + (p.2.length + 1) }) R (by omega) hx bu (fun m => ?_) fun h' m sb n => ?_
        · exact c false z.heap _ (Nat.le_add_right _ _) (Heap.SameBut.refl _ _) (.inl ⟨L, es, ep, t, R, g.same hp m⟩)
        · refine c true h' _ (Nat.le_add_right _ _) sb (.inr ⟨by omega, n, ?_⟩)
          have e1 := got_nd g R.nd
          have i63 : i = 63 := by omega
          have nd : ((ks.take i).map (·.2)).Nodup := dist_full (by rw [← e1, List.length_map, List.length_map, List.length_take]; omega)
          have ek : ks = ks.take i ++ [p] := by
            have t1 := take_next hp
            rw [← t1, i63, List.take_of_length_le (by omega)]
          rw [ek, List.map_append, List.nodup_append]
          refine ⟨nd, by simp, fun a ha b hb e => m ?_⟩
          rw [List.map_singleton, List.mem_singleton] at hb
          rw [← hb, ← e]
          obtain ⟨q, hq, rfl⟩ := List.mem_map.mp ha
          exact g.all q hq
    · omega
  · rw [sz] at j
    rcases j with ⟨L, es, ep, t, R, g⟩ | ⟨e, n, nd⟩
    · have e1 := got_nd g R.nd
      rw [List.take_length, List.length_map] at e1
      have := setN_of (s := { s with heap := h' }) R
      rw [e1] at this
      exact this
    · rw [dist_id nd, List.length_map, e]
      exact n
theorem firstMet_nd (val : Nat → Int) : ∀ i, (firstMet val i).Nodup
  | 0 => List.nodup_nil
  | i + 1 => by
    rw [firstMet_succ]
    unfold step_dedup
    by_cases h : (firstMet val i).any (· == val i) = true
    · rw [if_pos h]; exact firstMet_nd val i
    · rw [if_neg h, List.nodup_append]
      refine ⟨firstMet_nd val i, by simp, fun a ha b hb e => h (List.any_eq_true.mpr ⟨a, ha, ?_⟩)⟩
      rw [List.mem_singleton.mp hb] at e
      rw [e, beq_self_eq_true]
theorem firstMet_count (ns : List Int) : (firstMet (fun i => ns.getD i 0) ns.length).length = (dist ns).length := by
  refine dist_count (firstMet_nd _ _) fun x => ?_
  have h := firstMet_any (fun i => ns.getD i 0) ns.length x
  have e : (List.range ns.length).map (fun i => ns.getD i 0) = ns := by
    refine List.ext_getElem? fun i => ?_
    rw [List.getElem?_map]
    rcases Nat.lt_or_ge i ns.length with q | q
    · rw [List.getElem?_range q, List.getElem?_eq_getElem q]
      show some (ns.getD i 0) = _
      rw [List.getD_eq_getElem?_getD, List.getElem?_eq_getElem q]
      rfl
    · rw [List.getElem?_eq_none (by rw [List.length_range]; exact q), List.getElem?_eq_none q]
      rfl
  rw [e] at h
  have a1 : ∀ l : List Int, l.any (· == x) = true ↔ x ∈ l := fun l => by
    rw [List.any_eq_true]
    exact ⟨fun ⟨y, hy, q⟩ => by rw [← beq_iff_eq.mp q]; exact hy, fun hx => ⟨x, hx, beq_self_eq_true x⟩⟩
  rw [← a1, ← a1, h]
end
section
variable {K : PySem.W.Frag} {H : Hp} {g : Addr → Prop}
theorem intsOf_eq2 : ∀ {ds : List PyData} {ns : List Int}, intsOf ds = some ns → ds = ns.map .int
  | [], ns, h => by cases h; rfl
  | .int b :: r, ns, h => by
    change (intsOf r).map (b :: ·) = some ns at h
    obtain ⟨m, h1, rfl⟩ := Option.map_eq_some_iff.mp h
    rw [intsOf_eq2 h1]
    rfl
theorem rowsD_vals : ∀ {us : List V} {ds : List PyData} {ks : List (List Int)}, DfAll K H g us ds → rowsD ds = some ks → ∃ ps : List (Addr × List Int), us = ps.map (fun p => V.ref p.1) ∧ ps.map (·.2) = ks ∧ ∀ p ∈ ps, H p.1 = some (.tup (p.2.map V.int))
  | _, [], ks, .nil, h => by cases h; exact ⟨[], rfl, rfl, fun _ h => nomatch h⟩
  | v :: us, .tuple ds :: r, ks, .cons h1 h2, h => by
    change (intsOf ds).bind _ = some ks at h
    cases hi : intsOf ds with
    | none => rw [hi] at h; cases h
    | some k =>
      rw [hi] at h
      change (rowsD r).map (k :: ·) = some ks at h
      obtain ⟨m, h3, rfl⟩ := Option.map_eq_some_iff.mp h
      obtain ⟨ps, rfl, e2, h4⟩ := rowsD_vals h2 h3
      obtain rfl := intsOf_eq2 hi
      cases h1 with
      | tup g1 g2 g3 =>
        have e := g3.ints_inv
        subst e
        refine ⟨(_, k) :: ps, rfl, by rw [List.map_cons, e2], fun p hp => ?_⟩
        rcases List.mem_cons.mp hp with rfl | hp
        · exact g1
        · exact h4 p hp
end
section
variable {X : Cx} {C : Exs} {W : WX} {a : Expr} {ma : ME PyData} {M : Md} {p p2 q pos : Pos}
theorem fSetLen_some {d y : PyData} (h : fSetLen d = some y) : (∃ ds, d = .list ds ∧ ((∃ ns, intsOf ds = some ns ∧ ns.length ≤ 1000 ∧ y = .int (dist ns).length) ∨ ∃ ks, rowsD ds = some ks ∧ ks.length ≤ 64 ∧ y = .int (dist ks).length)) ∨ ∃ ds ns, d = .tuple ds ∧ intsOf ds = some ns ∧ ns.length ≤ 1000 ∧ y = .int (dist ns).length := by
  unfold fSetLen at h
  split at h
  · rename_i ds
    refine .inl ⟨ds, rfl, ?_⟩
    split at h
    · rename_i ns e
      split at h
      · rename_i c
        cases h
        exact .inl ⟨ns, e, of_decide_eq_true c, rfl⟩
      · cases h
    · split at h
      · rename_i ks e
        split at h
        · rename_i c
          cases h
          exact .inr ⟨ks, e, of_decide_eq_true c, rfl⟩
        · cases h
      · cases h
  · rename_i ds
    split at h
    · rename_i ns e
      split at h
      · rename_i c
        cases h
        exact .inr ⟨ds, ns, rfl, e, of_decide_eq_true c, rfl⟩
      · cases h
    · cases h
  · cases h
theorem se_lenSet (hc : X.calm = true) (hu : X.A.units + 65 < cLine) (pm : Pers M) (hm : X.mg "len" = none) (hm2 : X.mg "set" = none) (ha : PE X a (rdG M X.K C W ma)) (hg : Gl X "len" := by rfl) (hg2 : Gl X "set" := by rfl)
    (na : starEach [a] X.env = (false, eval a X.env) :: starEach [] X.env := by rfl) : SE X C W (.Call (.Name "len" p) [.Call (.Name "set" p2) [a] [] q] [] pos) (mUn fSetLen ma) := by
  refine ⟨fun pins s σ H Q I ⟨Γ, env, ds, R, h⟩ => ?_⟩
  refine Call_ (ld_blt I hg hm PySem.boot_len ?_)
  refine PyProof.Rows.callWith_builtin1 (PyProof.Rows.args_cons ?_ rfl) rfl rfl
  refine Call_ (ld_blt I hg2 hm2 PyProof.Rows.boot_set ?_)
  refine PyProof.Rows.callWith_type1 (PyProof.Rows.args_cons (thn (ha.run pins s σ H (fun x H1 => ∃ d y, MP X.K Γ σ env H1 x d ∧ fSetLen d = some (.int y) ∧ Q (.int y) H1) I ⟨Γ, env, ds, R, h.bind.imp fun d ds1 H1 e1 d1 q x hx => ?_⟩) fun v s1 ⟨x, H1, I1, r1, d, y, hd, hf, q1⟩ => PyProof.Rows.args_nil ?_) na) na rfl
  · obtain ⟨z, hz, q⟩ := lift_some q
    rcases fSetLen_some hz with ⟨ds', rfl, f⟩ | ⟨ds', ns, rfl, _, _, rfl⟩
    · rcases f with ⟨ns, _, _, rfl⟩ | ⟨ks, _, _, rfl⟩
      · exact ⟨_, _, pm.pk hx, hz, q H1 Ext.refl d1 _ (.int _)⟩
      · exact ⟨_, _, pm.pk hx, hz, q H1 Ext.refl d1 _ (.int _)⟩
    · exact ⟨_, _, pm.pk hx, hz, q H1 Ext.refl d1 _ (.int _)⟩
  · rcases fSetLen_some hf with ⟨ds', rfl, f⟩ | ⟨ds', ns, rfl, hi, hn, hy⟩
    rotate_left
    · obtain ⟨l, us, rfl, hS, hl, hA⟩ := hd.tuple
      cases r1
      obtain ⟨its, r, pl, hz⟩ := I1.tuple (.inl (.inl hS))
      have hit : its.toArray.size = us.length := by rw [List.size_toArray, ← r.length]
      have nh := I1.ok.hd hc
      obtain rfl := intsOf_eq2 hi
      have e := hA.ints_inv
      subst e
      rw [List.length_map] at hit
      refine call_set_tupN nh pl (ns := ns) (by simpa using intsAre_of r) (by rw [hit]; unfold scanBound; omega) fun h' tk hS hk => ?_
      rw [hit, firstMet_count] at hS
      obtain ⟨o, es, ep, t, ho, hex, hd', _, _, _, hf', hn'⟩ := hS
      have dl := dist_len ns
      refine PyProof.Rows.args_nil ?_
      have I2 : Inv X pins σ H1 { s1 with heap := h', toks := tk } := I1.kept hk
      refine call_len_set ho hex hd' hf' (by rw [hn']; omega) ⟨.int y, H1, I2.tok _, ⟨_, by rw [hn']; cases hy; rfl⟩, q1⟩
    obtain ⟨l, us, rfl, hl, hs, hA⟩ := hd.list
    cases r1
    have hq : SqL X.K H1 l us := .inl (.inl hl)
    obtain ⟨its, r, pl, hz⟩ := I1.list hq
    have hit : its.toArray.size = us.length := by rw [List.size_toArray, ← r.length]
    have nh := I1.ok.hd hc
    rcases f with ⟨ns, hi, hn, hy⟩ | ⟨ks, hi, hn, hy⟩
    · obtain rfl := intsOf_eq2 hi
      have e := hA.ints_inv
      subst e
      rw [List.length_map] at hit
      refine call_set_list nh pl.isList (ns := ns) (by simpa using r.ints) (by rw [hit]; unfold scanBound; omega) fun h' tk hS hk => ?_
      rw [hit, firstMet_count] at hS
      obtain ⟨o, es, ep, t, ho, hex, hd', _, _, _, hf', hn'⟩ := hS
      have dl := dist_len ns
      refine PyProof.Rows.args_nil ?_
      have I2 : Inv X pins σ H1 { s1 with heap := h', toks := tk } := I1.kept fun b o e => hk b o (Heap.lt_size e) e
      refine call_len_set ho hex hd' hf' (by rw [hn']; omega) ⟨.int y, H1, I2.tok _, ⟨_, by rw [hn']; cases hy; rfl⟩, q1⟩
    · obtain ⟨ps, rfl, e2, h4⟩ := rowsD_vals hA hi
      have dl := dist_len ks
      refine call_set_rows (P := X.prog) (w := X.w) ps nh pl.isList (by simpa using refs_of_vals r) (fun p hp => I1.isT (.inl (.inl (h4 p hp)))) (by rw [← e2, List.length_map] at hn; exact hn) (by omega) fun h' tk n kp => ?_
      rw [e2] at n
      obtain ⟨o, es, ep, t, ho, hex, hd', hf', hn'⟩ := n
      refine PyProof.Rows.args_nil ?_
      have I2 : Inv X pins σ H1 { s1 with heap := h', toks := tk } := I1.kept kp
      refine call_len_set ho hex hd' hf' (by rw [hn']; omega) ⟨.int y, H1, I2.tok _, ⟨_, by rw [hn']; cases hy; rfl⟩, q1⟩
end
end DL

/-! DS4: list(zip(t, u)), t and u tuples. -/
namespace DL
open PySem PySem.Spec L2
open PyProof.Rows hiding St

section
variable {P : Program} {w : World} {A : Around} {E : Value → Shared → Prop} {s : Shared}
/-- the next pair, an earlier one still held -/
theorem zt_item {z TI TO T i1 i2 l1 l2 : Addr} {f : Bool} {oT : Obj} {k : Nat} {xs ys : Array Value} {x y : Value} {Q : Value → Shared → Prop} (D : ZipApart z TI TO i1 i2 l1 l2)
    (gz : IsZipHeld s.heap z TI TO T f) (gT : s.heap.get? T = some oT) (gI : IsPair s.heap TI (.ref i1) (.ref i2)) (j1 : s.heap.IsTupleIter i1 l1 k) (j2 : s.heap.IsTupleIter i2 l2 k) (t1 : s.heap.IsTuple l1 xs) (t2 : s.heap.IsTuple l2 ys)
    (hx : xs[k]? = some x) (hy : ys[k]? = some y)
    (fin : ∀ h', IsZipHeld h' z TI TO T true → h'.IsTupleIter i1 l1 (k + 1) → h'.IsTupleIter i2 l2 (k + 1) → IsPair h' s.heap.objs.size x y → h'.objs.size = s.heap.objs.size + 1 → (∀ c o, c ≠ z → c ≠ i1 → c ≠ i2 → s.heap.get? c = some o → h'.get? c = some o) → Q (.ref s.heap.objs.size) { s with heap := h' }) :
    wpAny (model P w) A (Builtin.«zip.__next__» ⟨[.ref z], []⟩) (fun fin s' => ∃ v, fin = .done (.ret v) ∧ Q v s') E s := by
  show wpAny _ _ (field (.ref z) 2 >>= _) _ _ _
  refine wpAny_bind (wpAny_field gz rfl (x := .bool false) rfl ?_)
  show wpAny _ _ (field (.ref z) 3 >>= _) _ _ _
  refine wpAny_bind (wpAny_field gz rfl (x := .ref TI) rfl (wpAny_bind (wpAny_seqItems gI rfl ?_)))
  show wpAny _ _ (Builtin.SmallTypes.ownedTupleIsFree (.ref z) >>= _) _ _ _
  refine wpAny_bind (wpAny_tupleHeld_zip gz gT fun g1 gz1 b1 => ?_)
  simp only [Bool.false_eq_true, if_false]
  refine wpAny_bind ?_
  rw [← Array.forIn_toList]
  simp only [List.forIn_cons, List.forIn_nil]
  refine wpAny_bind (wpAny_bind (wpAny_holding ?_))
  show wpAny _ _ (Builtin.SmallTypes.nextOf (.ref i1) >>= _) _ _ _
  refine wpAny_bind (RZ.nextOf_tuple_item (s := { s with heap := g1 }) (j1.extBut b1.extBut D.i1z) (t1.extBut b1.extBut D.l1z) hx fun g2 j12 b2 => wpAny_pure (wpAny_pure ?_))
  refine wpAny_bind (wpAny_bind (wpAny_holding ?_))
  show wpAny _ _ (Builtin.SmallTypes.nextOf (.ref i2) >>= _) _ _ _
  refine wpAny_bind (RZ.nextOf_tuple_item (s := { s with heap := g2 }) ((j2.extBut b1.extBut D.i2z).extBut b2.extBut D.i12.symm) ((t2.extBut b1.extBut D.l2z).extBut b2.extBut D.l2i1) hy fun g3 j23 b3 => wpAny_pure (wpAny_pure (wpAny_pure ?_)))
  show wpAny _ _ (newTuple [x, y] >>= _) _ _ _
  refine wpAny_bind (wpAny_newTuple ?_)
  have es : g3.objs.size = s.heap.objs.size := by rw [b3.1, b2.1, b1.1]
  have gz3 : IsZipHeld g3 z TI TO T true := b3.extBut _ _ D.i2z.symm (b2.extBut _ _ D.i1z.symm gz1)
  have kp : ∀ c o, c ≠ z → c ≠ i1 → c ≠ i2 → s.heap.get? c = some o → g3.get? c = some o := fun c o c1 c2 c3 e => b3.extBut _ _ c3 (b2.extBut _ _ c2 (b1.extBut _ _ c1 e))
  have j13 : g3.IsTupleIter i1 l1 (k + 1) := j12.extBut b3.extBut D.i12
  refine wpAny_pure ⟨_, rfl, ?_⟩
  show Q (.ref g3.objs.size) _
  have hp : IsPair (g3.push { cls := .type "tuple", data := .seq #[x, y] }) g3.objs.size x y := Heap.get?_push_size _ rfl
  have z4 : (g3.push { cls := .type "tuple", data := .seq #[x, y] }).objs.size = g3.objs.size + 1 := Heap.size_push ..
  rw [es] at hp z4 ⊢
  exact fin _ (Heap.get?_push_of_some _ gz3) (j13.at fun o e => Heap.get?_push_of_some _ e) (j23.at fun o e => Heap.get?_push_of_some _ e) hp z4 fun c o c1 c2 c3 e => Heap.get?_push_of_some _ (kp c o c1 c2 c3 e)
/-- no further pair, an earlier one still held -/
theorem zt_end {z TI TO T i1 i2 l1 l2 : Addr} {f : Bool} {oT : Obj} {k : Nat} {xs ys : Array Value} {Q : Fin → Shared → Prop} (nh : A.handled = none) (D : ZipApart z TI TO i1 i2 l1 l2)
    (gz : IsZipHeld s.heap z TI TO T f) (gT : s.heap.get? T = some oT) (gI : IsPair s.heap TI (.ref i1) (.ref i2)) (j1 : s.heap.IsTupleIter i1 l1 k) (t1 : s.heap.IsTuple l1 xs) (hx : xs[k]? = none)
    (fin : ∀ h' e, (∀ c o, c ≠ z → c ≠ i1 → c ≠ i2 → s.heap.get? c = some o → h'.get? c = some o) → (∃ o, h'.get? e = some o ∧ o.cls = .type "StopIteration") → E (.ref e) { s with heap := h' }) :
    wpAny (model P w) A (Builtin.«zip.__next__» ⟨[.ref z], []⟩) Q E s := by
  show wpAny _ _ (field (.ref z) 2 >>= _) _ _ _
  refine wpAny_bind (wpAny_field gz rfl (x := .bool false) rfl ?_)
  show wpAny _ _ (field (.ref z) 3 >>= _) _ _ _
  refine wpAny_bind (wpAny_field gz rfl (x := .ref TI) rfl (wpAny_bind (wpAny_seqItems gI rfl ?_)))
  show wpAny _ _ (Builtin.SmallTypes.ownedTupleIsFree (.ref z) >>= _) _ _ _
  refine wpAny_bind (wpAny_tupleHeld_zip gz gT fun g1 gz1 b1 => ?_)
  simp only [Bool.false_eq_true, if_false]
  refine wpAny_bind ?_
  rw [← Array.forIn_toList]
  simp only [List.forIn_cons, List.forIn_nil]
  refine wpAny_bind (wpAny_bind (wpAny_holding ?_))
  show wpAny _ _ (Builtin.SmallTypes.nextOf (.ref i1) >>= _) _ _ _
  exact wpAny_bind (RZ.nextOf_tuple_end (s := { s with heap := g1 }) nh (j1.extBut b1.extBut D.i1z) (t1.extBut b1.extBut D.l1z) hx fun g2 e b2 he => fin g2 e (fun c o c1 c2 _ q => b2 _ _ c2 (b1.extBut _ _ c1 q)) he)
theorem zt_next {z TI TO T i1 i2 l1 l2 : Addr} {f : Bool} {oT : Obj} {k : Nat} {xs ys : Array Value} {x y : Value} {Q : Option Value → Shared → Prop} (D : ZipApart z TI TO i1 i2 l1 l2)
    (gz : IsZipHeld s.heap z TI TO T f) (gT : s.heap.get? T = some oT) (gI : IsPair s.heap TI (.ref i1) (.ref i2)) (j1 : s.heap.IsTupleIter i1 l1 k) (j2 : s.heap.IsTupleIter i2 l2 k) (t1 : s.heap.IsTuple l1 xs) (t2 : s.heap.IsTuple l2 ys)
    (hx : xs[k]? = some x) (hy : ys[k]? = some y)
    (fin : ∀ h', IsZipHeld h' z TI TO T true → h'.IsTupleIter i1 l1 (k + 1) → h'.IsTupleIter i2 l2 (k + 1) → IsPair h' s.heap.objs.size x y → h'.objs.size = s.heap.objs.size + 1 → (∀ c o, c ≠ z → c ≠ i1 → c ≠ i2 → s.heap.get? c = some o → h'.get? c = some o) → Q (some (.ref s.heap.objs.size)) { s with heap := h' }) :
    wpAny (model P w) A (pyNext (.ref z)) Q E s := by
  have ty : s.TypeIs (.ref z) "zip" := ⟨_, gz, rfl⟩
  unfold pyNext
  exact wpAny_bind (wpAny_attempt (wpAny_callSpecial?_slot (name := Str.ofString "__next__") ty F.slot_zip_next (wpAny_call_entry F.slot_zip_next ty F.entry_zip_next
      (zt_item D gz gT gI j1 j2 t1 t2 hx hy fun h' a1 a2 a3 a4 a5 a6 => wpAny_pure (fin h' a1 a2 a3 a4 a5 a6)) (F.args_zip_next_1 _))))
theorem zt_stop {z TI TO T i1 i2 l1 l2 : Addr} {f : Bool} {oT : Obj} {k : Nat} {xs ys : Array Value} {Q : Option Value → Shared → Prop} (nh : A.handled = none) (D : ZipApart z TI TO i1 i2 l1 l2)
    (gz : IsZipHeld s.heap z TI TO T f) (gT : s.heap.get? T = some oT) (gI : IsPair s.heap TI (.ref i1) (.ref i2)) (j1 : s.heap.IsTupleIter i1 l1 k) (t1 : s.heap.IsTuple l1 xs) (hx : xs[k]? = none)
    (fin : ∀ h', (∀ c o, c ≠ z → c ≠ i1 → c ≠ i2 → s.heap.get? c = some o → h'.get? c = some o) → Q none { s with heap := h' }) : wpAny (model P w) A (pyNext (.ref z)) Q E s := by
  have ty : s.TypeIs (.ref z) "zip" := ⟨_, gz, rfl⟩
  unfold pyNext
  refine wpAny_bind (wpAny_attempt (wpAny_callSpecial?_slot (name := Str.ofString "__next__") ty F.slot_zip_next (wpAny_call_entry F.slot_zip_next ty F.entry_zip_next
      (zt_end (ys := ys) nh D gz gT gI j1 t1 hx fun h' e hk he => ?_) (F.args_zip_next_1 _))))
  obtain ⟨o, ho, hc⟩ := he
  exact wpAny_bind (wpAny_isInstance (T := "StopIteration") (b := true) ⟨o, ho, hc⟩ isSubtype_stop (wpAny_pure (fin _ hk)))
abbrev lstO (acc : Array Value) (c : Nat) : Obj := { cls := .type "list", data := .seq acc c }
/-- the list so far -/
structure Zl (h0 : Heap) (S z TI TO i1 i2 l1 l2 : Addr) (xs ys : Array Value) (i : Nat) (h : Heap) (as : List Addr) : Prop where
  lst : ∃ c, h.get? S = some (lstO (as.map Value.ref).toArray c)
  len : as.length = i
  nd : as.Nodup
  big : ∀ a ∈ as, S < a ∧ a < h.objs.size
  prs : ∀ (j : Nat) (a : Addr), as[j]? = some a → ∃ u v, xs[j]? = some u ∧ ys[j]? = some v ∧ IsPair h a u v
  pI : IsPair h TI (.ref i1) (.ref i2)
  j1 : h.IsTupleIter i1 l1 i
  j2 : h.IsTupleIter i2 l2 i
  t1 : h.IsTuple l1 xs
  t2 : h.IsTuple l2 ys
  zip : (IsZip h z TI TO .none ∧ ∃ a b, IsPair h TO a b) ∨ ∃ T f oT, IsZipHeld h z TI TO T f ∧ h.get? T = some oT ∧ S < T
  kp : ∀ b o, b ≠ z → b ≠ TO → b ≠ i1 → b ≠ i2 → h0.get? b = some o → h.get? b = some o
/-- these lie below S -/
structure Zb (S z TI TO i1 i2 l1 l2 : Addr) : Prop where
  z : z < S
  TI : TI < S
  TO : TO < S
  i1 : i1 < S
  i2 : i2 < S
  l1 : l1 < S
  l2 : l2 < S
theorem zip_no_len : typeLookup (.type "zip") "__len__" = pure none := by rw [typeLookup_type, builtinLookup_eq_fast]; kernel_rfl
theorem zip_no_hint : typeLookup (.type "zip") "__length_hint__" = pure none := by rw [typeLookup_type, builtinLookup_eq_fast]; kernel_rfl
theorem zl_loop {h0 : Heap} {S z TI TO i1 i2 l1 l2 : Addr} {xs ys : Array Value} {res : Value} {R : Result → Shared → Prop} (nh : A.handled = none) (D : ZipApart z TI TO i1 i2 l1 l2) (B : Zb S z TI TO i1 i2 l1 l2) (le : xs.size = ys.size) (few : xs.size ≤ sizeLine)
    (n0 : h0.get? S = none)
    (fin : ∀ h' as, Zl h0 S z TI TO i1 i2 l1 l2 xs ys xs.size h' as ∨ (∃ h, Zl h0 S z TI TO i1 i2 l1 l2 xs ys xs.size h as ∧ ∀ b o, b ≠ z → b ≠ TO → b ≠ i1 → b ≠ i2 → h.get? b = some o → h'.get? b = some o) → R (.ok (.ret res)) { s with heap := h' }) :
    ∀ (k i : Nat) (h : Heap) (as : List Addr), i + k = xs.size → Zl h0 S z TI TO i1 i2 l1 l2 xs ys i h as → codeAny (model P w) A (.builtin "list.extend.loop" ⟨[.ref S, .ref z, res], []⟩) R { s with heap := h } := by
  intro k
  induction k with
  | zero =>
    intro i h as e Z
    obtain rfl : i = xs.size := e
    refine codeAny_builtin F.entry_extend_loop ?_
    rw [Around.under_plainId F.plain_extend_loop _]
    show wpAny _ A.in1 (pyNext (.ref z) >>= _) _ _ _
    have hx : xs[xs.size]? = none := Array.getElem?_eq_none (Nat.le_refl _)
    rcases Z.zip with ⟨gz, a, b, gO⟩ | ⟨T, f, oT, gz, gT, _⟩
    · exact wpAny_bind (RZ.pyNext_zipT_end (s := { s with heap := h }) nh D gz Z.pI gO Z.j1 Z.j2 Z.t1 Z.t2 (.inl hx) fun h' hk => wpAny_pure (fin h' as (.inr ⟨h, Z, hk⟩)))
    · exact wpAny_bind (zt_stop (s := { s with heap := h }) (ys := ys) nh D gz gT Z.pI Z.j1 Z.t1 hx fun h' hk => wpAny_pure (fin h' as (.inr ⟨h, Z, fun b o c1 _ c3 c4 => hk b o c1 c3 c4⟩)))
  | succ k ih =>
    intro i h as e Z
    refine codeAny_builtin F.entry_extend_loop ?_
    rw [Around.under_plainId F.plain_extend_loop _]
    show wpAny _ A.in1 (pyNext (.ref z) >>= _) _ _ _
    have ex := Array.getElem?_eq_getElem (show i < xs.size by omega)
    have ey := Array.getElem?_eq_getElem (show i < ys.size by omega)
    obtain ⟨c, gS⟩ := Z.lst
    have sS : S < h.objs.size := Heap.lt_size gS
    have goal : ∀ h', IsPair h' h.objs.size xs[i] ys[i] → h'.objs.size = h.objs.size + 1 → h'.IsTupleIter i1 l1 (i + 1) → h'.IsTupleIter i2 l2 (i + 1) → (∃ T f oT, IsZipHeld h' z TI TO T f ∧ h'.get? T = some oT ∧ S < T) → (∀ c o, c ≠ z → c ≠ TO → c ≠ i1 → c ≠ i2 → h.get? c = some o → h'.get? c = some o) →
        wpAny (model P w) A.in1 (updateSeq S (·.push (.ref h.objs.size)) >>= fun _ => again (.builtin "list.extend.loop" ⟨[.ref S, .ref z, res], []⟩)) (fun fin s' => match fin with | .done f => R (.ok f) s' | .again c' => c'.quiet = true ∧ codeAny (model P w) A c' R s') (fun e s' => R (.error e) s') { s with heap := h' } := fun h' p1 sz1 j1 j2 zp kp => by
      have gS1 := kp S _ (Nat.ne_of_gt B.z) (Nat.ne_of_gt B.TO) (Nat.ne_of_gt B.i1) (Nat.ne_of_gt B.i2) gS
      have asz : (as.map Value.ref).toArray.size = i := by rw [List.size_toArray, List.length_map, Z.len]
      have k2 : ∀ b o, b ≠ S → h'.get? b = some o → (h'.update S (Obj.mapSeq (·.push (Value.ref h.objs.size)))).get? b = some o := fun b o hb q => (Heap.get?_update_other _ _ (Ne.symm hb)).trans q
      have gS2 := Heap.get?_update_self (Obj.mapSeq (·.push (Value.ref h.objs.size))) gS1 rfl
      refine wpAny_bind (wpAny_updateSeq (s := { s with heap := h' }) gS1 rfl (wpAny_pure ⟨plainId_quiet F.plain_extend_loop _, ?_⟩) (by rw [asz]; omega) (by show (Array.push _ _).size ≤ _; rw [Array.size_push, asz]; omega))
      refine ih (i + 1) _ (as ++ [h.objs.size]) (by omega) ⟨⟨_, gS2.trans (congrArg (fun a => some (lstO a _)) ?_)⟩, by rw [List.length_append, Z.len]; rfl, ?_, fun a ha => ?_, fun j a ha => ?_, ?_, j1.at fun o q => k2 _ o (Nat.ne_of_lt B.i1) q, j2.at fun o q => k2 _ o (Nat.ne_of_lt B.i2) q, ?_, ?_, ?_, fun b o c1 c2 c3 c4 q => ?_⟩
      · show Array.push _ _ = _
        rw [List.map_append, List.map_singleton, List.push_toArray]
      · rw [List.nodup_append]
        refine ⟨Z.nd, by simp, fun a ha b hb q => ?_⟩
        rw [List.mem_singleton] at hb
        exact Nat.ne_of_lt (Z.big a ha).2 (q.trans hb)
      · have us : (h'.update S (Obj.mapSeq (·.push (Value.ref h.objs.size)))).objs.size = h'.objs.size := Heap.size_update ..
        rw [us, sz1]
        rcases List.mem_append.mp ha with q | q
        · exact ⟨(Z.big a q).1, Nat.lt_succ_of_lt (Z.big a q).2⟩
        · rw [List.mem_singleton.mp q]; exact ⟨sS, Nat.lt_succ_self _⟩
      · rcases Nat.lt_or_ge j as.length with q | q
        · rw [List.getElem?_append_left q] at ha
          obtain ⟨u, v, e1, e2, p⟩ := Z.prs j a ha
          obtain ⟨b1, b2⟩ := Z.big a (List.mem_of_getElem? ha)
          have up : ∀ {c : Addr}, c < S → a ≠ c := fun q => Nat.ne_of_gt (Nat.lt_trans q b1)
          exact ⟨u, v, e1, e2, k2 _ _ (Nat.ne_of_gt b1) (kp _ _ (up B.z) (up B.TO) (up B.i1) (up B.i2) p)⟩
        · rw [List.getElem?_append_right q] at ha
          have ej : j - as.length = 0 := by
            cases hj : j - as.length with
            | zero => rfl
            | succ m => rw [hj] at ha; cases ha
          rw [ej] at ha
          cases ha
          obtain rfl : j = i := by have := Z.len; omega
          exact ⟨_, _, ex, ey, k2 _ _ (Nat.ne_of_gt sS) p1⟩
      · exact k2 _ _ (Nat.ne_of_lt B.TI) (kp _ _ D.TIz D.TITO D.TIi1 D.TIi2 Z.pI)
      · exact (Z.t1.at fun o q => kp _ o D.l1z D.l1TO D.l1i1 D.l1i2 q).at fun o q => k2 _ o (Nat.ne_of_lt B.l1) q
      · exact (Z.t2.at fun o q => kp _ o D.l2z D.l2TO D.l2i1 D.l2i2 q).at fun o q => k2 _ o (Nat.ne_of_lt B.l2) q
      · obtain ⟨T, f, oT, z1, z2, z3⟩ := zp
        exact .inr ⟨T, f, oT, k2 _ _ (Nat.ne_of_lt B.z) z1, k2 _ _ (Nat.ne_of_gt z3) z2, z3⟩
      · exact k2 _ _ (fun y => by rw [y, n0] at q; cases q) (kp b o c1 c2 c3 c4 (Z.kp b o c1 c2 c3 c4 q))
    rcases Z.zip with ⟨gz, a, b, gO⟩ | ⟨T, f, oT, gz, gT, bT⟩
    · exact wpAny_bind (RZ.pyNext_zipT_item (s := { s with heap := h }) D gz Z.pI gO Z.j1 Z.j2 Z.t1 Z.t2 ex ey fun h' a1 a2 a3 a4 a5 a6 kp => goal h' a5 a6 a3 a4 ⟨_, false, _, a1, a5, sS⟩ kp)
    · have up : ∀ {c : Addr}, c < S → T ≠ c := fun q => Nat.ne_of_gt (Nat.lt_trans q bT)
      exact wpAny_bind (zt_next (s := { s with heap := h }) D gz gT Z.pI Z.j1 Z.j2 Z.t1 Z.t2 ex ey fun h' a1 a2 a3 a4 a5 kp => goal h' a4 a5 a2 a3 ⟨T, true, oT, a1, kp _ _ (up B.z) (up B.i1) (up B.i2) gT, bT⟩ fun c o c1 _ c3 c4 => kp c o c1 c3 c4)
set_option maxHeartbeats 1600000 in
theorem call_list_zt {z TI TO i1 i2 l1 l2 : Addr} {xs ys : Array Value} {a b : Value} {Q : Value → Shared → Prop} (nh : A.handled = none) (D : ZipApart z TI TO i1 i2 l1 l2) (B : Zb s.heap.objs.size z TI TO i1 i2 l1 l2) (le : xs.size = ys.size) (few : xs.size ≤ sizeLine)
    (gz : IsZip s.heap z TI TO .none) (gI : IsPair s.heap TI (.ref i1) (.ref i2)) (gO : IsPair s.heap TO a b) (j1 : s.heap.IsTupleIter i1 l1 0) (j2 : s.heap.IsTupleIter i2 l2 0) (t1 : s.heap.IsTuple l1 xs) (t2 : s.heap.IsTuple l2 ys)
    (fin : ∀ (h' : Heap) (as : List Addr), (∃ c, h'.get? s.heap.objs.size = some (lstO (as.map Value.ref).toArray c)) → as.length = xs.size → as.Nodup → (∀ x ∈ as, s.heap.objs.size < x) → (∀ (j : Nat) x, as[j]? = some x → ∃ u v, xs[j]? = some u ∧ ys[j]? = some v ∧ IsPair h' x u v) →
      (∀ b o, b ≠ z → b ≠ TO → b ≠ i1 → b ≠ i2 → s.heap.get? b = some o → h'.get? b = some o) → Q (.ref s.heap.objs.size) { s with heap := h' }) :
    wpAny (model P w) A (call (.type "list") [.ref z]) Q E s := by
  refine callType_codes (Q₁ := fun obj s₁ => obj = .ref s.heap.objs.size ∧ s₁ = { s with heap := s.heap.push { cls := .type "list", data := .seq #[] } }) F.called_list (F.typeCall_list_1 _) F.entry_list_init
    (code_list_new _ ⟨rfl, rfl⟩) fun obj s₁ h₁ => ?_
  obtain ⟨rfl, rfl⟩ := h₁
  have gS : (s.heap.push { cls := .type "list", data := .seq #[] }).get? s.heap.objs.size = some { cls := .type "list", data := .seq #[] } := Heap.get?_push_size _ rfl
  refine ⟨⟨_, gS, rfl⟩, F.args_list_init_2 _ _, ?_⟩
  show wpAny _ A.in1.in1 (do let old ← Builtin.List.listItems (.ref s.heap.objs.size); Builtin.List.listUpdate (.ref s.heap.objs.size) (fun _ => #[]); letGo old.toList.reverse; Builtin.List.listExtendWith (.ref s.heap.objs.size) (.ref z) .none) _ _ _
  refine wpAny_bind ?_
  unfold Builtin.List.listItems
  refine wpAny_bind (wpAny_seqItems gS rfl (wpAny_pure ?_))
  show wpAny _ A.in1.in1 (updateSeq s.heap.objs.size (fun _ => #[]) >>= fun _ => letGo (#[] : Array Value).toList.reverse >>= fun _ => Builtin.List.listExtendWith (.ref s.heap.objs.size) (.ref z) .none) _ _ _
  refine wpAny_bind (wpAny_updateSeq gS rfl ?_)
  have gS2 := Heap.get?_update_self (Obj.mapSeq (fun _ => (#[] : Array Value))) gS rfl
  refine wpAny_bind (wpAny_letGo ?_)
  unfold Builtin.List.listExtendWith
  have up : ∀ (h : Heap) (f : Obj → Obj), (∀ b o, s.heap.get? b = some o → h.get? b = some o) → ∀ b o, s.heap.get? b = some o → (h.update s.heap.objs.size f).get? b = some o := fun h f q b o e =>
    (Heap.get?_update_other _ _ (Ne.symm (Nat.ne_of_lt (Heap.lt_size e)))).trans (q b o e)
  have k1 : ∀ b o, s.heap.get? b = some o → (s.heap.push { cls := .type "list", data := .seq #[] }).get? b = some o := fun b o e => Heap.get?_push_of_some _ e
  have k2 := up _ (Obj.mapSeq (fun _ => (#[] : Array Value))) k1
  have ty : ∀ {h : Heap}, (∀ b o, s.heap.get? b = some o → h.get? b = some o) → Shared.TypeIs { s with heap := h } (.ref z) "zip" := fun {h} q => ⟨_, q _ _ gz, rfl⟩
  refine wpAny_bind (wpAny_typeOf (ty k2) ?_)
  have h1 : Builtin.List.listSameRef (.ref s.heap.objs.size) (.ref z) = false := by simp [Builtin.List.listSameRef, Nat.ne_of_gt B.z]
  have h2 : (Value.type "zip" == Value.type "list") = false := by decide
  have h3 : (Value.type "zip" == Value.type "tuple") = false := by decide
  simp only [h1, h2, h3, Bool.or_false, Bool.false_eq_true, if_false]
  refine wpAny_bind (wpAny_pyIter_zip (s := { s with heap := _ }) (k2 _ _ gz) ?_)
  refine wpAny_bind (wpAny_holding ?_)
  unfold Builtin.List.listLengthHint
  refine wpAny_bind (wpAny_specialOf (ty k2) zip_no_len ?_)
  show wpAny _ A.in1.in1 (specialOf (Value.ref z) (Str.ofString "__length_hint__") >>= _) _ _ _
  refine wpAny_bind (wpAny_specialOf (ty k2) zip_no_hint ?_)
  refine wpAny_pure ?_
  show wpAny _ A.in1.in1 (rule "list.extend.makes-room" >>= fun _ => Builtin.List.listTouch (.ref s.heap.objs.size) >>= fun _ =>
    again (.builtin "list.extend.loop" ⟨[.ref s.heap.objs.size, .ref z, .none], []⟩)) _ _ _
  refine wpAny_bind (wpAny_rule ?_)
  refine wpAny_bind ?_
  show wpAny _ A.in1.in1 (updateSeq s.heap.objs.size (·.push .none) >>= fun _ => updateSeq s.heap.objs.size (·.pop)) _ _ _
  refine wpAny_bind (wpAny_updateSeq gS2 rfl ?_)
  have gS3 := Heap.get?_update_self (Obj.mapSeq (·.push Value.none)) gS2 rfl
  refine wpAny_updateSeq (hz := by seq_fits) gS3 rfl ?_
  have gS4 := Heap.get?_update_self (Obj.mapSeq (·.pop)) gS3 rfl
  have k4 := up _ (Obj.mapSeq (·.pop)) (up _ (Obj.mapSeq (·.push Value.none)) k2)
  refine wpAny_pure ⟨plainId_quiet F.plain_extend_loop _, ?_⟩
  have n0 : s.heap.get? s.heap.objs.size = none := by
    cases q : s.heap.get? s.heap.objs.size with
    | none => rfl
    | some o => exact absurd (Heap.lt_size q) (Nat.lt_irrefl _)
  refine zl_loop (s := s) (A := A.in1) (h0 := s.heap) (S := s.heap.objs.size) (by simpa using nh) D B le few n0 (fun h' as q => ⟨rfl, ?_⟩) xs.size 0 _ [] (Nat.zero_add _) ⟨⟨_, gS4⟩, rfl, List.nodup_nil, (fun a ha => nomatch ha), (fun j a ha => nomatch ha), k4 _ _ gI, j1.at fun o e => k4 _ o e, j2.at fun o e => k4 _ o e, t1.at fun o e => k4 _ o e, t2.at fun o e => k4 _ o e, .inl ⟨k4 _ _ gz, _, _, k4 _ _ gO⟩, fun b o _ _ _ _ e => k4 b o e⟩
  rcases q with Z | ⟨h, Z, kp⟩
  · exact fin h' as Z.lst Z.len Z.nd (fun x hx => (Z.big x hx).1) Z.prs Z.kp
  · have ne : ∀ {b c : Addr}, s.heap.objs.size ≤ b → c < s.heap.objs.size → b ≠ c := fun p q => Nat.ne_of_gt (Nat.lt_of_lt_of_le q p)
    obtain ⟨c, e⟩ := Z.lst
    refine fin h' as ⟨c, kp _ _ (ne (Nat.le_refl _) B.z) (ne (Nat.le_refl _) B.TO) (ne (Nat.le_refl _) B.i1) (ne (Nat.le_refl _) B.i2) e⟩ Z.len Z.nd (fun x hx => (Z.big x hx).1) (fun j x hx => ?_) fun b o c1 c2 c3 c4 q => kp b o c1 c2 c3 c4 (Z.kp b o c1 c2 c3 c4 q)
    obtain ⟨u, v, e1, e2, p⟩ := Z.prs j x hx
    have hb := Nat.le_of_lt (Z.big x (List.mem_of_getElem? hx)).1
    exact ⟨u, v, e1, e2, kp _ _ (ne hb B.z) (ne hb B.TO) (ne hb B.i1) (ne hb B.i2) p⟩
end
end DL

/-! DS5: list(zip(a, b)), the reading; a < b of tuples of ints; the greatest of a tuple. -/
namespace DL
open PySem PySem.Spec L2
open PyProof.Rows hiding St

/-- pairs laid at these addresses -/
def laidT (H : Hp) : List Addr → List (V × V) → Hp
  | a :: as, p :: ps => upd (laidT H as ps) a (.tup [p.1, p.2])
  | _, _ => H
theorem laidT_ne {H : Hp} {b : Addr} : ∀ {as : List Addr} {ps : List (V × V)}, b ∉ as → laidT H as ps b = H b
  | [], _, _ => by unfold laidT; rfl
  | _ :: _, [], _ => by unfold laidT; rfl
  | a :: as, p :: ps, h => by
    rw [laidT, upd_ne (fun e => h (by rw [e]; exact List.mem_cons_self))]
    exact laidT_ne fun q => h (List.mem_cons_of_mem _ q)
theorem laidT_at {H : Hp} : ∀ {as : List Addr} {ps : List (V × V)} {j : Nat} {a : Addr} {p : V × V}, as.Nodup → as[j]? = some a → ps[j]? = some p → laidT H as ps a = some (.tup [p.1, p.2])
  | [], _, j, _, _, _, h, _ => by cases j <;> cases h
  | _ :: _, [], j, _, _, _, _, h => by cases j <;> cases h
  | _ :: _, _ :: _, 0, _, _, _, h1, h2 => by cases h1; cases h2; rw [laidT]; exact upd_same
  | b :: as, q :: ps, j + 1, a, p, nd, h1, h2 => by
    rw [List.nodup_cons] at nd
    have h1 : as[j]? = some a := h1
    rw [laidT, upd_ne (fun e => nd.1 (by rw [← e]; exact List.mem_of_getElem? h1))]
    exact laidT_at nd.2 h1 h2
section
variable {X : Cx} {pins : List (Addr × Obj)} {σ : L2.St} {H : Hp} {s : Shared}
theorem Inv.pairs : ∀ {as : List Addr} {ps : List (V × V)} {h' : Heap}, Inv X pins σ H s → Kp s.heap h' → (∀ x ∈ as, s.heap.objs.size ≤ x) → as.Nodup → as.length = ps.length →
    (∀ (j : Nat) (x : Addr) (p : V × V), as[j]? = some x → ps[j]? = some p → ∃ u v, RelV p.1 u ∧ RelV p.2 v ∧ IsPair h' x u v) → Inv X pins σ (laidT H as ps) { s with heap := h' }
  | [], ps, h', I, k, _, _, _, _ => by unfold laidT; exact I.kept (t' := s.toks) k
  | _ :: _, [], _, _, _, _, _, e, _ => nomatch e
  | a :: as, p :: ps, h', I, k, big, nd, e, pr => by
    rw [List.nodup_cons] at nd
    obtain ⟨G, g1, g2⟩ := restrict h' fun b => decide (b ≠ a)
    have gk : ∀ b o, b ≠ a → h'.get? b = some o → G.get? b = some o := fun b o hb q => by
      rw [g1 b (decide_eq_true hb)]
      exact q
    have ga : G.get? a = none := g2 a (decide_eq_false fun z => z rfl)
    have big_a := big a List.mem_cons_self
    have I1 : Inv X pins σ (laidT H as ps) { s with heap := G } := Inv.pairs I (fun b o q => gk b o (Nat.ne_of_lt (Nat.lt_of_lt_of_le (Heap.lt_size q) big_a)) (k b o q)) (fun x hx => big x (List.mem_cons_of_mem _ hx)) nd.2 (Nat.succ.inj e) fun j x q h1 h2 => by
      obtain ⟨u, v, r1, r2, hp⟩ := pr (j + 1) x q h1 h2
      exact ⟨u, v, r1, r2, gk _ _ (fun z => nd.1 (by rw [← z]; exact List.mem_of_getElem? h1)) hp⟩
    obtain ⟨u, v, r1, r2, hp⟩ := pr 0 a p rfl rfl
    rw [laidT]
    exact I1.laidN (h' := h') (t' := s.toks) (fun b o q => by
      have hb : b ≠ a := fun z => by
        have q : G.get? b = some o := q
        rw [z, ga] at q; cases q
      have q : G.get? b = some o := q
      rw [g1 b (decide_eq_true hb)] at q
      exact q) ga (by rw [laidT_ne nd.1]; exact I.hok.fresh big_a) ⟨by show 2 ≤ sizeLine; decide, [u, v], .cons r1 (.cons r2 .nil), ⟨_, hp, rfl, _, rfl⟩⟩
theorem refs_vals : ∀ as : List Addr, Vals (as.map V.ref) (as.map Value.ref)
  | [] => .nil
  | _ :: as => .cons rfl (refs_vals as)
theorem Inv.pairsL {as : List Addr} {ps : List (V × V)} {h' : Heap} {S c : Nat} (I : Inv X pins σ H s) (k : Kp s.heap h') (big : ∀ x ∈ as, s.heap.objs.size ≤ x) (nd : as.Nodup) (e : as.length = ps.length)
    (pr : ∀ (j : Nat) (x : Addr) (p : V × V), as[j]? = some x → ps[j]? = some p → ∃ u v, RelV p.1 u ∧ RelV p.2 v ∧ IsPair h' x u v) (hS : s.heap.objs.size ≤ S) (nS : S ∉ as) (gS : h'.get? S = some (lstO (as.map Value.ref).toArray c)) (few : as.length ≤ sizeLine) :
    Inv X pins σ (upd (laidT H as ps) S (.lst (as.map V.ref))) { s with heap := h' } := by
  obtain ⟨G, g1, g2⟩ := restrict h' fun b => decide (b ≠ S)
  have gk : ∀ b o, b ≠ S → h'.get? b = some o → G.get? b = some o := fun b o hb q => by
    rw [g1 b (decide_eq_true hb)]
    exact q
  have ga : G.get? S = none := g2 S (decide_eq_false fun z => z rfl)
  have I1 : Inv X pins σ (laidT H as ps) { s with heap := G } := Inv.pairs I (fun b o q => gk b o (Nat.ne_of_lt (Nat.lt_of_lt_of_le (Heap.lt_size q) hS)) (k b o q)) big nd e fun j x q h1 h2 => by
    obtain ⟨u, v, r1, r2, hp⟩ := pr j x q h1 h2
    exact ⟨u, v, r1, r2, gk _ _ (fun z => nS (by rw [← z]; exact List.mem_of_getElem? h1)) hp⟩
  exact I1.laidN (h' := h') (t' := s.toks) (fun b o q => by
    have q : G.get? b = some o := q
    have hb : b ≠ S := fun z => by rw [z, ga] at q; cases q
    rw [g1 b (decide_eq_true hb)] at q
    exact q) ga (by rw [laidT_ne nS]; exact I.hok.fresh hS) ⟨by rw [List.length_map]; exact few, as.map Value.ref, c, refs_vals as, gS⟩
end
section
variable {X : Cx} {e e2 : Expr} {ta : TA} {p p2 pos pos2 : Pos}
def tListZip (K : PySem.W.Frag) (ta : TA) : TE := fun σ H Q => ta σ H fun vs H1 => ∃ a b xs ys, vs = [V.ref a, V.ref b] ∧ SqT K H1 a xs ∧ SqT K H1 b ys ∧ xs.length = ys.length ∧
  ∀ (q : Addr) (as : List Addr), H1 q = none → (∀ x ∈ as, H1 x = none) → q ∉ as → as.Nodup → as.length = xs.length → xs.length ≤ sizeLine → Q (.ref q) (upd (laidT H1 as (xs.zip ys)) q (.lst (as.map V.ref)))
theorem pe_listZip (hc : X.calm = true) (hml : X.mg "list" = none) (hmz : X.mg "zip" = none) (ha : PA X [e, e2] ta) (hgl : Gl X "list" := by rfl) (hgz : Gl X "zip" := by rfl) (hs : starEach [e, e2] X.env = (false, eval e X.env) :: starEach [e2] X.env := by rfl) (hpl : (backTo pos2 (starEach [e2] X.env)).any (·.1) = false := by rfl)
    (na : starEach [.Call (.Name "zip" p2) [e, e2] [] pos2] X.env = (false, eval (.Call (.Name "zip" p2) [e, e2] [] pos2) X.env) :: starEach [] X.env := by rfl) :
    PE X (.Call (.Name "list" p) [.Call (.Name "zip" p2) [e, e2] [] pos2] [] pos) (tListZip X.K ta) := by
  refine ⟨fun pins s σ H Q I h => ?_⟩
  refine Call_ (ld_blt I hgl hml PyProof.Rows.boot_list (PyProof.Rows.callWith_type1 (PyProof.Rows.args_cons ?_ na) na))
  refine Call_ (ld_blt I hgz hmz PyProof.Rows.boot_zip (PyProof.Rows.callWith_type1 (thn (ha.run pos2 pins s σ H _ I h) fun us s1 ⟨vs, H1, I1, r1, q1⟩ => ?_) hs hpl))
  obtain ⟨a, b, xs, ys, rfl, hx, hy, le, q⟩ := q1
  cases r1 with
  | cons r rr =>
    cases rr with
    | cons r' rr =>
      cases rr
      cases r
      cases r'
      obtain ⟨ix, rx, px, zx⟩ := I1.tuple hx
      obtain ⟨iy, ry, py, zy⟩ := I1.tuple hy
      have lx := rx.length
      have ly := ry.length
      have tx : s1.heap.IsTuple a ix.toArray := px
      have ty : s1.heap.IsTuple b iy.toArray := py
      obtain ⟨o1, ho1, _⟩ := id px
      obtain ⟨o2, ho2, _⟩ := id py
      have ba := Heap.lt_size ho1
      have bb := Heap.lt_size ho2
      refine RZ.call_zipT tx ty fun h1 hz hI hO j1 j2 sz hk => PyProof.Rows.args_nil ?_
      have bd : Zb h1.objs.size (s1.heap.objs.size + 4) (s1.heap.objs.size + 2) (s1.heap.objs.size + 3) s1.heap.objs.size (s1.heap.objs.size + 1) a b := by
        rw [sz]
        exact ⟨Nat.lt_succ_self _, Nat.add_lt_add_left (by decide) _, Nat.add_lt_add_left (by decide) _, Nat.lt_add_of_pos_right (by decide), Nat.add_lt_add_left (by decide) _, Nat.lt_of_lt_of_le ba (Nat.le_add_right _ _), Nat.lt_of_lt_of_le bb (Nat.le_add_right _ _)⟩
      refine call_list_zt (s := { s1 with heap := h1 }) (xs := ix.toArray) (ys := iy.toArray) (I1.ok.hd hc) (PySem.W.ktu_apart s1.heap.objs.size a b ba bb) bd (by rw [List.size_toArray, List.size_toArray, ← lx, ← ly, le]) (by rw [List.size_toArray, ← lx]; exact zx) hz hI hO j1 j2 (tx.at fun o q => hk _ o q) (ty.at fun o q => hk _ o q) fun h' as ⟨c, gS⟩ la nd big prs kp => ?_
      have sz2 : s1.heap.objs.size ≤ h1.objs.size := by rw [sz]; exact Nat.le_add_right _ _
      have big2 : ∀ x ∈ as, s1.heap.objs.size ≤ x := fun x hx => Nat.le_of_lt (Nat.lt_of_le_of_lt sz2 (big x hx))
      have nS : h1.objs.size ∉ as := fun z => Nat.lt_irrefl _ (big _ z)
      rw [List.size_toArray, ← lx] at la
      have kp1 : Kp s1.heap h' := fun b o q => by
        have l := Heap.lt_size q
        exact kp b o (Nat.ne_of_lt (Nat.lt_of_lt_of_le l (Nat.le_add_right _ _))) (Nat.ne_of_lt (Nat.lt_of_lt_of_le l (Nat.le_add_right _ _))) (Nat.ne_of_lt l) (Nat.ne_of_lt (Nat.lt_of_lt_of_le l (Nat.le_add_right _ _))) (hk b o q)
      have I2 : Inv X pins σ (upd (laidT H1 as (xs.zip ys)) h1.objs.size (.lst (as.map V.ref))) { s1 with heap := h' } := by
        refine Inv.pairsL (s := s1) (c := c) I1 kp1 big2 nd (by rw [la, List.length_zip, ← le, Nat.min_self]) (fun j x pr h2 h3 => ?_) sz2 nS gS (by rw [la]; exact zx)
        obtain ⟨u, v, e1, e2, hp⟩ := prs j x h2
        obtain ⟨z1, z2⟩ := List.getElem?_zip_eq_some.mp h3
        obtain ⟨u', g1, r1⟩ := rx.get z1
        obtain ⟨v', g2, r2⟩ := ry.get z2
        have e1 : ix[j]? = some u := by simpa using e1
        have e2 : iy[j]? = some v := by simpa using e2
        rw [e1] at g1
        rw [e2] at g2
        cases g1
        cases g2
        exact ⟨u, v, r1, r2, hp⟩
      exact ⟨.ref h1.objs.size, _, I2, rfl, q _ as (I1.hok.fresh sz2) (fun x hx => I1.hok.fresh (big2 x hx)) nS nd la zx⟩
end
section
variable {X : Cx} {C : Exs} {W : WX} {K : PySem.W.Frag} {a b : Expr} {ma mb : ME PyData} {p p2 pos pos2 : Pos}
def zipD : List PyData → List PyData → List PyData
  | x :: xs, y :: ys => .tuple [x, y] :: zipD xs ys
  | _, _ => []
/-- list(zip(t, u)), t and u of one length -/
def fZip : PyData → PyData → Option (List PyData)
  | .tuple xs, .tuple ys => if decide (xs.length = ys.length) then some (zipD xs ys) else none
  | _, _ => none
def mOpF (f : PyData → PyData → Option (List PyData)) (a b : ME PyData) : ME (List PyData) := a.bind fun x => b.bind fun y => ME.lift (f x y)
theorem zip_df {H H1 : Hp} {g g' : Addr → Prop} : ∀ {xs ys : List V} {ds es : List PyData} {as : List Addr}, DfAll K H1 g xs ds → DfAll K H1 g ys es → as.length = xs.length → xs.length = ys.length → (∀ (j : Nat) (a : Addr) (p : V × V), as[j]? = some a → (xs.zip ys)[j]? = some p → H a = some (.tup [p.1, p.2])) →
    (∀ {v d}, Df K H1 g v d → Df K H g' v d) → DfAll K H g' (as.map V.ref) (zipD ds es)
  | [], [], _, _, [], .nil, .nil, _, _, _, _ => .nil
  | x :: xs, y :: ys, _, _, a :: as, .cons h1 h2, .cons h3 h4, e1, e2, at_, up =>
    .cons (.tup (at_ 0 a (x, y) rfl rfl) (show 2 ≤ sizeLine by decide) (.cons (up h1) (.cons (up h3) .nil))) (zip_df h2 h4 (Nat.succ.inj e1) (Nat.succ.inj e2) (fun j a p q1 q2 => at_ (j + 1) a p q1 q2) up)
  | [], _ :: _, _, _, _, _, _, _, e, _, _ => nomatch e
  | _ :: _, [], _, _, _, _, _, _, e, _, _ => nomatch e
  | [], _, _, _, _ :: _, _, _, e, _, _, _ => nomatch e
  | _ :: _, _, _, _, [], _, _, e, _, _, _ => nomatch e
theorem ext_laidT {Γ : Gm} {H : Hp} : ∀ {as : List Addr} {ps : List (V × V)}, (∀ x ∈ as, H x = none) → as.Nodup → Ext Γ H (laidT H as ps) := fun {as ps} h nd b o n q => by
  rw [laidT_ne fun z => by rw [h b z] at q; cases q]
  exact q
theorem drr_laidT {Γ : Gm} {H : Hp} {ds : DS} (d : DrR K Γ H ds) : ∀ {as : List Addr} {ps : List (V × V)}, (∀ x ∈ as, H x = none) → as.Nodup → DrR K Γ (laidT H as ps) ds
  | [], _, _, _ => by unfold laidT; exact d
  | _ :: _, [], _, _ => by unfold laidT; exact d
  | a :: as, p :: ps, h, nd => by
    rw [List.nodup_cons] at nd
    rw [laidT]
    exact (drr_laidT d (fun x hx => h x (List.mem_cons_of_mem _ hx)) nd.2).new (by rw [laidT_ne nd.1]; exact h a List.mem_cons_self)
theorem sf_listZip (hc : X.calm = true) (hml : X.mg "list" = none) (hmz : X.mg "zip" = none) (ha : SE X C W a ma) (hb : SE X C W b mb) (hgl : Gl X "list" := by rfl) (hgz : Gl X "zip" := by rfl) (hs : starEach [a, b] X.env = (false, eval a X.env) :: starEach [b] X.env := by rfl) (hs2 : starEach [b] X.env = (false, eval b X.env) :: starEach [] X.env := by rfl) (hpl : (backTo pos2 (starEach [b] X.env)).any (·.1) = false := by rfl)
    (na : starEach [.Call (.Name "zip" p2) [a, b] [] pos2] X.env = (false, eval (.Call (.Name "zip" p2) [a, b] [] pos2) X.env) :: starEach [] X.env := by rfl) :
    SF X C W (.Call (.Name "list" p) [.Call (.Name "zip" p2) [a, b] [] pos2] [] pos) (mOpF fZip ma mb) :=
  PE.imp (pe_listZip hc hml hmz (pa_cons ha (pa_cons hb pa_nil hs2) hs) hgl hgz hs hpl na) fun σ H Q ⟨Γ, env, ds, R, h⟩ => by
    refine ⟨Γ, env, ds, R, h.bind.imp fun d ds1 H1 e1 d1 q x hx => ⟨Γ, env, ds1, R.go e1 d1, q.bind.imp fun e ds2 H2 e2 d2 q y hy => ?_⟩⟩
    obtain ⟨z, hz, q⟩ := lift_some q
    have hx := hx.ext e2 d1
    unfold fZip at hz
    split at hz
    · rename_i xs ys
      split at hz
      · rename_i le
        have le := of_decide_eq_true le
        cases hz
        cases hx with
        | @tup _ us _ g1 g2 g3 =>
          cases hy with
          | @tup _ ws _ k1 k2 k3 =>
            have l1 := g3.length
            have l2 := k3.length
            refine ⟨_, _, _, _, rfl, SqT.of g1, SqT.of k1, by rw [l1, l2, le], fun r as hr ha nr nd la lz => ?_⟩
            have E1 : Ext Γ H2 (laidT H2 as (us.zip ws)) := ext_laidT (ps := us.zip ws) ha nd
            have D1 := drr_laidT d2 (ps := us.zip ws) ha nd
            have hr1 := (laidT_ne (H := H2) (ps := us.zip ws) nr).trans hr
            refine q _ (E1.trans (ext_new hr1)) (D1.new hr1) r (as.map V.ref) (R.none_back e1 d1 ((R.go e1 d1).none_back e2 d2 hr)) upd_same (by rw [List.length_map, la]; exact lz) ?_
            refine zip_df g3 k3 la (by rw [l1, l2, le]) (fun j a pr q1 q2 => ?_) fun {v d} hd => ?_
            · rw [upd_ne (fun z => nr (by rw [← z]; exact List.mem_of_getElem? q1))]
              exact laidT_at nd q1 q2
            · exact (hd.avoid hr).mono (fun a u q e => ⟨q, (E1.trans (ext_new hr1)) a _ q.1.2.2 e⟩) fun _ _ q => tup_ext (E1.trans (ext_new hr1)) d2 q
      · cases hz
    · cases hz
end
end DL

/-! DS6: max(t), t < u of tuples of ints. -/
namespace DL
open PySem PySem.Spec L2
open PyProof.Rows hiding St
section
variable {P : Program} {w : World} {A : Around} {E : Value → Shared → Prop} {s : Shared} {l : Addr} {its : List Value} {ns : List Int} {Q : Value → Shared → Prop}
theorem tup_iter {xs : Array Value} {Q : Value → Shared → Prop} (hl : s.heap.IsTuple l xs)
    (h : ∀ z : Shared, z = { s with heap := s.heap.push { cls := .type "tuple_iterator", data := .fields #[.ref l, .int 0 0] } } → (z.heap.IsTupleIter s.heap.objs.size l 0 ∧ z.heap.IsTuple l xs) → (∀ b ∈ [s.heap.objs.size, l], b < z.heap.objs.size) → l ≠ s.heap.objs.size → Q (.ref s.heap.objs.size) z) :
    wpAny (model P w) A (pyIter (.ref l)) Q E s := by
  have hlt : l < s.heap.objs.size := by obtain ⟨_, e, _⟩ := hl; exact Heap.lt_size e
  refine wpAny_pyIter_tuple hl (h _ rfl ⟨⟨_, Heap.get?_push_size _ rfl, rfl, rfl⟩, hl.push _⟩ (fun b hb => ?_) (Nat.ne_of_lt hlt))
  have e : (s.heap.push { cls := .type "tuple_iterator", data := .fields #[.ref l, .int 0 0] }).objs.size = s.heap.objs.size + 1 := Heap.size_push ..
  show b < (s.heap.push _).objs.size
  rw [e]
  rcases List.mem_cons.mp hb with rfl | hb
  · exact Nat.lt_succ_self _
  · rw [List.mem_singleton.mp hb]; exact Nat.lt_succ_of_lt hlt
theorem max_tup_raw (nh : A.handled = none) (hl : s.heap.IsTuple l its.toArray) (hi : IntsAre its ns) (ne : 0 < ns.length)
    (h : ∀ h' tk M t', Kp s.heap h' → M ∈ ns → (∀ a, a ∈ ns → a ≤ M) → Q (.int M t') { s with heap := h', toks := tk }) : wpAny (model P w) A (call (.builtin "max") [.ref l]) Q E s := by
  obtain ⟨xs, e⟩ := hi.allInts.items
  have hn : numsOf (intItems xs).toList = ns := by rw [← e]; exact hi.numsOf
  rw [nums_intItems] at hn
  subst hn
  rw [e] at hl
  have hsz : 0 < xs.size := by simpa using ne
  refine call_max_walk (tup_iter hl fun z e st hfp hlI => ?_)
  subst e
  refine ⟨_, _, _, _, _, _, _, rfl, Walks.tuple (A := A.in1) nh _ l hlI (intItems xs), st, hfp, by simpa [intItems] using hsz, CmpOf.ints_gt (numAt xs) (fun _ _ => intItems_at), fun v h' tk hP hk => ?_⟩
  have hv : (intItems xs)[argBest (fun i j => decide (numAt xs i > numAt xs j)) (xs.size - 1)]? = some v := by simpa [intItems] using hP
  obtain ⟨t, rfl⟩ := intItems_at hv
  obtain ⟨h1, h2⟩ := argBest_gt (numAt xs) (xs.size - 1)
  refine h h' tk _ t (fun b o q => hk b o (fun hm => ?_) (Heap.get?_push_of_some _ q)) ?_ fun a ha => ?_
  · rw [List.mem_singleton.mp hm] at q
    exact Nat.lt_irrefl _ (Heap.lt_size q)
  · rw [numAt_eq]; exact PySem.getD_mem (by rw [List.length_map, Array.length_toList]; omega)
  · obtain ⟨j, hj, rfl⟩ := mem_getD ha
    rw [List.length_map, Array.length_toList] at hj
    rw [← numAt_eq]; exact h2 j (by omega)
end
section
variable {X : Cx} {K : PySem.W.Frag}
def rMaxT (K : PySem.W.Frag) : List V → Hp → VK → Prop := fun vs H Q => ∃ (a : Addr) (ns : List Int), vs = [V.ref a] ∧ SqT K H a (ns.map V.int) ∧ 0 < ns.length ∧ ∀ m, m ∈ ns → (∀ y, y ∈ ns → y ≤ m) → Q (.int m) H
theorem cr_maxT (hc : X.calm = true) : CallR X (.builtin "max") (rMaxT X.K) := by
  intro pins s σ H vs us Q I r h
  obtain ⟨a, ns, rfl, hs, hne, q⟩ := h
  obtain ⟨its, rv, hl, _⟩ := I.tuple hs
  rw [Vals.ref1 r]
  exact max_tup_raw (I.ok.hd hc) hl rv.ints hne fun h' tk m t' hk h1 h2 => ⟨.int _, H, I.kept hk, ⟨_, rfl⟩, q m h1 h2⟩
def fMaxA : PyData → Option PyData
  | .tuple xs => (intsOf xs).bind fun bs => match bs with | [] => none | m :: r => some (.int (maxOf m r))
  | d => fMax d
def rMaxA (K : PySem.W.Frag) : List V → Hp → VK → Prop := fun vs H Q => rMax K vs H Q ∨ rMaxT K vs H Q
theorem cr_maxA (hc : X.calm = true) : CallR X (.builtin "max") (rMaxA X.K) := .or (cr_max hc) (cr_maxT hc)
theorem un_maxA : Un1 K (rMaxA K) fMaxA := fun Γ σ H env ds R x d z hx hf Q q => by
  unfold fMaxA at hf
  split at hf
  · refine .inr ?_
    obtain ⟨a, us, rfl, hS, hl, hA⟩ := hx.tuple
    obtain ⟨bs, e1, e2⟩ := Option.bind_eq_some_iff.mp hf
    obtain rfl := intsOf_eq e1
    rw [hA.ints_inv] at hS
    cases bs with
    | nil => cases e2
    | cons m r =>
      cases e2
      refine ⟨a, _, rfl, SqT.of hS, Nat.succ_pos _, fun k hk hle => ?_⟩
      obtain ⟨h1, h2, h3⟩ := maxOf_ge r m
      have e : k = maxOf m r := by
        have t1 : k ≤ maxOf m r := by
          rcases List.mem_cons.mp hk with rfl | hk
          · exact h1
          · exact h2 k hk
        have t2 : maxOf m r ≤ k := by
          rcases h3 with h3 | h3
          · rw [h3]; exact hle m List.mem_cons_self
          · exact hle _ (List.mem_cons_of_mem _ h3)
        omega
      rw [e]
      exact q _ _ Ext.refl R.draw (.int _)
  · exact .inl (un_max Γ σ H env ds R x d z hx hf Q q)
/-- a < b: ints, texts, tuples of ints -/
def fLtA : PyData → PyData → Option PyData
  | .tuple xs, .tuple ys => (intsOf xs).bind fun a => (intsOf ys).bind fun b => some (.bool (HT.lexLt a b))
  | d, e => fLt d e
def rLtB (K : PySem.W.Frag) : R2 := fun x y H Q => rLtA x y H Q ∨ rLtT K x y H Q
theorem op_ltB (hu : X.A.units + 65 < cLine) : OpR X (compareOp .Lt) (rLtB X.K) := .or op_ltA (op_ltT (Nat.lt_of_le_of_lt (Nat.le_add_right _ _) hu))
theorem bin_ltB : Bin K (rLtB K) fLtA := fun Γ σ H env ds R x y d e z hx hy hf Q q => by
  unfold fLtA at hf
  split at hf
  · refine .inr ?_
    obtain ⟨a, us, rfl, hS, hl, hA⟩ := hx.tuple
    obtain ⟨b, ws, rfl, hS2, hl2, hA2⟩ := hy.tuple
    obtain ⟨ns, e1, f1⟩ := Option.bind_eq_some_iff.mp hf
    obtain ⟨ms, e2, f2⟩ := Option.bind_eq_some_iff.mp f1
    obtain rfl := intsOf_eq e1
    obtain rfl := intsOf_eq e2
    rw [hA.ints_inv] at hS
    rw [hA2.ints_inv] at hS2
    cases f2
    exact ⟨a, b, ns, ms, rfl, rfl, SqT.of hS, SqT.of hS2, q _ _ Ext.refl R.draw (.bl _)⟩
  · exact .inl (bin_lt Γ σ H env ds R x y d e z hx hy hf Q q)
end
end DL

/-! DS7: t * 1 is t. -/
namespace DL
open PySem PySem.Spec L2
open PyProof.Rows hiding St
set_option maxHeartbeats 4000000 in
theorem tuple_mul1 (l : Addr) (items : Array Value) (n : Nat) (dd : Option Addr) (sl : Array (Option Value)) (u : Tok) :
    Meets (Builtin.«tuple.__mul__» ⟨[.ref l, .int 1 u], []⟩) (fun _ R s => s.heap.get? l = some { cls := .type "tuple", dict := dd, data := .seq items n, slots := sl } ∧ R (.ok (.ret (Value.ref l))) s) :=
  .of_wp fun prog w A R s h => by
    obtain ⟨hp, g, d, tk, os⟩ := s
    obtain ⟨hl, h⟩ := h
    have f1 := AutoSeq1.idx_int
    have c0 : (decide ((1 : Int) < -(2 ^ 63)) || decide ((1 : Int) ≥ 2 ^ 63)) = false := by decide
    have c1 : (items.isEmpty || (1 : Int) == 1) = true := by simp
    wp_walk using wpAny_loadPart' hl
    repeat (first
      | (refine wpAny_ite_false (decide_eq_false (by rw [c0]; exact Bool.false_ne_true)) ?_; wp_walk using wpAny_loadPart' hl)
      | (refine wpAny_ite_true (decide_eq_true (by rw [c1])) ?_; wp_walk using wpAny_loadPart' hl))
    exact ⟨_, rfl, h⟩
def rRep1 (K : PySem.W.Frag) : R2 := fun x y H Q => ∃ l xs, x = .ref l ∧ y = .int 1 ∧ SqT K H l xs ∧ Q (.ref l) H
theorem op_rep1 {X : Cx} : OpR X (binaryOp .Mult) (rRep1 X.K) := by
  intro pins s σ H x y v u Q I rx ry h
  obtain ⟨l, xs, rfl, rfl, hT, q⟩ := h
  cases rx
  obtain ⟨t, rfl⟩ := ry
  obtain ⟨its, r, ⟨⟨cls, dd, data, sl⟩, ho, hc, n, hd⟩, hs⟩ := I.tuple hT
  simp only at hc hd
  subst hc hd
  exact wpAny_binaryOp_repeat_ref (T := "tuple") (U := "int") (by decide) ⟨_, ho, rfl⟩ (fun s' => typeIs_int s' 1 t) noFill_tuple_mul F.fills_int_mul F.slot_int_rmul repeat_tuple F.slot_int_index.lookup
    (call_meets F.slot_int_rmul (typeIs_int s 1 t) F.entry_int_rmul (F.args_int_rmul_2 _ _) (int_rmul_tuple 1 t l its.toArray n dd sl)
      ⟨ho, rfl, ⟨_, ho, rfl⟩, call_meets F.slot_tuple_mul ⟨_, ho, rfl⟩ F.entry_tuple_mul (F.args_tuple_mul_2 _ _) (tuple_mul1 l its.toArray n dd sl t) ⟨ho, ⟨.ref l, H, I, rfl, q⟩⟩⟩)
def fMulA : PyData → PyData → Option PyData
  | .tuple a, .int k => if decide (k = 1) then some (.tuple a) else fMul (.tuple a) (.int k)
  | d, e => fMul d e
def rMulB (K : PySem.W.Frag) : R2 := fun x y H Q => rMulA K x y H Q ∨ rRep1 K x y H Q
section
variable {X : Cx} {K : PySem.W.Frag}
theorem op_mulB : OpR X (binaryOp .Mult) (rMulB X.K) := .or op_mulA op_rep1
theorem bin_mulB : Bin K (rMulB K) fMulA := fun Γ σ H env ds R x y d e z hx hy hf Q q => by
  unfold fMulA at hf
  split at hf
  · split at hf
    · rename_i a k c
      have c := of_decide_eq_true c
      subst c
      cases hf
      obtain rfl := hy.int
      rcases hx with hx | ⟨_, _, _, _, e, _⟩
      · cases hx with
        | tup g1 g2 g3 => exact .inr ⟨_, _, rfl, rfl, SqT.of g1, q _ H Ext.refl R.draw (.tup g1 g2 g3)⟩
      · cases e
    · exact .inl (bin_mul Γ σ H env ds R x y _ _ z hx hy hf Q q)
  · exact .inl (bin_mul Γ σ H env ds R x y _ _ z hx hy hf Q q)
end
end DL

/-! Mk53: what the defs of the law mean. -/
namespace Lw
open PySem PySem.Spec L2 DL

def k_MOST_STATES : PyData := (.int 5)
def k_INPUTS : PyData := (.tuple [(.int 0), (.int 1)])
def m__law_draw : MS :=
  (mSeq (mSet 1 (mC (.int 7)))
  (mSeq (mFor (mScr 0) (tName 2) (mSet 1 (mOp fMod (mUn fInt (mOp fAdd (mOp fAdd (mOp fMul (mV 1) (mC (.int 48271))) (mOp fMod (mUn fAbs (mUn fInt (mV 2))) (mC (.int 65521)))) (mC (.int 1)))) (mC (.int 2147483647)))))
  (mRetF (mLst (mCons (mF (mComp [2] (mScr 0) (tName 2) mYes (mUn fAbs (mUn fInt (mV 2))))) (mCons (mUn fNeg (mC (.int 1))) (mCons (mC (.int 0)) (mCons (mV 1) mNil))))))))
def f__law_draw : FS := runB 3 1 true m__law_draw
def m__law_take : MS :=
  (mSeq (mIfS (mTst (mOp fEq (mDrw 0 2) (mC (.int 0)))) (mSeq (mDrwSet 0 1 (mOp fAdd (mDrw 0 1) (mC (.int 1))))
  (mSeq (mIfS (mTst (mOp fLt (mDrw 0 1) (mUn fLen (mDrw 0 0)))) (mDrwSet 0 2 (mOp fIx (mDrw 0 0) (mDrw 0 1))) mSkip)
  (mIfS (mTst (mOp fEq (mDrw 0 2) (mC (.int 0)))) (mSeq (mDrwSet 0 3 (mOp fMod (mUn fInt (mOp fAdd (mOp fMul (mDrw 0 3) (mC (.int 48271))) (mC (.int 11)))) (mC (.int 2147483647))))
  (mDrwSet 0 2 (mDrw 0 3))) mSkip))) mSkip)
  (mSeq (mSet 2 (mOp fMod (mUn fInt (mDrw 0 2)) (mV 1)))
  (mSeq (mDrwSet 0 2 (mOp fFdiv (mDrw 0 2) (mV 1)))
  (mRet (mV 2)))))
def f__law_take : FS := runB 3 2 false m__law_take
def m__law_odd_box : MS :=
  (mSeq (mSet 1 (mF (mLst (mCons (mC .none) (mCons (mTup mNil) (mCons (mC (.int 5)) (mCons (mF (mLst (mCons (mTup (mCons (mTup (mCons (mC (.int 0)) (mCons (mC (.int 0)) mNil))) (mCons (mTup (mCons (mC (.int 0)) (mCons (mC (.int 0)) mNil))) mNil))) mNil))) (mCons (mTup (mCons (mTup (mCons (mTup (mCons (mC (.int 0)) (mCons (mC (.int 0)) mNil))) mNil)) mNil)) (mCons (mTup (mCons (mTup (mCons (mTup (mCons (mC (.int 1)) (mCons (mC (.int 0)) mNil))) (mCons (mTup (mCons (mC (.int 0)) (mCons (mC (.int 0)) mNil))) mNil))) mNil)) (mCons (mTup (mCons (mTup (mCons (mTup (mCons (mC (.int 0)) (mCons (mC (.int 2)) mNil))) (mCons (mTup (mCons (mC (.int 0)) (mCons (mC (.int 0)) mNil))) mNil))) mNil)) (mCons (mTup (mCons (mTup (mCons (mTup (mCons (mC (.int 0)) (mCons (mC (.bool true)) mNil))) (mCons (mTup (mCons (mC (.int 0)) (mCons (mC (.int 0)) mNil))) mNil))) mNil)) (mCons (mTup (mCons (mTup (mCons (mTup (mCons (mC (.int 0)) (mCons (mC (.int 0)) mNil))) (mCons (mTup (mCons (mC (.int 0)) (mCons (mC (.int 0)) mNil))) (mCons (mTup (mCons (mC (.int 0)) (mCons (mC (.int 0)) mNil))) mNil)))) mNil)) (mCons (mTup (mCons (mTup (mCons (mTup (mCons (mUn fNeg (mC (.int 1))) (mCons (mC (.int 0)) mNil))) (mCons (mTup (mCons (mC (.int 0)) (mCons (mC (.int 0)) mNil))) mNil))) mNil)) mNil)))))))))))))
  (mRet (mOp fIx (mOp fAdd (mV 1) (mF (mLst (mCons (mTup (mCons (mF (mLst (mCons (mTup (mCons (mC (.int 0)) (mCons (mC (.int 0)) mNil))) (mCons (mTup (mCons (mC (.int 0)) (mCons (mC (.int 0)) mNil))) mNil)))) mNil)) (mCons (mTup (mCons (mTup (mCons (mTup (mCons (mC (.int 0)) (mCons (mC (.int 0)) mNil))) (mCons (mF (mLst (mCons (mC (.int 0)) (mCons (mC (.int 0)) mNil)))) mNil))) mNil)) (mCons (mOp fMul (mTup (mCons (mTup (mCons (mTup (mCons (mC (.int 0)) (mCons (mC (.int 0)) mNil))) (mCons (mTup (mCons (mC (.int 0)) (mCons (mC (.int 0)) mNil))) mNil))) mNil)) (mC (.int 7))) (mCons (mTup (mCons (mTup (mCons (mTup (mCons (mC (.int 0)) mNil)) (mCons (mTup (mCons (mC (.int 0)) (mCons (mC (.int 0)) mNil))) mNil))) mNil)) (mCons (mTup (mCons (mC .none) mNil)) mNil)))))))) (mCall (chk 2 f__law_take) (axV 0 (axD (mC (.int 15)) axNil))))))
def f__law_odd_box : FS := runB 2 1 false m__law_odd_box
def m__law_order : MS :=
  (mSeq (mParLL 2 3 (mRgL1 (mV 1)) (mLst mNil))
  (mSeq (whileGo (mTst (mOp fNe (mVp 2) (mF (mLst mNil)))) (mAppPop 3 2 (mCall (chk 2 f__law_take) (axV 0 (axD (mUn fLen (mVp 2)) axNil)))) 1000)
  (mRetL 3)))
def f__law_order : FS := runB 4 2 false m__law_order
def m__law_box : MS :=
  (mSeq (mSet 2 (mOp fAdd (mC (.int 1)) (mCall (chk 2 f__law_take) (axV 0 (axD (mV 1) axNil)))))
  (mSeq (mSet 3 (mCall (chk 2 f__law_take) (axV 0 (axD (mC (.int 4)) axNil))))
  (mSeq (mSetL 4 (mLst mNil))
  (mSeq (mFor (mRng1 (mV 2)) (tName 5) (mSeq (mSet 6 (mF (mComp [9] (mRng1 (mC (.int 2))) (tName 9) mYes (mTup (mCons (mCall (chk 2 f__law_take) (axV 0 (axD (mV 2) axNil))) (mCons (mCall (chk 2 f__law_take) (axV 0 (axD (mC (.int 2)) axNil))) mNil))))))
  (mSeq (mIfS (mTst (mOp fEq (mV 3) (mC (.int 0)))) (mSet 6 (mF (mComp [10, 11] (mItems (mV 6)) (tTup 2 (tConsT (tName 10) (tConsT (tName 11) tNilT))) mYes (mTup (mCons (mV 10) (mCons (mOp fIx (mOp fIx (mV 6) (mC (.int 0))) (mC (.int 1))) mNil)))))) mSkip)
  (mApp 4 (mUn fTuple (mV 6))))))
  (mSeq (mIfS (mTst (mOp fEq (mV 3) (mC (.int 1)))) (mSeq (mAsg (tTup 2 (tConsT (tName 7) (tConsT (tName 8) tNilT))) (mTup (mCons (mCall (chk 2 f__law_order) (axV 0 (axD (mV 2) axNil))) (mCons (mCall (chk 2 f__law_order) (axV 0 (axD (mV 2) axNil))) mNil))))
  (mSetL 4 (mComp [12] (mRng1 (mV 2)) (tName 12) mYes (mTup (mCons (mTup (mCons (mOp fIx (mV 7) (mV 12)) (mCons (mOp fIx (mOp fIx (mOp fIx (mVp 4) (mV 12)) (mC (.int 0))) (mC (.int 1))) mNil))) (mCons (mTup (mCons (mOp fIx (mV 8) (mV 12)) (mCons (mOp fIx (mOp fIx (mOp fIx (mVp 4) (mV 12)) (mC (.int 1))) (mC (.int 1))) mNil))) mNil)))))) mSkip)
  (mRet (mUn fTuple (mVp 4))))))))
def f__law_box : FS := runB 13 2 false m__law_box
def m__law_partitions : MS :=
  (mSeq (mSet 1 (mF (mLst (mCons (mTup mNil) mNil))))
  (mSeq (mFor (mRng1 (mV 0)) (tName 2) (mSeq (mSet 3 (mF (mLst mNil)))
  (mSeq (mFor (mItems (mV 1)) (tName 4) (mSet 3 (mOp fAdd (mV 3) (mF (mComp [5] (mRng1 (mOp fAdd (mUn fMaxA (mOp fAdd (mV 4) (mTup (mCons (mUn fNeg (mC (.int 1))) mNil)))) (mC (.int 2)))) (tName 5) mYes (mOp fAdd (mV 4) (mTup (mCons (mV 5) mNil))))))))
  (mSet 1 (mV 3)))))
  (mRet (mV 1))))
def f__law_partitions : FS := runB 6 1 false m__law_partitions
def m_is_whole : MS :=
  (mRet (mAndV (mIsi 0 (mV 0)) (mUn fNot (mIsi 1 (mV 0)))))
def f_is_whole : FS := runB 1 1 false m_is_whole
def m_is_move : MS :=
  (mSeq (mIfS (mOr (mNot (mTst (mIsi 2 (mV 0)))) (mOr (mTst (mOp fNe (mUn fLen (mV 0)) (mC (.int 2)))) (mNot (mTst (mUn fAll (mF (mComp [2] (mItems (mV 0)) (tName 2) mYes (mCall (chk 1 f_is_whole) (axD (mV 2) axNil))))))))) (mRet (mC (.bool false))) mSkip)
  (mRet (mAndV (mChain fLe fLt (mC (.int 0)) (mOp fIx (mV 0) (mC (.int 0))) (mV 1)) (mChain fLe fLe (mC (.int 0)) (mOp fIx (mV 0) (mC (.int 1))) (mC (.int 1))))))
def f_is_move : FS := runB 3 2 false m_is_move
def m_is_box : MS :=
  (mSeq (mIfS (mOr (mNot (mTst (mIsi 2 (mV 0)))) (mNot (mTst (mChain fLe fLe (mC (.int 1)) (mUn fLen (mV 0)) (mC k_MOST_STATES))))) (mRet (mC (.bool false))) mSkip)
  (mSeq (mIfS (mNot (mTst (mUn fAll (mF (mComp [1] (mItems (mV 0)) (tName 1) mYes (mAndV (mIsi 2 (mV 1)) (mOp fEq (mUn fLen (mV 1)) (mC (.int 2))))))))) (mRet (mC (.bool false))) mSkip)
  (mRet (mUn fAll (mF (mComp2 [1, 2] (mItems (mV 0)) (tName 1) mYes (mItems (mV 1)) [2] (tName 2) mYes (mCall (chk 2 f_is_move) (axD (mV 2) (axD (mUn fLen (mV 0)) axNil)))))))))
def f_is_box : FS := runB 3 1 false m_is_box
def m_check_box : MS :=
  (mIfS (mNot (mTst (mCall (chk 1 f_is_box) (axD (mV 0) axNil)))) (mRaise .malformed) mSkip)
def f_check_box : FS := runB 1 1 false m_check_box
def m_all_partitions : MS :=
  (mSeq (mSet 1 (mF (mLst (mCons (mTup mNil) mNil))))
  (mSeq (mFor (mRng1 (mV 0)) (tName 2) (mSet 1 (mF (mComp2 [3, 4] (mItems (mV 1)) (tName 3) mYes (mRng1 (mOp fAdd (mUn fSetLen (mV 3)) (mC (.int 1)))) [4] (tName 4) mYes (mOp fAdd (mV 3) (mTup (mCons (mV 4) mNil)))))))
  (mRet (mV 1))))
def f_all_partitions : FS := runB 5 1 false m_all_partitions
def m_does_keep : MS :=
  (mSeq (mSet 2 (mF (mRgL1 (mUn fLen (mV 0)))))
  (mSeq (mFor (mItems (mC k_INPUTS)) (tName 3) (mSeq (mSet 4 (mF (mComp [5] (mItems (mV 2)) (tName 5) mYes (mOp fIx (mV 1) (mOp fIx (mOp fIx (mOp fIx (mV 0) (mV 5)) (mV 3)) (mC (.int 0)))))))
  (mIfS (mNot (mTst (mUn fAll (mF (mComp2 [6, 7] (mItems (mV 2)) (tName 6) mYes (mItems (mV 2)) [7] (tName 7) (mTst (mOp fEq (mOp fIx (mV 1) (mV 6)) (mOp fIx (mV 1) (mV 7)))) (mOp fEq (mOp fIx (mV 4) (mV 6)) (mOp fIx (mV 4) (mV 7)))))))) (mRet (mC (.bool false))) mSkip)))
  (mRet (mC (.bool true)))))
def f_does_keep : FS := runB 8 2 false m_does_keep
def m_found_kept : MS :=
  (mRet (mF (mComp [1] (mItems (mCall (chk 1 f_all_partitions) (axD (mUn fLen (mV 0)) axNil))) (tName 1) (mTst (mCall (chk 2 f_does_keep) (axD (mV 0) (axD (mV 1) axNil)))) (mV 1))))
def f_found_kept : FS := runB 2 1 false m_found_kept
def m_kept_partitions : MS :=
  (mSeq (mDrop (mCall (chk 1 f_check_box) (axD (mV 0) axNil)))
  (mRet (mUn fTuple (mCall (chk 1 f_found_kept) (axD (mV 0) axNil)))))
def f_kept_partitions : FS := runB 1 1 false m_kept_partitions
def m_splits : MS :=
  (mSeq (mDrop (mCall (chk 1 f_check_box) (axD (mV 0) axNil)))
  (mSeq (mSet 1 (mUn fLen (mV 0)))
  (mSeq (mSet 2 (mF (mComp [5] (mItems (mCall (chk 1 f_found_kept) (axD (mV 0) axNil))) (tName 5) (mTst (mOp fLt (mUn fSetLen (mV 5)) (mV 1))) (mV 5))))
  (mSeq (mSetL 3 (mLst mNil))
  (mSeq (mFor (mItems (mV 2)) (tName 4) (mExt 3 (mF (mComp [6] (mItems (mV 2)) (tName 6) (mAnd (mTst (mOp fLtA (mV 4) (mV 6))) (mTst (mOp fEq (mUn fSetLen (mF (mOpF fZip (mV 4) (mV 6)))) (mV 1)))) (mTup (mCons (mV 4) (mCons (mV 6) mNil)))))))
  (mRet (mUn fTuple (mVp 3))))))))
def f_splits : FS := runB 7 1 false m_splits
def m_numbered : MS :=
  (mSeq (mSetL 1 (mLst mNil))
  (mSeq (mFor (mItems (mV 0)) (tName 2) (mIfS (mTst (mOp fNotIn (mV 2) (mVp 1))) (mApp 1 (mV 2)) mSkip))
  (mRet (mUn fTuple (mF (mComp [2] (mItems (mV 0)) (tName 2) mYes (mIndex (mVp 1) (mV 2))))))))
def f_numbered : FS := runB 3 1 false m_numbered
def m_is_partition : MS :=
  (mSeq (mIfS (mOr (mNot (mTst (mIsi 2 (mV 1)))) (mOr (mTst (mOp fNe (mUn fLen (mV 1)) (mUn fLen (mV 0)))) (mNot (mTst (mUn fAll (mF (mComp [2] (mItems (mV 1)) (tName 2) mYes (mCall (chk 1 f_is_whole) (axD (mV 2) axNil))))))))) (mRet (mC (.bool false))) mSkip)
  (mRet (mOp fEq (mCall (chk 1 f_numbered) (axD (mV 1) axNil)) (mV 1))))
def f_is_partition : FS := runB 3 2 false m_is_partition
def m_check_partitions : MS :=
  (mSeq (mDrop (mCall (chk 1 f_check_box) (axD (mV 0) axNil)))
  (mIfS (mOr (mNot (mTst (mCall (chk 2 f_is_partition) (axD (mV 0) (axD (mV 1) axNil))))) (mNot (mTst (mCall (chk 2 f_is_partition) (axD (mV 0) (axD (mV 2) axNil)))))) (mRaise .malformed) mSkip))
def f_check_partitions : FS := runB 3 3 false m_check_partitions
def m_common : MS :=
  (mSeq (mDrop (mCall (chk 3 f_check_partitions) (axD (mV 0) (axD (mV 1) (axD (mV 2) axNil)))))
  (mRet (mCall (chk 1 f_numbered) (axD (mF (mOpF fZip (mV 1) (mV 2))) axNil))))
def f_common : FS := runB 3 3 false m_common
def m_together : MS :=
  (mSeq (mDrop (mCall (chk 3 f_check_partitions) (axD (mV 0) (axD (mV 1) (axD (mV 2) axNil)))))
  (mSeq (mSetL 3 (mRgL1 (mUn fLen (mV 1))))
  (mSeq (mFor (mItems (mV 1)) (tName 4) (mFor (mRng1 (mUn fLen (mV 1))) (tName 5) (mFor (mRng1 (mUn fLen (mV 1))) (tName 6) (mIfS (mOr (mTst (mOp fEq (mOp fIx (mV 1) (mV 5)) (mOp fIx (mV 1) (mV 6)))) (mTst (mOp fEq (mOp fIx (mV 2) (mV 5)) (mOp fIx (mV 2) (mV 6))))) (mPut 3 (mV 5) (mOp fMin2 (mOp fIx (mVp 3) (mV 5)) (mOp fIx (mVp 3) (mV 6)))) mSkip))))
  (mRet (mCallP (chk 1 f_numbered) (axD (mVp 3) axNil))))))
def f_together : FS := runB 7 3 false m_together
def m_is_kept : MS :=
  (mSeq (mDrop (mCall (chk 1 f_check_box) (axD (mV 0) axNil)))
  (mRet (mAndV (mCall (chk 2 f_is_partition) (axD (mV 0) (axD (mV 1) axNil))) (mCall (chk 2 f_does_keep) (axD (mV 0) (axD (mV 1) axNil))))))
def f_is_kept : FS := runB 2 2 false m_is_kept
def m__law_told : MS :=
  (mTry (fun _ => true) (mSeq (mIfS (mTst (mOp fEq (mV 0) (mC (.int 0)))) (mRet (mCall (chk 1 f_kept_partitions) (axD (mV 1) axNil))) mSkip)
  (mSeq (mIfS (mTst (mOp fEq (mV 0) (mC (.int 1)))) (mRet (mCall (chk 1 f_splits) (axD (mV 1) axNil))) mSkip)
  (mSeq (mIfS (mTst (mOp fEq (mV 0) (mC (.int 2)))) (mRet (mCall (chk 3 f_common) (axD (mV 1) (axD (mV 2) (axD (mV 3) axNil))))) mSkip)
  (mRet (mIf (mTst (mOp fEq (mV 0) (mC (.int 3)))) (mCall (chk 3 f_together) (axD (mV 1) (axD (mV 2) (axD (mV 3) axNil)))) (mCall (chk 2 f_is_kept) (axD (mV 1) (axD (mV 2) axNil)))))))) (mRet (mC (.str "<malformed>"))))
def f__law_told : FS := runB 4 4 false m__law_told
def m__law_keeps : MS :=
  (mSeq (mFor (mRng1 (mUn fLen (mV 0))) (tName 2) (mFor (mRng1 (mUn fLen (mV 0))) (tName 3) (mIfS (mAnd (mTst (mOp fEq (mOp fIx (mV 1) (mV 2)) (mOp fIx (mV 1) (mV 3)))) (mTst (mUn fAny (mF (mComp [4] (mRng1 (mC (.int 2))) (tName 4) mYes (mOp fNe (mOp fIx (mV 1) (mOp fIx (mOp fIx (mOp fIx (mV 0) (mV 2)) (mV 4)) (mC (.int 0)))) (mOp fIx (mV 1) (mOp fIx (mOp fIx (mOp fIx (mV 0) (mV 3)) (mV 4)) (mC (.int 0)))))))))) (mRet (mC (.bool false))) mSkip)))
  (mRet (mC (.bool true))))
def f__law_keeps : FS := runB 5 2 false m__law_keeps
def m__law_numbered : MS :=
  (mSeq (mParLD 1 2 (mLst mNil) (mF (mLst mNil)))
  (mSeq (mFor (mItems (mV 0)) (tName 3) (mSeq (mSet 2 (mOp fAdd (mV 2) (mIf (mTst (mOp fNotIn (mV 3) (mV 2))) (mF (mLst (mCons (mV 3) mNil))) (mF (mLst mNil)))))
  (mApp 1 (mIndex (mV 2) (mV 3)))))
  (mRet (mUn fTuple (mVp 1)))))
def f__law_numbered : FS := runB 4 1 false m__law_numbered
def m__law_together : MS :=
  (mSeq (mSet 2 (mF (mUnF fList (mV 0))))
  (mSeq (mFor (mItems (mV 0)) (tName 3) (mFor (mRng1 (mUn fLen (mV 0))) (tName 4) (mFor (mRng1 (mUn fLen (mV 0))) (tName 5) (mIfS (mOr (mTst (mOp fEq (mOp fIx (mV 1) (mV 4)) (mOp fIx (mV 1) (mV 5)))) (mTst (mOp fEq (mOp fIx (mV 2) (mV 4)) (mOp fIx (mV 2) (mV 5))))) (mSeq (mAsg (tTup 2 (tConsT (tName 6) (tConsT (tName 7) tNilT))) (mTup (mCons (mOp fMin2 (mOp fIx (mV 2) (mV 4)) (mOp fIx (mV 2) (mV 5))) (mCons (mOp fMax2 (mOp fIx (mV 2) (mV 4)) (mOp fIx (mV 2) (mV 5))) mNil))))
  (mSet 2 (mF (mComp [8] (mItems (mV 2)) (tName 8) mYes (mIf (mTst (mOp fEq (mV 8) (mV 7))) (mV 6) (mV 8)))))) mSkip))))
  (mRet (mCall (chk 1 f__law_numbered) (axD (mV 2) axNil)))))
def f__law_together : FS := runB 9 2 false m__law_together
def m__law_says : MS :=
  (mRet (mAndV (mIsi 1 (mV 0)) (mOp fEq (mV 0) (mV 1))))
def f__law_says : FS := runB 2 2 false m__law_says
def m_law : MS :=
  (mDraw 1 (mCallF (chk 1 f__law_draw) (axV 0 axNil))
  (mSeq (mFor (mRng1 (mC (.int 3))) (tName 2) (mSeq (mSet 3 (mCall (chk 2 f__law_box) (axV 1 (axD (mC (.int 5)) axNil))))
  (mSeq (mSet 4 (mUn fLen (mV 3)))
  (mSeq (mSet 5 (mCall (chk 1 f__law_partitions) (axD (mV 4) axNil)))
  (mSeq (mSet 6 (mF (mComp [14] (mItems (mV 5)) (tName 14) (mTst (mCall (chk 2 f__law_keeps) (axD (mV 3) (axD (mV 14) axNil)))) (mV 14))))
  (mSeq (mIfS (mTst (mOp fNe (mUn fRepr (mCall (chk 1 f_kept_partitions) (axD (mV 3) axNil))) (mUn fRepr (mUn fTuple (mF (mUnF fSort (mV 6))))))) (mRet (mC (.bool false))) mSkip)
  (mSeq (mSet 7 (mF (mLst mNil)))
  (mSeq (mFor (mItems (mV 6)) (tName 8) (mSet 7 (mOp fAdd (mV 7) (mF (mComp [11] (mItems (mV 6)) (tName 11) (mAnd (mTst (mOp fLtA (mV 8) (mV 11))) (mAnd (mTst (mOp fEq (mCall (chk 1 f__law_numbered) (axD (mF (mOpF fZip (mV 8) (mV 11))) axNil)) (mTup (mRgL1 (mV 4))))) (mAnd (mTst (mOp fLt (mOp fAdd (mUn fMaxA (mV 8)) (mC (.int 1))) (mV 4))) (mTst (mOp fLt (mOp fAdd (mUn fMaxA (mV 11)) (mC (.int 1))) (mV 4)))))) (mTup (mCons (mV 8) (mCons (mV 11) mNil))))))))
  (mSeq (mIfS (mTst (mOp fNe (mUn fRepr (mCall (chk 1 f_splits) (axD (mV 3) axNil))) (mUn fRepr (mUn fTuple (mF (mUnF fSort (mV 7))))))) (mRet (mC (.bool false))) mSkip)
  (mFor (mRng1 (mC (.int 4))) (tName 9) (mSeq (mSet 10 (mIf (mTst (mOp fEq (mCall (chk 2 f__law_take) (axV 1 (axD (mC (.int 2)) axNil))) (mC (.int 0)))) (mV 6) (mV 5)))
  (mSeq (mAsg (tTup 2 (tConsT (tName 8) (tConsT (tName 11) tNilT))) (mTup (mCons (mOp fIx (mV 10) (mCall (chk 2 f__law_take) (axV 1 (axD (mUn fLen (mV 10)) axNil)))) (mCons (mOp fIx (mV 10) (mCall (chk 2 f__law_take) (axV 1 (axD (mUn fLen (mV 10)) axNil)))) mNil))))
  (mSeq (mParDD 12 13 (mCall (chk 3 f_common) (axD (mV 3) (axD (mV 8) (axD (mV 11) axNil)))) (mCall (chk 3 f_together) (axD (mV 3) (axD (mV 8) (axD (mV 11) axNil)))))
  (mSeq (mIfS (mOr (mTst (mOp fNe (mV 12) (mCall (chk 1 f__law_numbered) (axD (mF (mOpF fZip (mV 8) (mV 11))) axNil)))) (mTst (mOp fNe (mV 13) (mCall (chk 2 f__law_together) (axD (mV 8) (axD (mV 11) axNil)))))) (mRet (mC (.bool false))) mSkip)
  (mSeq (mIfS (mAnd (mTst (mOp fIn (mV 8) (mV 6))) (mAnd (mTst (mOp fIn (mV 11) (mV 6))) (mOr (mTst (mOp fNotIn (mV 12) (mV 6))) (mTst (mOp fNotIn (mV 13) (mV 6)))))) (mRet (mC (.bool false))) mSkip)
  (mFor (mItems (mF (mLst (mCons (mV 8) (mCons (mV 11) (mCons (mF (mUnF fList (mV 8))) (mCons (mSlice (mV 8) (mPart (mC (.int 1))) mNoPart) (mCons (mOp fAdd (mV 8) (mTup (mCons (mC (.int 0)) mNil))) (mCons (mOp fAdd (mTup (mCons (mC (.bool true)) mNil)) (mSlice (mV 8) (mPart (mC (.int 1))) mNoPart)) (mCons (mOp fMulA (mTup (mCons (mC (.int 1)) mNil)) (mV 4)) (mCons (mC .none) (mCons (mUn fTuple (mF (mComp [19] (mItems (mV 8)) (tName 19) mYes (mOp fAdd (mV 19) (mC (.int 1)))))) mNil)))))))))))) (tName 14) (mSeq (mSet 15 (mAndV (mIsi 2 (mV 14)) (mAndV (mOp fIn (mV 14) (mV 6)) (mUn fNot (mUn fAny (mF (mComp [19] (mItems (mV 14)) (tName 19) mYes (mIsi 1 (mV 19)))))))))
  (mIfS (mNot (mTst (mCall (chk 2 f__law_says) (axD (mCall (chk 2 f_is_kept) (axD (mV 3) (axD (mV 14) axNil))) (axD (mV 15) axNil))))) (mRet (mC (.bool false))) mSkip))))))))))))))))))
  (mSeq (mSet 16 (mCall (chk 1 f__law_odd_box) (axV 1 axNil)))
  (mSeq (mSet 17 (mOp fIx (mF (mLst (mCons (mC .none) (mCons (mF (mUnF fList (mV 8))) (mCons (mOp fAdd (mV 8) (mTup (mCons (mC (.int 0)) mNil))) (mCons (mOp fMulA (mTup (mCons (mC (.int 1)) mNil)) (mV 4)) (mCons (mOp fAdd (mTup (mCons (mC (.bool true)) mNil)) (mSlice (mV 8) (mPart (mC (.int 1))) mNoPart)) (mCons (mC (.int 5)) mNil)))))))) (mCall (chk 2 f__law_take) (axV 1 (axD (mC (.int 6)) axNil)))))
  (mSeq (mSet 18 (mOp fAdd (mF (mComp [20] (mRng1 (mC (.int 5))) (tName 20) mYes (mCall (chk 4 f__law_told) (axD (mV 20) (axD (mV 16) (axD (mTup (mCons (mC (.int 0)) mNil)) (axD (mTup (mCons (mC (.int 0)) mNil)) axNil))))))) (mF (mComp [20] (mItems (mTup (mCons (mC (.int 2)) (mCons (mC (.int 3)) mNil)))) (tName 20) mYes (mCall (chk 4 f__law_told) (axD (mV 20) (axD (mV 3) (axD (mV 17) (axD (mV 8) axNil)))))))))
  (mRet (mOp fEq (mOp fAdd (mV 18) (mF (mComp [20] (mItems (mTup (mCons (mC (.int 2)) (mCons (mC (.int 3)) mNil)))) (tName 20) mYes (mCall (chk 4 f__law_told) (axD (mV 20) (axD (mV 3) (axD (mV 8) (axD (mV 17) axNil)))))))) (mOp fMul (mF (mLst (mCons (mC (.str "<malformed>")) mNil))) (mC (.int 9))))))))))
def f_law : FS := runB 21 1 false m_law
end Lw

/-! DT1: the typed layer: computations on plain values, and that a meaning computes what they do. -/
namespace DL
open PySem PySem.Spec L2
open PyProof.Rows hiding St

abbrev TM (α : Type) := DS → Rz α
def Out.map {α β : Type} (f : α → β) : Out α → Out β
  | .ok a => .ok (f a)
  | .exc x => .exc x
namespace TM
variable {α β γ : Type}
def pure (x : α) : TM α := fun ds => some (.ok x, ds)
def bind (a : TM α) (f : α → TM β) : TM β := fun ds => (a ds).bind f
def lift (x : Option α) : TM α := fun ds => match x with
  | some a => some (.ok a, ds)
  | none => none
def raise (e : Exn) : TM α := fun ds => some (.exc e, ds)
def fail : TM α := fun _ => none
def noex (t : TM α) : TM α := fun ds => match t ds with
  | some (.ok x, ds') => some (.ok x, ds')
  | _ => none
def tlet (x : α) (f : α → TM β) : TM β := f x
@[simp] theorem pure_bind (x : α) (f : α → TM β) : (pure x).bind f = f x := id rfl
@[simp] theorem raise_bind (x : Exn) (f : α → TM β) : (raise x).bind f = raise x := rfl
@[simp] theorem fail_bind (f : α → TM β) : fail.bind f = fail := rfl
@[simp] theorem lift_some (x : α) : lift (some x) = pure x := id rfl
@[simp] theorem lift_none : lift (none : Option α) = fail := rfl
@[simp] theorem noex_pure (x : α) : noex (pure x) = pure x := rfl
@[simp] theorem tlet_eq (x : α) (f : α → TM β) : tlet x f = f x := rfl
@[simp] theorem bind_pure (a : TM α) : a.bind pure = a := by
  funext ds
  show (a ds).bind _ = _
  rcases a ds with _ | ⟨_ | _, _⟩ <;> rfl
@[simp] theorem bind_assoc (a : TM α) (f : α → TM β) (g : β → TM γ) : (a.bind f).bind g = a.bind fun x => (f x).bind g := by
  funext ds
  show ((a ds).bind f).bind g = (a ds).bind fun x ds => (f x ds).bind g
  rcases a ds with _ | ⟨_ | _, _⟩ <;> rfl
def forT {L : Type} (f : L → α → TM L) : List α → L → TM L
  | [], l => pure l
  | x :: r, l => (f l x).bind (forT f r)
def forB {L R : Type} (f : L → α → TM (L ⊕ R)) : List α → L → TM (L ⊕ R)
  | [], l => pure (.inl l)
  | x :: r, l => (f l x).bind fun o => match o with
    | .inl l' => forB f r l'
    | .inr y => pure (.inr y)
def whileT {L : Type} (c : L → TM Bool) (b : L → TM L) : Nat → L → TM L
  | 0, _ => fail
  | n + 1, l => (c l).bind fun k => if k then (b l).bind (whileT c b n) else pure l
def whileB {L R : Type} (c : L → TM Bool) (b : L → TM (L ⊕ R)) : Nat → L → TM (L ⊕ R)
  | 0, _ => fail
  | n + 1, l => (c l).bind fun k => if k then (b l).bind fun o => match o with
    | .inl l' => whileB c b n l'
    | .inr y => pure (.inr y)
    else pure (.inl l)
/-- the comprehension of one clause -/
def compM (p : α → TM Bool) (g : α → TM β) : List α → TM (List β)
  | [] => pure []
  | x :: r => (noex (p x)).bind fun k => if k then (noex (g x)).bind fun y => (compM p g r).bind fun ys => pure (y :: ys) else compM p g r
@[irreducible] def compL (p : α → TM Bool) (g : α → TM β) (xs : List α) : TM (List β) := if xs.length ≤ 16777216 then compM p g xs else fail
@[irreducible] def compV (p : α → Bool) (g : α → β) (xs : List α) : TM (List β) := if xs.length ≤ 16777216 then pure ((xs.filter p).map g) else fail
/-- behind what goes on or returns -/
def bindB {L R : Type} (t : TM (L ⊕ R)) (tl : L → TM γ) (g : R → γ) : TM γ := t.bind fun o => match o with
  | .inl l => tl l
  | .inr r => pure (g r)
@[simp] theorem bindB_inl {L R : Type} (l : L) (tl : L → TM γ) (g : R → γ) : bindB (pure (.inl l)) tl g = tl l := rfl
@[simp] theorem bindB_inr {L R : Type} (r : R) (tl : L → TM γ) (g : R → γ) : bindB (pure (.inr r)) tl g = pure (g r) := rfl
def tryT {R : Type} (k : Exn → Bool) (t : TM R) (h : TM R) : TM R := fun ds => match t ds with
  | some (.exc x, ds') => if k x then h ds' else some (.exc x, ds')
  | r => r
theorem compM_pure {p : α → TM Bool} {g : α → TM β} {p' : α → Bool} {g' : α → β} : ∀ {xs : List α}, (∀ x ∈ xs, p x = pure (p' x)) → (∀ x ∈ xs, p' x = true → g x = pure (g' x)) → compM p g xs = pure ((xs.filter p').map g')
  | [], _, _ => rfl
  | x :: r, hp, hg => by
    unfold compM
    rw [hp x List.mem_cons_self, noex_pure, pure_bind, compM_pure (fun y hy => hp y (List.mem_cons_of_mem _ hy)) (fun y hy => hg y (List.mem_cons_of_mem _ hy)), List.filter_cons]
    cases h : p' x with
    | true => rw [if_pos rfl, if_pos rfl, hg x List.mem_cons_self h, noex_pure, pure_bind, pure_bind]; rfl
    | false => rw [if_neg Bool.false_ne_true, if_neg Bool.false_ne_true]
theorem compL_pure {p : α → TM Bool} {g : α → TM β} {p' : α → Bool} {g' : α → β} {xs : List α} (hl : xs.length ≤ 16777216) (hp : ∀ x ∈ xs, p x = pure (p' x)) (hg : ∀ x ∈ xs, p' x = true → g x = pure (g' x)) : compL p g xs = pure ((xs.filter p').map g') := by
  unfold compL
  rw [if_pos hl]
  exact compM_pure hp hg
theorem compL_map {g : α → TM β} {g' : α → β} {xs : List α} (hl : xs.length ≤ 16777216) (hg : ∀ x ∈ xs, g x = pure (g' x)) : compL (fun _ => pure true) g xs = pure (xs.map g') := by
  rw [compL_pure (p' := fun _ => true) hl (fun _ _ => rfl) fun x hx _ => hg x hx, List.filter_eq_self.mpr fun _ _ => rfl]
theorem compV_eq {p : α → Bool} {g : α → β} {xs : List α} (hl : xs.length ≤ 16777216) : compV p g xs = pure ((xs.filter p).map g) := by
  unfold compV
  rw [if_pos hl]
theorem compV_map {g : α → β} {xs : List α} (hl : xs.length ≤ 16777216) : compV (fun _ => true) g xs = pure (xs.map g) := by
  rw [compV_eq hl, List.filter_eq_self.mpr fun _ _ => rfl]
/-- a loop by its state behind i turns -/
theorem forT_eq {L : Type} {f : L → α → TM L} (F : Nat → L) : ∀ (xs : List α) (k : Nat), (∀ i x, xs[i]? = some x → f (F (k + i)) x = pure (F (k + i + 1))) → forT f xs (F k) = pure (F (k + xs.length))
  | [], k, _ => rfl
  | x :: r, k, h => by
    unfold forT
    have h0 := h 0 x rfl
    rw [Nat.add_zero] at h0
    rw [h0, pure_bind, forT_eq F r (k + 1) (fun i y hy => by
      have q := h (i + 1) y hy
      rw [show k + (i + 1) = k + 1 + i by omega] at q
      exact q), List.length_cons, show k + 1 + r.length = k + (r.length + 1) by omega]
theorem forT_inv {L : Type} {f : L → α → TM L} {I : Nat → L → Prop} : ∀ (xs : List α) (k : Nat) (l : L), (∀ i x l, xs[i]? = some x → I (k + i) l → ∃ l', f l x = pure l' ∧ I (k + i + 1) l') → I k l → ∃ l', forT f xs l = pure l' ∧ I (k + xs.length) l'
  | [], k, l, _, hI => ⟨l, rfl, hI⟩
  | x :: r, k, l, h, hI => by
    obtain ⟨l1, h1, h2⟩ := h 0 x l rfl hI
    obtain ⟨l', h3, h4⟩ := forT_inv (I := I) r (k + 1) l1 (fun i y l hy hi => by
      have q := h (i + 1) y l hy (by rw [show k + (i + 1) = k + 1 + i by omega]; exact hi)
      rw [show k + (i + 1) + 1 = k + 1 + i + 1 by omega] at q
      exact q) h2
    refine ⟨l', ?_, by rw [List.length_cons, show k + (r.length + 1) = k + 1 + r.length by omega]; exact h4⟩
    unfold forT
    rw [h1, pure_bind, h3]
/-- a loop is a fold where each turn is pure -/
theorem forT_fold {L : Type} {f : L → α → TM L} {g : L → α → L} {P : L → Prop} : ∀ (xs : List α) (l : L), P l → (∀ l, ∀ x ∈ xs, P l → f l x = pure (g l x) ∧ P (g l x)) → forT f xs l = pure (xs.foldl g l) ∧ P (xs.foldl g l)
  | [], l, hp, _ => ⟨rfl, hp⟩
  | x :: r, l, hp, h => by
    unfold forT
    obtain ⟨h1, h2⟩ := h l x List.mem_cons_self hp
    rw [h1, pure_bind]
    exact forT_fold r (g l x) h2 fun l y hy => h l y (List.mem_cons_of_mem _ hy)
/-- a while loop, by a measure -/
theorem whileT_inv {L : Type} {c : L → TM Bool} {b : L → TM L} {I : L → Prop} {Post : L → Prop} (μ : L → Nat) (h : ∀ l, I l → (c l = pure false ∧ Post l) ∨ ∃ l', c l = pure true ∧ b l = pure l' ∧ μ l' < μ l ∧ I l') : ∀ (n : Nat) (l : L), μ l < n → I l → ∃ l', whileT c b n l = pure l' ∧ Post l'
  | 0, _, hk, _ => absurd hk (Nat.not_lt_zero _)
  | n + 1, l, hk, hI => by
    rcases h l hI with ⟨h1, h2⟩ | ⟨l', h1, h2, h3, h4⟩
    · exact ⟨l, by unfold whileT; rw [h1, pure_bind]; rfl, h2⟩
    · obtain ⟨l2, k1, k2⟩ := whileT_inv μ h n l' (by omega) h4
      exact ⟨l2, by unfold whileT; rw [h1, pure_bind, if_pos rfl, h2, pure_bind, k1], k2⟩
/-- a while loop with returns, by a measure -/
theorem whileB_inv {L R : Type} {c : L → TM Bool} {b : L → TM (L ⊕ R)} {I : L → Prop} {Post : L ⊕ R → Prop} (μ : L → Nat) (h : ∀ l, I l → (c l = pure false ∧ Post (.inl l)) ∨ (∃ l', c l = pure true ∧ b l = pure (.inl l') ∧ μ l' < μ l ∧ I l') ∨ ∃ r, c l = pure true ∧ b l = pure (.inr r) ∧ Post (.inr r)) : ∀ (n : Nat) (l : L), μ l < n → I l → ∃ o, whileB c b n l = pure o ∧ Post o
  | 0, _, hk, _ => absurd hk (Nat.not_lt_zero _)
  | n + 1, l, hk, hI => by
    rcases h l hI with ⟨h1, h2⟩ | ⟨l', h1, h2, h3, h4⟩ | ⟨r, h1, h2, h3⟩
    · exact ⟨.inl l, by unfold whileB; rw [h1, pure_bind]; rfl, h2⟩
    · obtain ⟨l2, k1, k2⟩ := whileB_inv μ h n l' (by omega) h4
      exact ⟨l2, by unfold whileB; rw [h1, pure_bind, if_pos rfl, h2, pure_bind]; exact k1, k2⟩
    · exact ⟨.inr r, by unfold whileB; rw [h1, pure_bind, if_pos rfl, h2, pure_bind], h3⟩
theorem forB_inv {L R : Type} {f : L → α → TM (L ⊕ R)} {I : Nat → L → Prop} {Q : R → Prop} : ∀ (xs : List α) (k : Nat) (l : L), (∀ i x l, xs[i]? = some x → I (k + i) l → (∃ l', f l x = pure (.inl l') ∧ I (k + i + 1) l') ∨ ∃ r, f l x = pure (.inr r) ∧ Q r) → I k l → (∃ l', forB f xs l = pure (.inl l') ∧ I (k + xs.length) l') ∨ ∃ r, forB f xs l = pure (.inr r) ∧ Q r
  | [], k, l, _, hI => .inl ⟨l, rfl, hI⟩
  | x :: r, k, l, h, hI => by
    unfold forB
    rcases h 0 x l rfl hI with ⟨l1, h1, h2⟩ | ⟨y, h1, h2⟩
    · rw [h1, pure_bind]
      rcases forB_inv (I := I) (Q := Q) r (k + 1) l1 (fun i y l hy hi => by
        have q := h (i + 1) y l hy (by rw [show k + (i + 1) = k + 1 + i by omega]; exact hi)
        rw [show k + (i + 1) + 1 = k + 1 + i + 1 by omega] at q
        exact q) h2 with ⟨l', h3, h4⟩ | q
      · exact .inl ⟨l', h3, by rw [List.length_cons, show k + (r.length + 1) = k + 1 + r.length by omega]; exact h4⟩
      · exact .inr q
    · rw [h1, pure_bind]
      exact .inr ⟨y, rfl, h2⟩
end TM
/-- what a computation that may draw gives, where the draw can go on -/
def Gives {α : Type} (t : TM α) (P : α → Prop) (I : DS → Prop) : Prop := ∀ ds, I ds → ∃ x ds', t ds = some (.ok x, ds') ∧ I ds' ∧ P x
section
variable {α β L : Type} {I : DS → Prop} {P : α → Prop} {Q : β → Prop}
theorem Gives.pure {x : α} (h : P x) : Gives (TM.pure x) P I := fun ds hI => ⟨x, ds, rfl, hI, h⟩
theorem Gives.bind {t : TM α} {f : α → TM β} (h : Gives t P I) (hf : ∀ x, P x → Gives (f x) Q I) : Gives (t.bind f) Q I := fun ds hI => by
  obtain ⟨x, ds1, h1, h2, h3⟩ := h ds hI
  obtain ⟨y, ds2, h4, h5, h6⟩ := hf x h3 ds1 h2
  refine ⟨y, ds2, ?_, h5, h6⟩
  show (t ds).bind f = _
  rw [h1]
  exact h4
theorem Gives.imp {t : TM α} {P' : α → Prop} (h : Gives t P I) (f : ∀ x, P x → P' x) : Gives t P' I := fun ds hI => by
  obtain ⟨x, ds1, h1, h2, h3⟩ := h ds hI
  exact ⟨x, ds1, h1, h2, f x h3⟩
theorem Gives.of_eq {t t' : TM α} (e : t = t') (h : Gives t' P I) : Gives t P I := e ▸ h
theorem Gives.for {f : L → α → TM L} {J : Nat → L → Prop} : ∀ (xs : List α) (k : Nat) (l : L), (∀ i x l, xs[i]? = some x → J (k + i) l → Gives (f l x) (J (k + i + 1)) I) → J k l → Gives (TM.forT f xs l) (J (k + xs.length)) I
  | [], k, l, _, hJ => Gives.pure hJ
  | x :: r, k, l, h, hJ => by
    unfold TM.forT
    refine Gives.bind (h 0 x l rfl hJ) fun l' hl' => ?_
    rw [List.length_cons, show k + (r.length + 1) = k + 1 + r.length by omega]
    exact Gives.for r (k + 1) l' (fun i y l hy hi => by
      have q := h (i + 1) y l hy (by rw [show k + (i + 1) = k + 1 + i by omega]; exact hi)
      rw [show k + (i + 1) + 1 = k + 1 + i + 1 by omega] at q
      exact q) hl'
/-- a loop with returns that does not return -/
theorem Gives.forB {R : Type} {f : L → α → TM (L ⊕ R)} {J : Nat → L → Prop} : ∀ (xs : List α) (k : Nat) (l : L), (∀ i x l, xs[i]? = some x → J (k + i) l → Gives (f l x) (fun o => ∃ l', o = .inl l' ∧ J (k + i + 1) l') I) → J k l → Gives (TM.forB f xs l) (fun o => ∃ l', o = .inl l' ∧ J (k + xs.length) l') I
  | [], k, l, _, hJ => Gives.pure ⟨l, rfl, hJ⟩
  | x :: r, k, l, h, hJ => by
    unfold TM.forB
    refine Gives.bind (h 0 x l rfl hJ) fun o ⟨l', e, hl'⟩ => ?_
    subst e
    rw [List.length_cons, show k + (r.length + 1) = k + 1 + r.length by omega]
    exact Gives.forB r (k + 1) l' (fun i y l hy hi => by
      have q := h (i + 1) y l hy (by rw [show k + (i + 1) = k + 1 + i by omega]; exact hi)
      rw [show k + (i + 1) + 1 = k + 1 + i + 1 by omega] at q
      exact q) hl'
theorem Gives.noex {t : TM α} (h : Gives t P I) : Gives t.noex P I := fun ds hI => by
  obtain ⟨x, ds1, h1, h2, h3⟩ := h ds hI
  exact ⟨x, ds1, by unfold TM.noex; rw [h1], h2, h3⟩
/-- a comprehension that draws -/
theorem Gives.comp {g : α → TM β} {P : α → β → Prop} : ∀ (xs : List α), (∀ x ∈ xs, Gives (g x) (P x) I) → Gives (TM.compM (fun _ => TM.pure true) g xs) (fun ys => Paired P xs ys) I
  | [], _ => Gives.pure .nil
  | x :: r, h => by
    unfold TM.compM
    rw [TM.noex_pure, TM.pure_bind, if_pos rfl]
    exact Gives.bind (Gives.noex (h x List.mem_cons_self)) fun y hy => Gives.bind (Gives.comp r fun z hz => h z (List.mem_cons_of_mem _ hz)) fun ys hys => Gives.pure (.cons hy hys)
theorem Gives.compL {g : α → TM β} {P : α → β → Prop} {xs : List α} (hl : xs.length ≤ 16777216) (h : ∀ x ∈ xs, Gives (g x) (P x) I) : Gives (TM.compL (fun _ => TM.pure true) g xs) (fun ys => Paired P xs ys) I := by
  unfold TM.compL
  rw [if_pos hl]
  exact Gives.comp xs h
end
end DL

/-! DT2: a meaning computes what a typed computation does: expressions. -/
namespace DL
open PySem PySem.Spec L2
open PyProof.Rows hiding St

/-! ### what is known of the slots -/
def frS (x : Sl) : Prop := x = .un ∨ ∃ d, x = .d d
def opS : Sl → Prop
  | .lk _ => False
  | .drw => False
  | .scr _ => False
  | _ => True
inductive Kn where
  | v (s : Sl)
  | j
  | jl
def KnS : Kn → Sl → Prop
  | .v s, x => x = s
  | .j, x => frS x
  | .jl, x => opS x
inductive KnR : List Kn → Ev → Prop
  | nil : KnR [] []
  | cons {k : Kn} {s : Sl} {ks : List Kn} {env : Ev} : KnS k s → KnR ks env → KnR (k :: ks) (s :: env)
def kn : List Kn → Nat → Option Kn
  | [], _ => none
  | k :: _, 0 => some k
  | _ :: ks, n + 1 => kn ks n
def kset : List Kn → Nat → Kn → List Kn
  | [], _, _ => []
  | _ :: ks, 0, x => x :: ks
  | k :: ks, n + 1, x => k :: kset ks n x
def setOk (ks : List Kn) (i : Nat) : Bool := match kn ks i with
  | some (.v (.lk _)) => false
  | some _ => true
  | none => false
section
variable {ks ks' : List Kn} {env : Ev}
theorem KnR.get : ∀ {ks : List Kn} {env : Ev} {i : Nat} {k : Kn}, KnR ks env → kn ks i = some k → ∃ s, env[i]? = some s ∧ KnS k s
  | _, _, _, _, .nil, h => nomatch h
  | _, _, 0, _, .cons h _, e => by cases e; exact ⟨_, rfl, h⟩
  | _, _, i + 1, _, .cons _ r, e => KnR.get (i := i) r e
theorem KnR.at (h : KnR ks env) {i : Nat} {s : Sl} (e : kn ks i = some (.v s)) : env[i]? = some s := by
  obtain ⟨x, h1, h2⟩ := h.get e
  have : x = s := h2
  rw [h1, this]
theorem KnR.set : ∀ {ks : List Kn} {env : Ev} (i : Nat) (x : Sl), KnR ks env → KnR (kset ks i (.v x)) (env.set i x)
  | _, _, _, _, .nil => .nil
  | _, _, 0, _, .cons _ r => .cons rfl r
  | _, _, i + 1, x, .cons h r => .cons h (KnR.set i x r)
theorem KnR.put (h : KnR ks env) {i : Nat} {x : Sl} (hs : setOk ks i = true) : ∃ env', DL.put i x env = some env' ∧ KnR (kset ks i (.v x)) env' := by
  unfold setOk at hs
  cases hk : kn ks i with
  | none => rw [hk] at hs; cases hs
  | some k =>
    rw [hk] at hs
    obtain ⟨s, h1, h2⟩ := h.get hk
    have hl := (List.getElem?_eq_some_iff.mp h1).1
    refine ⟨_, ?_, h.set i x⟩
    unfold DL.put notLk
    rw [h1, decide_eq_true hl]
    cases k with
    | v y =>
      have : s = y := h2
      subst this
      cases s <;> first | rfl | (cases hs)
    | j => rcases h2 with rfl | ⟨d, rfl⟩ <;> rfl
    | jl => cases s <;> first | rfl | (exact h2.elim)
theorem KnR.self : ∀ l : Ev, KnR (l.map .v) l
  | [] => .nil
  | x :: r => .cons rfl (KnR.self r)
inductive KLe : Kn → Kn → Prop
  | r {k : Kn} : KLe k k
  | d {x : PyData} : KLe (.v (.d x)) .j
  | u : KLe (.v .un) .j
  | l {xs : List PyData} : KLe (.v (.l xs)) .jl
  | dl {x : PyData} : KLe (.v (.d x)) .jl
  | ul : KLe (.v .un) .jl
  | c {t : Bool} {kvs : List (List Int × PyData)} : KLe (.v (.dc t kvs)) .jl
  | jj : KLe .j .jl
inductive LeK : List Kn → List Kn → Prop
  | nil : LeK [] []
  | cons {a b : Kn} {as bs : List Kn} : KLe a b → LeK as bs → LeK (a :: as) (b :: bs)
theorem KLe.ok {a b : Kn} (h : KLe a b) {s : Sl} (q : KnS a s) : KnS b s := by
  cases h with
  | r => exact q
  | d => exact .inr ⟨_, q⟩
  | u => exact .inl q
  | l => have e : s = _ := q; subst e; trivial
  | dl => have e : s = _ := q; subst e; trivial
  | ul => have e : s = _ := q; subst e; trivial
  | c => have e : s = _ := q; subst e; trivial
  | jj => rcases q with rfl | ⟨d, rfl⟩ <;> trivial
theorem LeK.ok : ∀ {as bs : List Kn} {env : Ev}, LeK as bs → KnR as env → KnR bs env
  | _, _, _, .nil, .nil => .nil
  | _, _, _, .cons h t, .cons q r => .cons (h.ok q) (LeK.ok t r)
theorem LeK.refl : ∀ ks : List Kn, LeK ks ks
  | [] => .nil
  | _ :: r => .cons .r (LeK.refl r)
/-- slots wiped -/
def wipeK (ks : List Kn) : List Nat → Option (List Kn)
  | [] => some ks
  | v :: vs => (wipeK ks vs).bind fun k => match kn k v with
    | some .j => some (kset k v (.v .un))
    | some (.v .un) => some (kset k v (.v .un))
    | some (.v (.d _)) => some (kset k v (.v .un))
    | _ => none
theorem wipeK_ok : ∀ {vs : List Nat} {k1 : List Kn}, KnR ks env → wipeK ks vs = some k1 → ∃ env1, wipeE env vs = some env1 ∧ KnR k1 env1
  | [], k1, h, e => by cases e; exact ⟨_, rfl, h⟩
  | v :: vs, k1, h, e => by
    unfold wipeK at e
    cases hw : wipeK ks vs with
    | none => rw [hw] at e; cases e
    | some k =>
      rw [hw] at e
      obtain ⟨env1, h1, h2⟩ := wipeK_ok h hw
      refine ⟨env1.set v .un, ?_, ?_⟩
      · unfold wipeE
        rw [h1]
        show (match env1[v]? with | some (.l _) => none | some (.lk _) => none | some (.dc _ _) => none | _ => some (env1.set v .un)) = _
        change (match kn k v with | some .j => _ | some (.v .un) => _ | some (.v (.d _)) => _ | _ => none) = some k1 at e
        cases hk : kn k v with
        | none => rw [hk] at e; cases e
        | some z =>
          obtain ⟨s, q1, q2⟩ := h2.get hk
          rw [q1]
          rw [hk] at e
          cases z with
          | v y =>
            have : s = y := q2
            subst this
            cases s <;> first | rfl | (cases e)
          | j => rcases q2 with rfl | ⟨d, rfl⟩ <;> rfl
          | jl => cases e
      · change (match kn k v with | some .j => some (kset k v (.v .un)) | some (.v .un) => some (kset k v (.v .un)) | some (.v (.d _)) => some (kset k v (.v .un)) | _ => none) = some k1 at e
        have : k1 = kset k v (.v .un) := by
          split at e <;> cases e <;> rfl
        rw [this]
        exact h2.set v .un
/-- a target stores -/
def TgK (t : Tg) (d : PyData) (ks ks' : List Kn) : Prop := ∀ env, KnR ks env → ∃ env', t d env = some env' ∧ KnR ks' env'
def TgsK (t : Tgs) (ds : List PyData) (ks ks' : List Kn) : Prop := ∀ env, KnR ks env → ∃ env', t ds env = some env' ∧ KnR ks' env'
theorem tk_name {i : Nat} {d : PyData} (h : setOk ks i = true) : TgK (tName i) d ks (kset ks i (.v (.d d))) := fun env hk => hk.put h
theorem tks_nil : TgsK tNilT [] ks ks := fun env hk => ⟨env, rfl, hk⟩
theorem tks_cons {t : Tg} {ts : Tgs} {d : PyData} {ds : List PyData} {k1 k2 : List Kn} (h1 : TgK t d ks k1) (h2 : TgsK ts ds k1 k2) : TgsK (tConsT t ts) (d :: ds) ks k2 := fun env hk => by
  obtain ⟨e1, q1, q2⟩ := h1 env hk
  obtain ⟨e2, q3, q4⟩ := h2 e1 q2
  refine ⟨e2, ?_, q4⟩
  show (t d env).bind (ts ds) = _
  rw [q1]
  exact q3
theorem tk_tup {ts : Tgs} {ds : List PyData} {n : Nat} {k1 : List Kn} (h : TgsK ts ds ks k1) (hn : ds.length = n := by rfl) : TgK (tTup n ts) (.tuple ds) ks k1 := fun env hk => by
  obtain ⟨e1, q1, q2⟩ := h env hk
  refine ⟨e1, ?_, q2⟩
  show (if ds.length = n then ts ds env else none) = _
  rw [if_pos hn, q1]
end

/-! ### values and computations -/
/-- the meaning gives y -/
def RV {β : Type} (ks : List Kn) (m : ME β) (y : β) : Prop := ∀ env ds, KnR ks env → m env ds = some (.ok y, ds)
/-- the meaning gives what t computes -/
def RE {α β : Type} (ks : List Kn) (m : ME β) (t : TM α) (e : α → β) : Prop := ∀ env ds, KnR ks env → ∀ o ds', t ds = some (o, ds') → m env ds = some (o.map e, ds')
section
variable {α β γ δ : Type} {ks : List Kn}
theorem RV.re {m : ME β} {y : β} {e : α → β} {x : α} (h : RV ks m y) (he : e x = y := by rfl) : RE ks m (TM.pure x) e := fun env ds hk o ds' q => by
  cases q
  rw [h env ds hk, ← he]
  rfl
theorem re_bind {a : ME β} {f : β → ME γ} {ta : TM α} {ea : α → β} {tf : α → TM δ} {e : δ → γ} (ha : RE ks a ta ea) (hf : ∀ x, RE ks (f (ea x)) (tf x) e) : RE ks (a.bind f) (ta.bind tf) e := fun env ds hk o ds' q => by
  change (ta ds).bind tf = some (o, ds') at q
  show (a env ds).bind _ = _
  cases h : ta ds with
  | none => rw [h] at q; cases q
  | some p =>
    obtain ⟨o1, ds1⟩ := p
    rw [h] at q
    rw [ha env ds hk o1 ds1 h]
    cases o1 with
    | ok x => exact hf x env ds1 hk o ds' q
    | exc x => cases q; rfl
theorem rv_bind {a : ME β} {f : β → ME γ} {x : β} {t : TM δ} {e : δ → γ} (ha : RV ks a x) (hf : RE ks (f x) t e) : RE ks (a.bind f) t e := fun env ds hk o ds' q => by
  show (a env ds).bind _ = _
  rw [ha env ds hk]
  exact hf env ds hk o ds' q
theorem rv_vbind {a : ME β} {f : β → ME γ} {x : β} {y : γ} (ha : RV ks a x) (hf : RV ks (f x) y) : RV ks (a.bind f) y := fun env ds hk => by
  show (a env ds).bind _ = _
  rw [ha env ds hk]
  exact hf env ds hk
theorem re_lift {o : Option β} {g : Option α} {e : α → β} (h : o = g.map e) : RE ks (ME.lift o) (TM.lift g) e := fun env ds hk o' ds' q => by
  subst h
  cases g with
  | none => cases q
  | some x => cases q; rfl
theorem re_liftP {o : Option β} {x : α} {e : α → β} (h : o = some (e x)) : RE ks (ME.lift o) (TM.pure x) e := fun env ds hk o' ds' q => by
  subst h
  cases q
  rfl
theorem rv_lift {o : Option β} {y : β} (h : o = some y) : RV ks (ME.lift o) y := fun env ds hk => by subst h; rfl
theorem re_pure {x : α} {e : α → β} {y : β} (h : e x = y := by rfl) : RE ks (ME.pure y) (TM.pure x) e := fun env ds hk o' ds' q => by
  cases q
  rw [← h]
  rfl
theorem RE.to {m : ME β} {t : TM α} {e e' : α → β} (h : RE ks m t e) (he : ∀ x, e x = e' x) : RE ks m t e' := by
  have : e = e' := funext he
  rw [← this]
  exact h
/-- the same computation, seen as giving another plain value -/
theorem RE.mapE {m : ME β} {t : TM α} {e : α → β} {e' : δ → β} (g : α → δ) (h : RE ks m t e) (he : ∀ x, e' (g x) = e x) : RE ks m (t.bind fun x => TM.pure (g x)) e' := fun env ds hk o ds' q => by
  change (t ds).bind _ = some (o, ds') at q
  cases ht : t ds with
  | none => rw [ht] at q; cases q
  | some p =>
    obtain ⟨o1, ds1⟩ := p
    rw [ht] at q
    rw [h env ds hk o1 ds1 ht]
    cases o1 with
    | ok x =>
      cases q
      show some (Out.ok (e x), _) = some (Out.ok (e' (g x)), _)
      rw [he]
    | exc x => cases q; rfl
theorem re_let {m : ME β} {x : δ} {t : δ → TM α} {e : α → β} (h : RE ks m (t x) e) : RE ks m (TM.tlet x t) e := h
/-! names, constants -/
theorem v_c {d : PyData} : RV ks (mC d) d := fun _ _ _ => rfl
theorem v_v {i : Nat} {d : PyData} (h : kn ks i = some (.v (.d d))) : RV ks (mV i) d := fun env ds hk => by rw [mV_ev, hk.at h]
theorem v_vp {i : Nat} {xs : List PyData} (h : kn ks i = some (.v (.l xs))) : RV ks (mVp i) (.list xs) := fun env ds hk => by rw [mVp_ev, hk.at h]
theorem v_vpk {i : Nat} {xs : List PyData} (h : kn ks i = some (.v (.lk xs))) : RV ks (mVp i) (.list xs) := fun env ds hk => by rw [mVp_ev, hk.at h]
theorem v_vpd {i : Nat} {d : PyData} (h : kn ks i = some (.v (.d d))) : RV ks (mVp i) d := fun env ds hk => by rw [mVp_ev, hk.at h]
/-! operators -/
variable {a b c : ME PyData} {x y z : PyData}
theorem v_op {f : PyData → PyData → Option PyData} (ha : RV ks a x) (hb : RV ks b y) (hf : f x y = some z) : RV ks (mOp f a b) z := rv_vbind ha (rv_vbind hb (rv_lift hf))
theorem v_un {f : PyData → Option PyData} (ha : RV ks a x) (hf : f x = some z) : RV ks (mUn f a) z := rv_vbind ha (rv_lift hf)
theorem v_unF {f : PyData → Option (List PyData)} {zs : List PyData} (ha : RV ks a x) (hf : f x = some zs) : RV ks (mUnF f a) zs := rv_vbind ha (rv_lift hf)
theorem v_F {m : ME (List PyData)} {xs : List PyData} (h : RV ks m xs) : RV ks (mF m) (.list xs) := rv_vbind h fun _ _ _ => rfl
theorem c_F {m : ME (List PyData)} {t : TM α} {e : α → List PyData} {e' : α → PyData} (h : RE ks m t e) (he : ∀ x, .list (e x) = e' x := by intro _; rfl) : RE ks (mF m) t e' := by
  have q := re_bind (f := fun xs => ME.pure (.list xs)) (tf := fun x => TM.pure x) (e := e') h fun x => re_pure (he x).symm
  rw [TM.bind_pure] at q
  exact q
theorem v_tst {k : Bool} (h : RV ks a (.bool k)) : RV ks (mTst a) k := rv_vbind h (rv_lift rfl)
theorem c_tst {t : TM Bool} (h : RE ks a t PyData.bool) : RE ks (mTst a) t id := by
  have q := re_bind (f := fun x => ME.lift (match x with | .bool b => some b | _ => none)) (tf := fun x => TM.pure x) (e := id) h fun x => re_liftP rfl
  rw [TM.bind_pure] at q
  exact q
theorem v_not {m : ME Bool} {k : Bool} (h : RV ks m k) : RV ks (mNot m) (!k) := rv_vbind h fun _ _ _ => rfl
theorem c_not {m : ME Bool} {t : TM Bool} (h : RE ks m t id) : RE ks (mNot m) (t.bind fun k => TM.pure (!k)) id := re_bind h fun k => re_pure
theorem v_and {m m' : ME Bool} {k k' : Bool} (h : RV ks m k) (h' : RV ks m' k') : RV ks (mAnd m m') (k && k') := rv_vbind h (by
  cases k
  · exact fun _ _ _ => rfl
  · exact h')
theorem v_or {m m' : ME Bool} {k k' : Bool} (h : RV ks m k) (h' : RV ks m' k') : RV ks (mOr m m') (k || k') := rv_vbind h (by
  cases k
  · exact h'
  · exact fun _ _ _ => rfl)
theorem c_and {m m' : ME Bool} {k : Bool} {t' : TM Bool} (h : RV ks m k) (h' : RE ks m' t' id) : RE ks (mAnd m m') (if k then t' else TM.pure false) id := rv_bind h (by
  cases k
  · exact re_pure
  · exact h')
theorem c_or {m m' : ME Bool} {k : Bool} {t' : TM Bool} (h : RV ks m k) (h' : RE ks m' t' id) : RE ks (mOr m m') (if k then TM.pure true else t') id := rv_bind h (by
  cases k
  · exact h'
  · exact re_pure)
theorem cc_and {m m' : ME Bool} {t t' : TM Bool} (h : RE ks m t id) (h' : RE ks m' t' id) : RE ks (mAnd m m') (t.bind fun k => if k then t' else TM.pure false) id := re_bind h fun k => by
  cases k
  · exact re_pure
  · exact h'
theorem cc_or {m m' : ME Bool} {t t' : TM Bool} (h : RE ks m t id) (h' : RE ks m' t' id) : RE ks (mOr m m') (t.bind fun k => if k then TM.pure true else t') id := re_bind h fun k => by
  cases k
  · exact h'
  · exact re_pure
theorem v_andV {k k' : Bool} (h : RV ks a (.bool k)) (h' : RV ks b (.bool k')) : RV ks (mAndV a b) (.bool (k && k')) := rv_vbind h (by
  cases k
  · exact fun _ _ _ => rfl
  · exact h')
theorem v_orV {k k' : Bool} (h : RV ks a (.bool k)) (h' : RV ks b (.bool k')) : RV ks (mOrV a b) (.bool (k || k')) := rv_vbind h (by
  cases k
  · exact h'
  · exact fun _ _ _ => rfl)
theorem c_andV {k : Bool} {t' : TM Bool} (h : RV ks a (.bool k)) (h' : RE ks b t' PyData.bool) : RE ks (mAndV a b) (if k then t' else TM.pure false) PyData.bool := rv_bind h (by
  cases k
  · exact re_pure
  · exact h')
theorem c_orV {k : Bool} {t' : TM Bool} (h : RV ks a (.bool k)) (h' : RE ks b t' PyData.bool) : RE ks (mOrV a b) (if k then TM.pure true else t') PyData.bool := rv_bind h (by
  cases k
  · exact h'
  · exact re_pure)
theorem cc_andV {t t' : TM Bool} (h : RE ks a t PyData.bool) (h' : RE ks b t' PyData.bool) : RE ks (mAndV a b) (t.bind fun k => if k then t' else TM.pure false) PyData.bool := re_bind h fun k => by
  cases k
  · exact re_pure
  · exact h'
theorem cc_orV {t t' : TM Bool} (h : RE ks a t PyData.bool) (h' : RE ks b t' PyData.bool) : RE ks (mOrV a b) (t.bind fun k => if k then TM.pure true else t') PyData.bool := re_bind h fun k => by
  cases k
  · exact h'
  · exact re_pure
theorem v_if {μ : ME Bool} {m m' : ME β} {k : Bool} {x y : α} {e : α → β} (h : RV ks μ k) (h1 : RV ks m (e x)) (h2 : RV ks m' (e y)) : RV ks (mIf μ m m') (e (if k then x else y)) := rv_vbind h (by
  cases k
  · exact h2
  · exact h1)
theorem c_if {μ : ME Bool} {m m' : ME β} {k : Bool} {t t' : TM α} {e : α → β} (h : RV ks μ k) (h1 : RE ks m t e) (h2 : RE ks m' t' e) : RE ks (mIf μ m m') (if k then t else t') e := rv_bind h (by
  cases k
  · exact h2
  · exact h1)
theorem cc_if {μ : ME Bool} {m m' : ME β} {tk : TM Bool} {t t' : TM α} {e : α → β} (h : RE ks μ tk id) (h1 : RE ks m t e) (h2 : RE ks m' t' e) : RE ks (mIf μ m m') (tk.bind fun k => if k then t else t') e := re_bind h fun k => by
  cases k
  · exact h2
  · exact h1
theorem v_chain {f f' : PyData → PyData → Option PyData} {u : PyData} {k k' : Bool} (ha : RV ks a x) (hb : RV ks b y) (hf : f x y = some (.bool k)) (hc : RV ks c u) (hf' : f' y u = some (.bool k')) : RV ks (mChain f f' a b c) (.bool (k && k')) := rv_vbind ha (rv_vbind hb (rv_vbind (rv_lift hf) (by
  cases k
  · exact fun _ _ _ => rfl
  · exact rv_vbind hc (rv_lift hf'))))
theorem c_chain {f f' : PyData → PyData → Option PyData} {ta : TM α} {tb : TM β} {tc : TM γ} {ea : α → PyData} {eb : β → PyData} {ec : γ → PyData} {p : α → β → Bool} {q : β → γ → Bool} (ha : RE ks a ta ea) (hb : RE ks b tb eb) (hf : ∀ x y, f (ea x) (eb y) = some (.bool (p x y))) (hc : RE ks c tc ec) (hf' : ∀ y z, f' (eb y) (ec z) = some (.bool (q y z))) :
    RE ks (mChain f f' a b c) (ta.bind fun x => tb.bind fun y => if p x y then tc.bind fun z => TM.pure (q y z) else TM.pure false) PyData.bool := re_bind ha fun x => re_bind hb fun y => rv_bind (rv_lift (hf x y)) (by
  cases p x y
  · exact re_pure
  · exact re_bind hc fun z => re_liftP (hf' y z))
/-- the same where f is partial -/
theorem c_chainP {f f' : PyData → PyData → Option PyData} {ta : TM α} {tb : TM β} {tc : TM γ} {ea : α → PyData} {eb : β → PyData} {ec : γ → PyData} {p : α → β → Option Bool} {q : β → γ → Option Bool} (ha : RE ks a ta ea) (hb : RE ks b tb eb) (hf : ∀ x y, f (ea x) (eb y) = (p x y).map PyData.bool) (hc : RE ks c tc ec) (hf' : ∀ y z, f' (eb y) (ec z) = (q y z).map PyData.bool) :
    RE ks (mChain f f' a b c) (ta.bind fun x => tb.bind fun y => (TM.lift (p x y)).bind fun k => if k then tc.bind fun z => TM.lift (q y z) else TM.pure false) PyData.bool := re_bind ha fun x => re_bind hb fun y => re_bind (re_lift (hf x y)) fun k => by
  cases k
  · exact re_pure
  · exact re_bind hc fun z => re_lift (hf' y z)
/-! displays -/
theorem v_nil : RV ks mNil [] := fun _ _ _ => rfl
theorem v_cons {r : ME (List PyData)} {xs : List PyData} (ha : RV ks a x) (hr : RV ks r xs) : RV ks (mCons a r) (x :: xs) := rv_vbind ha (rv_vbind hr fun _ _ _ => rfl)
theorem v_tup {r : ME (List PyData)} {xs : List PyData} (h : RV ks r xs) (hs : Nat.ble xs.length 1000 = true := by rfl) : RV ks (mTup r) (.tuple xs) := rv_vbind h (rv_lift (by rw [show short xs.length = true from short_of (by have := Nat.le_of_ble_eq_true hs; omega), if_pos rfl]))
theorem v_lst {r : ME (List PyData)} {xs : List PyData} (h : RV ks r xs) (hs : Nat.ble xs.length 1000 = true := by rfl) : RV ks (mLst r) xs := rv_vbind h (rv_lift (by rw [show short xs.length = true from short_of (by have := Nat.le_of_ble_eq_true hs; omega), if_pos rfl]))
theorem rz_assoc {o : Rz α} {f : α → DS → Rz β} {g : β → DS → Rz γ} : (o.bind f).bind g = o.bind fun x ds => (f x ds).bind g := by
  rcases o with _ | ⟨_ | _, _⟩ <;> rfl
theorem RE.cg {m m' : ME β} {t : TM α} {e : α → β} (h : RE ks m t e) (q : ∀ env ds, m' env ds = m env ds) : RE ks m' t e := fun env ds hk o ds' z => by
  rw [q]
  exact h env ds hk o ds' z
/-- a display whose items compute: item by item -/
theorem k_nil {k : List PyData → ME β} {t : TM α} {e : α → β} (h : RE ks (k []) t e) : RE ks (ME.bind mNil k) t e := h
theorem k_cons {r : ME (List PyData)} {k : List PyData → ME β} {t : TM α} {e : α → β} (ha : RV ks a x) (h : RE ks (r.bind fun xs => k (x :: xs)) t e) : RE ks ((mCons a r).bind k) t e :=
  (rv_bind (f := fun x => r.bind fun xs => k (x :: xs)) ha h).cg fun env ds => by
    show ((a env ds).bind fun x ds => (r env ds).bind fun xs ds => some (.ok (x :: xs), ds)).bind _ = (a env ds).bind fun x ds => (r env ds).bind fun xs ds => k (x :: xs) env ds
    rw [rz_assoc]
    congr 1; funext x ds
    rw [rz_assoc]
    rfl
theorem k_consC {r : ME (List PyData)} {k : List PyData → ME β} {ta : TM δ} {ea : δ → PyData} {t : δ → TM α} {e : α → β} (ha : RE ks a ta ea) (h : ∀ x, RE ks (r.bind fun xs => k (ea x :: xs)) (t x) e) : RE ks ((mCons a r).bind k) (ta.bind t) e :=
  (re_bind (f := fun x => r.bind fun xs => k (x :: xs)) ha h).cg fun env ds => by
    show ((a env ds).bind fun x ds => (r env ds).bind fun xs ds => some (.ok (x :: xs), ds)).bind _ = (a env ds).bind fun x ds => (r env ds).bind fun xs ds => k (x :: xs) env ds
    rw [rz_assoc]
    congr 1; funext x ds
    rw [rz_assoc]
    rfl
theorem k_tup {xs : List PyData} {p : α} {e : α → PyData} (he : e p = .tuple xs := by rfl) (hs : Nat.ble xs.length 1000 = true := by rfl) : RE ks (ME.lift (if short xs.length then some (PyData.tuple xs) else none)) (TM.pure p) e :=
  re_liftP (by rw [show short xs.length = true from short_of (by have := Nat.le_of_ble_eq_true hs; omega), if_pos rfl, he])
theorem k_lst {xs : List PyData} {p : α} {e : α → List PyData} (he : e p = xs := by rfl) (hs : Nat.ble xs.length 1000 = true := by rfl) : RE ks (ME.lift (if short xs.length then some xs else none)) (TM.pure p) e :=
  re_liftP (by rw [show short xs.length = true from short_of (by have := Nat.le_of_ble_eq_true hs; omega), if_pos rfl, he])
/-! calls -/
def RF (f : FS) (args : List Sl) (t : TM α) (e : α → PyData) : Prop := ∀ ds o ds', t ds = some (o, ds') → f args ds = some (o.map e, ds')
theorem x_nil {k : List Sl → ME β} {t : TM α} {e : α → β} (h : RE ks (k []) t e) : RE ks (ME.bind axNil k) t e := h
theorem x_d {r : ME (List Sl)} {k : List Sl → ME β} {t : TM α} {e : α → β} (ha : RV ks a x) (h : RE ks (r.bind fun xs => k (.d x :: xs)) t e) : RE ks ((axD a r).bind k) t e :=
  (rv_bind (f := fun x => r.bind fun xs => k (.d x :: xs)) ha h).cg fun env ds => by
    show ((a env ds).bind fun x ds => (r env ds).bind fun xs ds => some (.ok (.d x :: xs), ds)).bind _ = (a env ds).bind fun x ds => (r env ds).bind fun xs ds => k (.d x :: xs) env ds
    rw [rz_assoc]
    congr 1; funext x ds
    rw [rz_assoc]
    rfl
theorem x_dC {r : ME (List Sl)} {k : List Sl → ME β} {ta : TM δ} {ea : δ → PyData} {t : δ → TM α} {e : α → β} (ha : RE ks a ta ea) (h : ∀ x, RE ks (r.bind fun xs => k (.d (ea x) :: xs)) (t x) e) : RE ks ((axD a r).bind k) (ta.bind t) e :=
  (re_bind (f := fun x => r.bind fun xs => k (.d x :: xs)) ha h).cg fun env ds => by
    show ((a env ds).bind fun x ds => (r env ds).bind fun xs ds => some (.ok (.d x :: xs), ds)).bind _ = (a env ds).bind fun x ds => (r env ds).bind fun xs ds => k (.d x :: xs) env ds
    rw [rz_assoc]
    congr 1; funext x ds
    rw [rz_assoc]
    rfl
theorem x_v {i : Nat} {r : ME (List Sl)} {k : List Sl → ME β} {t : TM α} {e : α → β} (hi : kn ks i = some (.v .drw)) (h : RE ks (r.bind fun xs => k (.drw :: xs)) t e) : RE ks ((axV i r).bind k) t e := fun env ds hk o ds' q => by
  have z := h env ds hk o ds' q
  rw [← z]
  show (axV i r env ds).bind _ = (r env ds).bind _
  rw [axV_ev, hk.at hi]
  dsimp only
  rw [rz_assoc]
  rfl
theorem x_fin {f : FS} {n : Nat} {args : List Sl} {t : TM α} {e : α → PyData} (h : RF f args t e) (hn : args.length = n := by rfl) : RE ks (fun _ ds => chk n f args ds) t e := fun env ds hk o ds' q => by
  show (if args.length = n then f args ds else none) = _
  rw [if_pos hn]
  exact h ds o ds' q
theorem x_finP {f : FS} {n : Nat} {args : List Sl} {t : TM α} {e : α → PyData} (h : RF f args t e) (hl : ∀ x, noL (e x) = true) (hn : args.length = n := by rfl) : RE ks (fun _ ds => (chk n f args ds).bind fun d ds' => if noL d then some (.ok d, ds') else none) t e := fun env ds hk o ds' q => by
  show ((if args.length = n then f args ds else none).bind _) = _
  rw [if_pos hn, h ds o ds' q]
  cases o with
  | ok x =>
    show (if noL (e x) then _ else none) = _
    rw [hl, if_pos rfl]
    rfl
  | exc x => rfl
theorem c_call {f : FS} {A : ME (List Sl)} {t : TM α} {e : α → PyData} (h : RE ks (A.bind fun args _ ds => f args ds) t e) : RE ks (mCall f A) t e := h
theorem c_callP {f : FS} {A : ME (List Sl)} {t : TM α} {e : α → PyData} (h : RE ks (A.bind fun args _ ds => (f args ds).bind fun d ds' => if noL d then some (.ok d, ds') else none) t e) : RE ks (mCallP f A) t e := h
/-! what is walked -/
theorem v_items {xs : List PyData} (h : RV ks a x) (hx : itemsOf x = some xs) : RV ks (mItems a) xs := rv_vbind h (rv_lift hx)
theorem c_items {t : TM α} {ea : α → PyData} {e : α → List PyData} (h : RE ks a t ea) (hx : ∀ x, itemsOf (ea x) = some (e x)) : RE ks (mItems a) t e := by
  have q := re_bind (f := fun x => ME.lift (itemsOf x)) (tf := fun x => TM.pure x) (e := e) h fun x => re_liftP (hx x)
  rw [TM.bind_pure] at q
  exact q
@[irreducible] def rngT (i j : Int) : Option (List Int) := if -(2 ^ 62) ≤ i ∧ i < 2 ^ 62 ∧ -(2 ^ 62) ≤ j ∧ j < 2 ^ 62 then some ((List.range (j - i).toNat).map fun (k : Nat) => i + (k : Int)) else none
theorem rng_map (lo : Int) (n : Nat) : rangeD lo n = ((List.range n).map fun (k : Nat) => lo + (k : Int)).map PyData.int := by
  unfold rangeD
  rw [List.map_map]
  rfl
theorem rng1_ok (j : Int) : (match PyData.int j with | .int j => if decide (-(2 ^ 62) ≤ j ∧ j < 2 ^ 62) then some (rangeD 0 j.toNat) else none | _ => none) = (rngT 0 j).map (List.map PyData.int) := by
  unfold rngT
  dsimp only
  by_cases h : -(2 ^ 62) ≤ j ∧ j < 2 ^ 62
  · rw [if_pos (decide_eq_true h), if_pos ⟨by decide, by decide, h.1, h.2⟩, Int.sub_zero, rng_map]
    rfl
  · rw [if_neg (by rw [decide_eq_false h]; exact Bool.false_ne_true), if_neg fun q => h ⟨q.2.2.1, q.2.2.2⟩]
    rfl
theorem c_rng1 {t : TM Int} (h : RE ks a t PyData.int) : RE ks (mRng1 a) (t.bind fun j => TM.lift (rngT 0 j)) (List.map PyData.int) := re_bind h fun j => re_lift (rng1_ok j)
theorem c_rng1V {j : Int} (h : RV ks a (.int j)) : RE ks (mRng1 a) (TM.lift (rngT 0 j)) (List.map PyData.int) := rv_bind h (re_lift (rng1_ok j))
theorem rng2_ok (i j : Int) : (match PyData.int i, PyData.int j with | .int i, .int j => if decide (-(2 ^ 62) ≤ i ∧ i < 2 ^ 62 ∧ -(2 ^ 62) ≤ j ∧ j < 2 ^ 62) then some (rangeD i (j - i).toNat) else none | _, _ => none) = (rngT i j).map (List.map PyData.int) := by
  unfold rngT
  dsimp only
  by_cases h : -(2 ^ 62) ≤ i ∧ i < 2 ^ 62 ∧ -(2 ^ 62) ≤ j ∧ j < 2 ^ 62
  · rw [if_pos (decide_eq_true h), if_pos h, rng_map]
    rfl
  · rw [if_neg (by rw [decide_eq_false h]; exact Bool.false_ne_true), if_neg h]
    rfl
theorem c_rng2V {i j : Int} (h : RV ks a (.int i)) (h' : RV ks b (.int j)) : RE ks (mRng2 a b) (TM.lift (rngT i j)) (List.map PyData.int) := rv_bind h (rv_bind h' (re_lift (rng2_ok i j)))
theorem c_rng2 {t t' : TM Int} (h : RE ks a t PyData.int) (h' : RE ks b t' PyData.int) : RE ks (mRng2 a b) (t.bind fun i => t'.bind fun j => TM.lift (rngT i j)) (List.map PyData.int) := re_bind h fun i => re_bind h' fun j => re_lift (rng2_ok i j)
@[irreducible] def rngL (i j : Int) : Option (List Int) := if -1048576 ≤ i ∧ i < 1048576 ∧ -1048576 ≤ j ∧ j < 1048576 then some ((List.range (j - i).toNat).map fun (k : Nat) => i + (k : Int)) else none
theorem rgL1_ok (j : Int) : (match PyData.int j with | .int j => if smallI j then some (rangeD 0 j.toNat) else none | _ => none) = (rngL 0 j).map (List.map PyData.int) := by
  unfold rngL smallI
  dsimp only
  by_cases h : -1048576 ≤ j ∧ j < 1048576
  · rw [if_pos (decide_eq_true h), if_pos ⟨by decide, by decide, h.1, h.2⟩, Int.sub_zero, rng_map]
    rfl
  · rw [if_neg (by rw [decide_eq_false h]; exact Bool.false_ne_true), if_neg fun q => h ⟨q.2.2.1, q.2.2.2⟩]
    rfl
theorem c_rgL1V {j : Int} (h : RV ks a (.int j)) : RE ks (mRgL1 a) (TM.lift (rngL 0 j)) (List.map PyData.int) := rv_bind h (re_lift (rgL1_ok j))
theorem c_rgL1 {t : TM Int} (h : RE ks a t PyData.int) : RE ks (mRgL1 a) (t.bind fun j => TM.lift (rngL 0 j)) (List.map PyData.int) := re_bind h fun j => re_lift (rgL1_ok j)
theorem v_isi {n : Nat} {k : Bool} (h : RV ks a x) (hx : isOf (["int", "bool", "tuple", "str", "list"].getD n "") x = some k) : RV ks (mIsi n a) (.bool k) := rv_vbind h (rv_lift (by rw [hx]; rfl))
theorem c_isi {n : Nat} {t : TM α} {e : α → PyData} (h : RE ks a t e) : RE ks (mIsi n a) (t.bind fun x => TM.lift (isOf (["int", "bool", "tuple", "str", "list"].getD n "") (e x))) PyData.bool := re_bind h fun x => re_lift rfl
theorem c_isiV {n : Nat} (h : RV ks a x) : RE ks (mIsi n a) (TM.lift (isOf (["int", "bool", "tuple", "str", "list"].getD n "") x)) PyData.bool := rv_bind h (re_lift rfl)
/-! comprehensions -/
theorem v_yes : RV ks mYes true := fun _ _ _ => rfl
theorem compGo_re {t : Tg} {c : ME Bool} {elt : ME PyData} {env : Ev} {ks1 : List Kn} {ks2 : α → List Kn} {ea : α → PyData} {p : α → TM Bool} {g : α → TM γ} {e : γ → PyData} (hk : KnR ks1 env) (ht : ∀ x, TgK t (ea x) ks1 (ks2 x)) (hc : ∀ x, RE (ks2 x) c (p x) id) (he : ∀ x, RE (ks2 x) elt (g x) e) :
    ∀ (xs : List α) (acc : List PyData) (ds : DS) (o : Out (List γ)) (ds' : DS), acc.length + xs.length ≤ 16777216 → TM.compM p g xs ds = some (o, ds') → ∃ ys, o = .ok ys ∧ compGo t c elt env (xs.map ea) ds acc = some (acc ++ ys.map e, ds')
  | [], acc, ds, o, ds', _, q => by
    cases q
    exact ⟨[], rfl, by show some (acc, ds) = some (acc ++ [], ds); rw [List.append_nil]⟩
  | x :: r, acc, ds, o, ds', hl, q => by
    rw [List.length_cons] at hl
    obtain ⟨env1, h1, h2⟩ := ht x env hk
    change (TM.noex (p x) ds).bind _ = some (o, ds') at q
    unfold TM.noex at q
    rw [List.map_cons]
    unfold compGo
    rw [h1]
    dsimp only
    rcases hp : p x ds with _ | ⟨k | x', ds1⟩
    · rw [hp] at q; cases q
    · rw [hp] at q
      rw [hc x env1 ds h2 _ _ hp]
      dsimp only at q
      rw [rb_ok] at q
      dsimp only [Out.map, id]
      cases k with
      | false =>
        rw [if_neg Bool.false_ne_true] at q
        exact compGo_re hk ht hc he r acc ds1 o ds' (by omega) q
      | true =>
        rw [if_pos rfl] at q
        change (TM.noex (g x) ds1).bind _ = some (o, ds') at q
        unfold TM.noex at q
        dsimp only
        rcases hg : g x ds1 with _ | ⟨y | x', ds2⟩
        · rw [hg] at q; cases q
        · rw [hg] at q
          rw [he x env1 ds1 h2 _ _ hg]
          change (TM.compM p g r ds2).bind _ = some (o, ds') at q
          rcases hr : TM.compM p g r ds2 with _ | ⟨o2, ds3⟩
          · rw [hr] at q; cases q
          · obtain ⟨ys, rfl, k2⟩ := compGo_re hk ht hc he r (acc ++ [e y]) ds2 o2 ds3 (by rw [List.length_append, List.length_singleton]; omega) hr
            rw [hr] at q
            cases q
            refine ⟨y :: ys, rfl, ?_⟩
            dsimp only [Out.map]
            rw [lt_line (by omega), if_pos rfl]
            rw [k2, List.append_assoc]
            rfl
        · rw [hg] at q; cases q
    · rw [hp] at q; cases q
theorem c_comp {vs : List Nat} {mi : ME (List PyData)} {t : Tg} {c : ME Bool} {elt : ME PyData} {ks1 : List Kn} {ks2 : α → List Kn} {ea : α → PyData} {ti : TM (List α)} {p : α → TM Bool} {g : α → TM γ} {e : γ → PyData} (hi : RE ks mi ti (List.map ea)) (hw : wipeK ks vs = some ks1) (ht : ∀ x, TgK t (ea x) ks1 (ks2 x)) (hc : ∀ x, RE (ks2 x) c (p x) id) (he : ∀ x, RE (ks2 x) elt (g x) e) :
    RE ks (mComp vs mi t c elt) (ti.bind fun xs => TM.compL p g xs) (List.map e) := re_bind hi fun xs env ds hk o ds' q => by
  obtain ⟨env1, h1, h2⟩ := wipeK_ok hk hw
  unfold TM.compL at q
  by_cases hl : xs.length ≤ 16777216
  · rw [if_pos hl] at q
    obtain ⟨ys, rfl, k2⟩ := compGo_re h2 ht hc he xs [] ds o ds' (by rw [List.length_nil]; omega) q
    rw [h1]
    dsimp only
    rw [k2]
    rfl
  · rw [if_neg hl] at q
    cases q
theorem re_V {m : ME β} {t : TM α} {e : α → β} {x : α} (h : RE ks m (TM.pure x) e) : RV ks m (e x) := fun env ds hk => h env ds hk _ _ rfl
theorem c_compI {vs : List Nat} {mi : ME (List PyData)} {t : Tg} {c : ME Bool} {elt : ME PyData} {ks1 : List Kn} {ks2 : α → List Kn} {ea : α → PyData} {xs : List α} {p : α → TM Bool} {g : α → TM γ} {e : γ → PyData} (hi : RV ks mi (xs.map ea)) (hw : wipeK ks vs = some ks1) (ht : ∀ x, TgK t (ea x) ks1 (ks2 x)) (hc : ∀ x, RE (ks2 x) c (p x) id) (he : ∀ x, RE (ks2 x) elt (g x) e) :
    RE ks (mComp vs mi t c elt) (TM.compL p g xs) (List.map e) := c_comp (ti := TM.pure xs) (RV.re hi) hw ht hc he
theorem compV_L {p : α → Bool} {g : α → γ} {xs : List α} : TM.compV p g xs = TM.compL (fun x => TM.pure (p x)) (fun x => TM.pure (g x)) xs := by
  unfold TM.compV TM.compL
  split
  · exact (TM.compM_pure (fun _ _ => rfl) fun _ _ _ => rfl).symm
  · rfl
theorem c_compV {vs : List Nat} {mi : ME (List PyData)} {t : Tg} {c : ME Bool} {elt : ME PyData} {ks1 : List Kn} {ks2 : α → List Kn} {ea : α → PyData} {ti : TM (List α)} {p : α → Bool} {g : α → γ} {e : γ → PyData} (hi : RE ks mi ti (List.map ea)) (hw : wipeK ks vs = some ks1) (ht : ∀ x, TgK t (ea x) ks1 (ks2 x)) (hc : ∀ x, RV (ks2 x) c (p x)) (he : ∀ x, RV (ks2 x) elt (e (g x))) :
    RE ks (mComp vs mi t c elt) (ti.bind fun xs => TM.compV p g xs) (List.map e) := by
  have : (fun xs => TM.compV p g xs) = fun xs => TM.compL (fun x => TM.pure (p x)) (fun x => TM.pure (g x)) xs := funext fun _ => compV_L
  rw [this]
  exact c_comp hi hw ht (fun x => RV.re (hc x)) fun x => RV.re (he x)
theorem c_compVI {vs : List Nat} {mi : ME (List PyData)} {t : Tg} {c : ME Bool} {elt : ME PyData} {ks1 : List Kn} {ks2 : α → List Kn} {ea : α → PyData} {xs : List α} {p : α → Bool} {g : α → γ} {e : γ → PyData} (hi : RV ks mi (xs.map ea)) (hw : wipeK ks vs = some ks1) (ht : ∀ x, TgK t (ea x) ks1 (ks2 x)) (hc : ∀ x, RV (ks2 x) c (p x)) (he : ∀ x, RV (ks2 x) elt (e (g x))) :
    RE ks (mComp vs mi t c elt) (TM.compV p g xs) (List.map e) := c_compV (ti := TM.pure xs) (RV.re hi) hw ht hc he
end
end DL

/-! DT3: the typed layer: statements, functions. -/
namespace DL
open PySem PySem.Spec L2
open PyProof.Rows hiding St

/-- the meaning of a statement does what t computes; P: how the end shows it -/
def GoP {ρ : Type} (P : ρ → Fl → Prop) (x : Option (Fl × DS)) (ds' : DS) : Out ρ → Prop
  | .ok r => ∃ fl, x = some (fl, ds') ∧ P r fl
  | .exc z => ∃ env', x = some (.ex z env', ds')
def RG {ρ : Type} (ks : List Kn) (m : MS) (t : TM ρ) (P : ρ → Fl → Prop) : Prop := ∀ env ds, KnR ks env → ∀ o ds', t ds = some (o, ds') → GoP P (m env ds) ds' o
/-- it goes on, and this is known of the slots -/
def PN {L : Type} (k : L → List Kn) : L → Fl → Prop := fun l fl => ∃ env', fl = .nx env' ∧ KnR (k l) env'
/-- it returns -/
def PR {R : Type} (e : R → PyData) : R → Fl → Prop := fun r fl => fl = .rt (e r) ∨ ∃ env', fl = .nx env' ∧ e r = .none
/-- it goes on or returns -/
def PB {L R : Type} (k : L → List Kn) (e : R → PyData) : L ⊕ R → Fl → Prop := fun o fl => match o with
  | .inl l => ∃ env', fl = .nx env' ∧ KnR (k l) env'
  | .inr r => fl = .rt (e r)
section
variable {α β γ δ ρ σ L R : Type} {ks : List Kn} {P : ρ → Fl → Prop} {m m' rest : MS} {t : TM ρ} {a b : ME PyData}
theorem goAt {x y : Option (Fl × DS)} {o : Out ρ} {ds' : DS} (e : x = y) (z : GoP P y ds' o) : GoP P x ds' o := by
  subst e
  exact z
theorem RG.cg (h : RG ks m t P) (q : ∀ env ds, m' env ds = m env ds) : RG ks m' t P := fun env ds hk o ds' z => by
  rw [q]
  exact h env ds hk o ds' z
theorem seq_end (m : MS) (env : Ev) (ds : DS) : m env ds = mSeq m mSkip env ds := by
  unfold mSeq
  rcases m env ds with _ | ⟨_ | _ | _ | _ | _, _⟩ <;> rfl
theorem s_end (h : RG ks (mSeq m mSkip) t P) : RG ks m t P := h.cg fun env ds => seq_end m env ds
theorem s_assoc {a b c : MS} (h : RG ks (mSeq a (mSeq b c)) t P) : RG ks (mSeq (mSeq a b) c) t P := h.cg fun env ds => by
  unfold mSeq
  rcases a env ds with _ | ⟨_ | _ | _ | _ | _, _⟩ <;> rfl
theorem s_skipS (h : RG ks rest t P) : RG ks (mSeq mSkip rest) t P := h
theorem s_seq {L : Type} {k : L → List Kn} {ta : TM L} {tb : L → TM ρ} (h : RG ks m ta (PN k)) (h' : ∀ l, RG (k l) rest (tb l) P) : RG ks (mSeq m rest) (ta.bind tb) P := fun env ds hk o ds' q => by
  change (ta ds).bind tb = some (o, ds') at q
  rcases ht : ta ds with _ | ⟨l | x, ds1⟩
  · rw [ht] at q; cases q
  · rw [ht] at q
    obtain ⟨fl, h1, env1, rfl, h2⟩ := h env ds hk _ _ ht
    have z := h' l env1 ds1 h2 o ds' q
    have e : mSeq m rest env ds = rest env1 ds1 := mSeq_nx h1
    exact goAt e z
  · rw [ht] at q
    cases q
    obtain ⟨env1, h1⟩ := h env ds hk _ _ ht
    exact ⟨env1, mSeq_ex h1⟩
/-- behind a block that goes on or returns -/
theorem s_seqB {k : L → List Kn} {e : R → PyData} {ta : TM (L ⊕ R)} {tb : L → TM ρ} {g : R → ρ} (h : RG ks m ta (PB k e)) (h' : ∀ l, RG (k l) rest (tb l) P) (hp : ∀ r, P (g r) (.rt (e r))) : RG ks (mSeq m rest) (ta.bindB tb g) P := fun env ds hk o ds' q => by
  change (ta ds).bind _ = some (o, ds') at q
  rcases ht : ta ds with _ | ⟨(l | r) | x, ds1⟩
  · rw [ht] at q; cases q
  · rw [ht] at q
    obtain ⟨fl, h1, env1, rfl, h2⟩ := h env ds hk _ _ ht
    have z := h' l env1 ds1 h2 o ds' q
    have e : mSeq m rest env ds = rest env1 ds1 := mSeq_nx h1
    exact goAt e z
  · rw [ht] at q
    obtain ⟨fl, h1, rfl⟩ := h env ds hk _ _ ht
    cases q
    exact ⟨_, mSeq_rt h1, hp r⟩
  · rw [ht] at q
    cases q
    obtain ⟨env1, h1⟩ := h env ds hk _ _ ht
    exact ⟨env1, mSeq_ex h1⟩
theorem s_let {x : δ} {t : δ → TM ρ} (h : RG ks m (t x) P) : RG ks m (TM.tlet x t) P := h
/-! ends -/
theorem s_skip {k : L → List Kn} {l : L} (h : LeK ks (k l)) : RG ks mSkip (TM.pure l) (PN k) := fun env ds hk o ds' q => by
  cases q
  exact ⟨_, rfl, env, rfl, h.ok hk⟩
theorem s_skipB {k : L → List Kn} {e : R → PyData} {l : L} (h : LeK ks (k l)) : RG ks mSkip (TM.pure (.inl l : L ⊕ R)) (PB k e) := fun env ds hk o ds' q => by
  cases q
  exact ⟨_, rfl, env, rfl, h.ok hk⟩
theorem s_skipR {e : R → PyData} {r : R} (h : e r = .none := by rfl) : RG ks mSkip (TM.pure r) (PR e) := fun env ds hk o ds' q => by
  cases q
  exact ⟨_, rfl, .inr ⟨env, rfl, h⟩⟩
/-! an expression ahead -/
theorem s_exV {m : ME β} {f : β → MS} {y : β} (h : RV ks m y) (hf : RG ks (mSeq (f y) rest) t P) : RG ks (mSeq (exS m f) rest) t P := fun env ds hk o ds' q => by
  have z := hf env ds hk o ds' q
  have e : mSeq (exS m f) rest env ds = mSeq (f y) rest env ds := by
    unfold mSeq exS
    rw [h env ds hk]
  exact goAt e z
theorem s_exC {m : ME β} {f : β → MS} {ta : TM α} {ea : α → β} {tr : α → TM ρ} (h : RE ks m ta ea) (hf : ∀ x, RG ks (mSeq (f (ea x)) rest) (tr x) P) : RG ks (mSeq (exS m f) rest) (ta.bind tr) P := fun env ds hk o ds' q => by
  change (ta ds).bind tr = some (o, ds') at q
  rcases ht : ta ds with _ | ⟨x | x, ds1⟩
  · rw [ht] at q; cases q
  · rw [ht] at q
    have z := hf x env ds1 hk o ds' q
    have e : mSeq (exS m f) rest env ds = mSeq (f (ea x)) rest env ds1 := by
      unfold mSeq exS
      rw [h env ds hk _ _ ht]
      rfl
    exact goAt e z
  · rw [ht] at q
    cases q
    refine ⟨env, mSeq_ex ?_⟩
    unfold exS
    rw [h env ds hk _ _ ht]
    rfl
theorem s_put {i : Nat} {x : Sl} (hs : setOk ks i = true) (h : RG (kset ks i (.v x)) rest t P) : RG ks (mSeq (fun env ds => match put i x env with | some env' => some (.nx env', ds) | none => none) rest) t P := fun env ds hk o ds' q => by
  obtain ⟨env', h1, h2⟩ := hk.put (x := x) hs
  have z := h env' ds h2 o ds' q
  have e : mSeq (fun env ds => match put i x env with | some env' => some (.nx env', ds) | none => none) rest env ds = rest env' ds := mSeq_nx (by rw [h1])
  exact goAt e z
theorem s_setV {i : Nat} {y : PyData} (h : RV ks a y) (hs : setOk ks i = true) (hr : RG (kset ks i (.v (.d y))) rest t P) : RG ks (mSeq (mSet i a) rest) t P := s_exV h (s_put hs hr)
theorem s_setC {i : Nat} {ta : TM α} {ea : α → PyData} {tr : α → TM ρ} (h : RE ks a ta ea) (hs : setOk ks i = true) (hr : ∀ x, RG (kset ks i (.v (.d (ea x)))) rest (tr x) P) : RG ks (mSeq (mSet i a) rest) (ta.bind tr) P := s_exC h fun x => s_put hs (hr x)
theorem s_setLV {i : Nat} {m : ME (List PyData)} {y : List PyData} (h : RV ks m y) (hs : setOk ks i = true) (hr : RG (kset ks i (.v (.l y))) rest t P) : RG ks (mSeq (mSetL i m) rest) t P := s_exV h (s_put hs hr)
theorem s_setLC {i : Nat} {m : ME (List PyData)} {ta : TM α} {ea : α → List PyData} {tr : α → TM ρ} (h : RE ks m ta ea) (hs : setOk ks i = true) (hr : ∀ x, RG (kset ks i (.v (.l (ea x)))) rest (tr x) P) : RG ks (mSeq (mSetL i m) rest) (ta.bind tr) P := s_exC h fun x => s_put hs (hr x)
theorem s_putS {i j : Nat} {x y : Sl} (hs : setOk ks i = true) (hs' : setOk (kset ks i (.v x)) j = true) (h : RG (kset (kset ks i (.v x)) j (.v y)) rest t P) : RG ks (mSeq (putS i j x y) rest) t P := fun env ds hk o ds' q => by
  obtain ⟨env1, h1, h2⟩ := hk.put (x := x) hs
  obtain ⟨env2, h3, h4⟩ := h2.put (x := y) hs'
  have z := h env2 ds h4 o ds' q
  have e : mSeq (putS i j x y) rest env ds = rest env2 ds := mSeq_nx (by
    unfold putS
    rw [h1]
    show (match DL.put j y env1 with | some env' => _ | none => _) = _
    rw [h3])
  exact goAt e z
theorem s_asgV {tg : Tg} {d : PyData} {k1 : List Kn} (h : RV ks a d) (ht : TgK tg d ks k1) (hr : RG k1 rest t P) : RG ks (mSeq (mAsg tg a) rest) t P := s_exV h fun env ds hk o ds' q => by
  obtain ⟨env', h1, h2⟩ := ht env hk
  have z := hr env' ds h2 o ds' q
  have e : mSeq (fun env ds => match tg d env with | some env' => some (.nx env', ds) | none => none) rest env ds = rest env' ds := mSeq_nx (by rw [h1])
  exact goAt e z
theorem s_asgC {tg : Tg} {ta : TM α} {ea : α → PyData} {k1 : α → List Kn} {tr : α → TM ρ} (h : RE ks a ta ea) (ht : ∀ x, TgK tg (ea x) ks (k1 x)) (hr : ∀ x, RG (k1 x) rest (tr x) P) : RG ks (mSeq (mAsg tg a) rest) (ta.bind tr) P := s_exC h fun x env ds hk o ds' q => by
  obtain ⟨env', h1, h2⟩ := ht x env hk
  have z := hr x env' ds h2 o ds' q
  have e : mSeq (fun env ds => match tg (ea x) env with | some env' => some (.nx env', ds) | none => none) rest env ds = rest env' ds := mSeq_nx (by rw [h1])
  exact goAt e z
theorem s_dropV {y : PyData} (h : RV ks a y) (hr : RG ks rest t P) : RG ks (mSeq (mDrop a) rest) t P := s_exV h hr
theorem s_dropC {ta : TM α} {ea : α → PyData} {tr : α → TM ρ} (h : RE ks a ta ea) (hr : ∀ x, RG ks rest (tr x) P) : RG ks (mSeq (mDrop a) rest) (ta.bind tr) P := s_exC h hr
/-! returns -/
theorem s_retV {d : PyData} {r : ρ} (h : RV ks a d) (hp : P r (.rt d)) : RG ks (mSeq (mRet a) rest) (TM.pure r) P := fun env ds hk o ds' q => by
  cases q
  refine ⟨_, mSeq_rt (d := d) ?_, hp⟩
  unfold mRet exS
  rw [h env ds hk]
theorem s_retC {ta : TM α} {ea : α → PyData} {g : α → ρ} (h : RE ks a ta ea) (hp : ∀ x, P (g x) (.rt (ea x))) : RG ks (mSeq (mRet a) rest) (ta.bind fun x => TM.pure (g x)) P := fun env ds hk o ds' q => by
  change (ta ds).bind _ = some (o, ds') at q
  rcases ht : ta ds with _ | ⟨x | x, ds1⟩
  · rw [ht] at q; cases q
  · rw [ht] at q
    cases q
    refine ⟨_, mSeq_rt (d := ea x) ?_, hp x⟩
    unfold mRet exS
    rw [h env ds hk _ _ ht]
    rfl
  · rw [ht] at q
    cases q
    refine ⟨env, mSeq_ex ?_⟩
    unfold mRet exS
    rw [h env ds hk _ _ ht]
    rfl
theorem s_retR {ta : TM α} {ea : α → PyData} (h : RE ks a ta ea) : RG ks (mSeq (mRet a) rest) ta (PR ea) := by
  have q := s_retC (P := PR ea) (g := fun x => x) (rest := rest) h fun x => .inl rfl
  rw [show (ta.bind fun x => TM.pure x) = ta from TM.bind_pure ta] at q
  exact q
theorem s_retN {r : ρ} (hp : P r (.rt .none)) : RG ks (mSeq mRetN rest) (TM.pure r) P := fun env ds hk o ds' q => by
  cases q
  exact ⟨_, mSeq_rt (d := .none) rfl, hp⟩
theorem s_retL {i : Nat} {xs : List PyData} {r : ρ} (h : kn ks i = some (.v (.l xs))) (hp : P r (.rt (.list xs))) : RG ks (mSeq (mRetL i) rest) (TM.pure r) P := fun env ds hk o ds' q => by
  cases q
  refine ⟨_, mSeq_rt (d := .list xs) ?_, hp⟩
  unfold mRetL
  rw [hk.at h]
theorem s_raise {x : Exn} : RG ks (mSeq (mRaise x) rest) (TM.raise x : TM ρ) P := fun env ds hk o ds' q => by
  cases q
  exact ⟨env, mSeq_ex rfl⟩
/-! branches -/
theorem s_ifV {c : ME Bool} {A B : MS} {k : Bool} {ta tb : TM ρ} (h : RV ks c k) (h1 : RG ks (mSeq A rest) ta P) (h2 : RG ks (mSeq B rest) tb P) : RG ks (mSeq (mIfS c A B) rest) (if k then ta else tb) P := s_exV h (by
  cases k
  · exact h2
  · exact h1)
theorem s_ifC {c : ME Bool} {A B : MS} {tk : TM Bool} {ta tb : TM ρ} (h : RE ks c tk id) (h1 : RG ks (mSeq A rest) ta P) (h2 : RG ks (mSeq B rest) tb P) : RG ks (mSeq (mIfS c A B) rest) (tk.bind fun k => if k then ta else tb) P := s_exC h fun k => by
  cases k
  · exact h2
  · exact h1
/-! own lists -/
@[irreducible] def appT (xs : List α) (x : α) : Option (List α) := if xs.length < 16777216 then some (xs ++ [x]) else none
theorem s_onL {i : Nat} {xs : List PyData} {f : List PyData → MS} (hi : kn ks i = some (.v (.l xs))) (h : RG ks (mSeq (f xs) rest) t P) : RG ks (mSeq (onL i f) rest) t P := fun env ds hk o ds' q => by
  have z := h env ds hk o ds' q
  have e : mSeq (onL i f) rest env ds = mSeq (f xs) rest env ds := by
    unfold mSeq onL
    rw [hk.at hi]
  exact goAt e z
theorem s_appF {i : Nat} {xs : List α} {x : α} {e : α → PyData} {y : PyData} (he : e x = y) {tr : List α → TM ρ} (h : ∀ ys, RG (kset ks i (.v (.l (ys.map e)))) rest (tr ys) P) : RG ks (mSeq (fun env ds => if decide ((xs.map e).length < sizeLine) then some (.nx (env.set i (.l (xs.map e ++ [y]))), ds) else none) rest) ((TM.lift (appT xs x)).bind tr) P := fun env ds hk o ds' q => by
  unfold appT at q
  by_cases hl : xs.length < 16777216
  · rw [if_pos hl] at q
    have z := h _ (env.set i (.l ((xs ++ [x]).map e))) ds (hk.set i _) o ds' q
    have e' : mSeq (fun env ds => if decide ((xs.map e).length < sizeLine) then some (.nx (env.set i (.l (xs.map e ++ [y]))), ds) else none) rest env ds = rest (env.set i (.l ((xs ++ [x]).map e))) ds := mSeq_nx (by
      rw [lt_line (by rw [List.length_map]; exact hl), if_pos rfl, List.map_append, List.map_singleton, he])
    exact goAt e' z
  · rw [if_neg hl] at q
    cases q
theorem s_appV {i : Nat} {xs : List α} {x : α} {e : α → PyData} {y : PyData} {tr : List α → TM ρ} (hi : kn ks i = some (.v (.l (xs.map e)))) (h : RV ks a y) (he : e x = y := by rfl) (hr : ∀ ys, RG (kset ks i (.v (.l (ys.map e)))) rest (tr ys) P) : RG ks (mSeq (mApp i a) rest) ((TM.lift (appT xs x)).bind tr) P := s_onL hi (s_exV h (s_appF he hr))
theorem s_appC {i : Nat} {xs : List α} {ta : TM α} {e : α → PyData} {tr : List α → TM ρ} (hi : kn ks i = some (.v (.l (xs.map e)))) (h : RE ks a ta e) (hr : ∀ ys, RG (kset ks i (.v (.l (ys.map e)))) rest (tr ys) P) : RG ks (mSeq (mApp i a) rest) (ta.bind fun x => (TM.lift (appT xs x)).bind tr) P := s_onL hi (s_exC h fun x => s_appF rfl hr)
@[irreducible] def extT (xs ys : List α) : Option (List α) := if xs.length + ys.length ≤ 16777216 then some (xs ++ ys) else none
theorem s_extF {i : Nat} {xs ys : List α} {e : α → PyData} {y : PyData} (he : PyData.list (ys.map e) = y) {tr : List α → TM ρ} (h : ∀ ys, RG (kset ks i (.v (.l (ys.map e)))) rest (tr ys) P) : RG ks (mSeq (fun env ds => match y with
  | .list zs => if short ((xs.map e).length + zs.length) then some (.nx (env.set i (.l (xs.map e ++ zs))), ds) else none
  | _ => none) rest) ((TM.lift (extT xs ys)).bind tr) P := fun env ds hk o ds' q => by
  subst he
  unfold extT at q
  by_cases hl : xs.length + ys.length ≤ 16777216
  · rw [if_pos hl] at q
    have z := h _ (env.set i (.l ((xs ++ ys).map e))) ds (hk.set i _) o ds' q
    have e' : mSeq (fun env ds => match PyData.list (ys.map e) with
      | .list zs => if short ((xs.map e).length + zs.length) then some (.nx (env.set i (.l (xs.map e ++ zs))), ds) else none
      | _ => none) rest env ds = rest (env.set i (.l ((xs ++ ys).map e))) ds := mSeq_nx (by
      dsimp only
      rw [short_of (by rw [List.length_map, List.length_map]; exact hl), if_pos rfl, List.map_append])
    exact goAt e' z
  · rw [if_neg hl] at q
    cases q
theorem s_extV {i : Nat} {xs ys : List α} {e : α → PyData} {y : PyData} {tr : List α → TM ρ} (hi : kn ks i = some (.v (.l (xs.map e)))) (h : RV ks a y) (he : PyData.list (ys.map e) = y := by rfl) (hr : ∀ ys, RG (kset ks i (.v (.l (ys.map e)))) rest (tr ys) P) : RG ks (mSeq (mExt i a) rest) ((TM.lift (extT xs ys)).bind tr) P := s_onL hi (s_exV h (s_extF he hr))
theorem s_extC {i : Nat} {xs : List α} {ta : TM (List α)} {e : α → PyData} {tr : List α → TM ρ} (hi : kn ks i = some (.v (.l (xs.map e)))) (h : RE ks a ta fun ys => .list (ys.map e)) (hr : ∀ ys, RG (kset ks i (.v (.l (ys.map e)))) rest (tr ys) P) : RG ks (mSeq (mExt i a) rest) (ta.bind fun ys => (TM.lift (extT xs ys)).bind tr) P := s_onL hi (s_exC h fun ys => s_extF rfl hr)
@[irreducible] def putT (xs : List α) (k : Int) (x : α) : Option (List α) := (ixN xs.length k).map fun j => xs.set j x
theorem s_mputV {i : Nat} {ix : ME PyData} {xs : List α} {x : α} {k : Int} {e : α → PyData} {y : PyData} {tr : List α → TM ρ} (hi : kn ks i = some (.v (.l (xs.map e)))) (h : RV ks a y) (hx : RV ks ix (.int k)) (he : e x = y := by rfl) (hr : ∀ ys, RG (kset ks i (.v (.l (ys.map e)))) rest (tr ys) P) : RG ks (mSeq (mPut i ix a) rest) ((TM.lift (putT xs k x)).bind tr) P := s_onL hi (s_exV h (s_exV hx fun env ds hk o ds' q => by
  subst he
  unfold putT at q
  cases hn : ixN xs.length k with
  | none => rw [hn] at q; cases q
  | some j =>
    rw [hn] at q
    have z := hr _ (env.set i (.l ((xs.set j x).map e))) ds (hk.set i _) o ds' q
    refine goAt (?_ : mSeq _ rest env ds = rest (env.set i (.l ((xs.set j x).map e))) ds) z
    refine mSeq_nx ?_
    dsimp only
    rw [List.length_map, hn, List.map_set]))
@[irreducible] def popT (xs : List α) (k : Int) : Option (α × List α) := if 0 ≤ k ∧ k < 2 ^ 62 then (xs[k.toNat]?).map fun y => (y, xs.eraseIdx k.toNat) else none
theorem er_map {α β : Type} (f : α → β) : ∀ (l : List α) (k : Nat), (l.map f).eraseIdx k = (l.eraseIdx k).map f
  | [], _ => rfl
  | _ :: _, 0 => rfl
  | x :: r, k + 1 => congrArg (f x :: ·) (er_map f r k)
theorem s_appPop {i j : Nat} {ix : ME PyData} {xs ys : List α} {e : α → PyData} {tk : TM Int} {tr : List α → List α → TM ρ} (hi : kn ks i = some (.v (.l (xs.map e)))) (hj : kn ks j = some (.v (.l (ys.map e)))) (hx : RE ks ix tk PyData.int) (hij : i ≠ j) (hr : ∀ xs ys, RG (kset (kset ks j (.v (.l (ys.map e)))) i (.v (.l (xs.map e)))) rest (tr xs ys) P) : RG ks (mSeq (mAppPop i j ix) rest) (tk.bind fun k => (TM.lift (popT ys k)).bind fun p => (TM.lift (appT xs p.1)).bind fun xs => tr xs p.2) P := s_onL hi (s_onL hj (s_exC hx fun k env ds hk o ds' q => by
  unfold popT appT at q
  by_cases h0 : 0 ≤ k ∧ k < 2 ^ 62
  · rw [if_pos h0] at q
    cases hy : ys[k.toNat]? with
    | none => rw [hy] at q; cases q
    | some y =>
      rw [hy] at q
      change ((TM.lift (if xs.length < 16777216 then some (xs ++ [y]) else none)).bind fun xs => tr xs (ys.eraseIdx k.toNat)) ds = _ at q
      by_cases hl : xs.length < 16777216
      · rw [if_pos hl] at q
        have z := hr (xs ++ [y]) (ys.eraseIdx k.toNat) ((env.set j (.l ((ys.eraseIdx k.toNat).map e))).set i (.l ((xs ++ [y]).map e))) ds ((hk.set j _).set i _) o ds' q
        refine goAt (?_ : mSeq _ rest env ds = rest ((env.set j (.l ((ys.eraseIdx k.toNat).map e))).set i (.l ((xs ++ [y]).map e))) ds) z
        refine mSeq_nx ?_
        dsimp only
        rw [if_pos (by
          rw [Bool.and_eq_true, Bool.and_eq_true]
          exact ⟨⟨decide_eq_true h0, decide_eq_true hij⟩, lt_line (by rw [List.length_map]; exact hl)⟩), List.getElem?_map, hy]
        dsimp only [Option.map]
        rw [er_map, List.map_append]
        rfl
      · rw [if_neg hl] at q; cases q
  · rw [if_neg h0] at q; cases q))
/-! loops -/
theorem forGo_T {tg : Tg} {body : MS} {ea : α → PyData} {k : L → List Kn} {k1 : L → α → List Kn} {f : L → α → TM L} (ht : ∀ l x, TgK tg (ea x) (k l) (k1 l x)) (hb : ∀ l x, RG (k1 l x) body (f l x) (PN k)) : ∀ (xs : List α) (l : L), RG (k l) (fun env ds => forGo tg body (xs.map ea) env ds) (TM.forT f xs l) (PN k)
  | [], l => fun env ds hk o ds' q => by
    cases q
    exact ⟨_, rfl, env, rfl, hk⟩
  | x :: r, l => fun env ds hk o ds' q => by
    obtain ⟨env1, h1, h2⟩ := ht l x env hk
    change (f l x ds).bind _ = some (o, ds') at q
    rw [List.map_cons]
    unfold forGo
    dsimp only
    rw [h1]
    dsimp only
    rcases hf : f l x ds with _ | ⟨l1 | x, ds1⟩
    · rw [hf] at q; cases q
    · rw [hf] at q
      obtain ⟨fl, h3, env2, rfl, h4⟩ := hb l x env1 ds h2 _ _ hf
      rw [h3]
      exact forGo_T ht hb r l1 env2 ds1 h4 o ds' q
    · rw [hf] at q
      cases q
      obtain ⟨env2, h3⟩ := hb l _ env1 ds h2 _ _ hf
      rw [h3]
      exact ⟨env2, rfl⟩
theorem s_forI {mi : ME (List PyData)} {tg : Tg} {body : MS} {ea : α → PyData} {xs : List α} {k : L → List Kn} {k1 : L → α → List Kn} {f : L → α → TM L} {l0 : L} {tr : L → TM ρ} (hi : RV ks mi (xs.map ea)) (h0 : LeK ks (k l0)) (ht : ∀ l x, TgK tg (ea x) (k l) (k1 l x)) (hb : ∀ l x, RG (k1 l x) body (f l x) (PN k)) (hr : ∀ l, RG (k l) rest (tr l) P) : RG ks (mSeq (mFor mi tg body) rest) ((TM.forT f xs l0).bind tr) P := s_exV hi (s_seq (fun env ds hk => forGo_T ht hb xs l0 env ds (h0.ok hk)) hr)
theorem s_for {mi : ME (List PyData)} {tg : Tg} {body : MS} {ea : α → PyData} {ti : TM (List α)} {k : L → List Kn} {k1 : L → α → List Kn} {f : L → α → TM L} {l0 : L} {tr : L → TM ρ} (hi : RE ks mi ti (List.map ea)) (h0 : LeK ks (k l0)) (ht : ∀ l x, TgK tg (ea x) (k l) (k1 l x)) (hb : ∀ l x, RG (k1 l x) body (f l x) (PN k)) (hr : ∀ l, RG (k l) rest (tr l) P) : RG ks (mSeq (mFor mi tg body) rest) (ti.bind fun xs => (TM.forT f xs l0).bind tr) P := s_exC hi fun xs => s_seq (fun env ds hk => forGo_T ht hb xs l0 env ds (h0.ok hk)) hr
theorem forGo_B {tg : Tg} {body : MS} {ea : α → PyData} {k : L → List Kn} {k1 : L → α → List Kn} {e : R → PyData} {f : L → α → TM (L ⊕ R)} (ht : ∀ l x, TgK tg (ea x) (k l) (k1 l x)) (hb : ∀ l x, RG (k1 l x) body (f l x) (PB k e)) : ∀ (xs : List α) (l : L), RG (k l) (fun env ds => forGo tg body (xs.map ea) env ds) (TM.forB f xs l) (PB k e)
  | [], l => fun env ds hk o ds' q => by
    cases q
    exact ⟨_, rfl, env, rfl, hk⟩
  | x :: r, l => fun env ds hk o ds' q => by
    obtain ⟨env1, h1, h2⟩ := ht l x env hk
    change (f l x ds).bind _ = some (o, ds') at q
    rw [List.map_cons]
    unfold forGo
    dsimp only
    rw [h1]
    dsimp only
    rcases hf : f l x ds with _ | ⟨(l1 | y) | x, ds1⟩
    · rw [hf] at q; cases q
    · rw [hf] at q
      obtain ⟨fl, h3, env2, rfl, h4⟩ := hb l x env1 ds h2 _ _ hf
      rw [h3]
      exact forGo_B ht hb r l1 env2 ds1 h4 o ds' q
    · rw [hf] at q
      obtain ⟨fl, h3, rfl⟩ := hb l x env1 ds h2 _ _ hf
      rw [h3]
      cases q
      exact ⟨_, rfl, rfl⟩
    · rw [hf] at q
      cases q
      obtain ⟨env2, h3⟩ := hb l _ env1 ds h2 _ _ hf
      rw [h3]
      exact ⟨env2, rfl⟩
theorem s_forBI {mi : ME (List PyData)} {tg : Tg} {body : MS} {ea : α → PyData} {xs : List α} {k : L → List Kn} {k1 : L → α → List Kn} {e : R → PyData} {f : L → α → TM (L ⊕ R)} {l0 : L} {tr : L → TM ρ} {g : R → ρ} (hi : RV ks mi (xs.map ea)) (h0 : LeK ks (k l0)) (ht : ∀ l x, TgK tg (ea x) (k l) (k1 l x)) (hb : ∀ l x, RG (k1 l x) body (f l x) (PB k e)) (hr : ∀ l, RG (k l) rest (tr l) P) (hp : ∀ r, P (g r) (.rt (e r))) : RG ks (mSeq (mFor mi tg body) rest) ((TM.forB f xs l0).bindB tr g) P := s_exV hi (s_seqB (fun env ds hk => forGo_B ht hb xs l0 env ds (h0.ok hk)) hr hp)
theorem s_forB {mi : ME (List PyData)} {tg : Tg} {body : MS} {ea : α → PyData} {ti : TM (List α)} {k : L → List Kn} {k1 : L → α → List Kn} {e : R → PyData} {f : L → α → TM (L ⊕ R)} {l0 : L} {tr : L → TM ρ} {g : R → ρ} (hi : RE ks mi ti (List.map ea)) (h0 : LeK ks (k l0)) (ht : ∀ l x, TgK tg (ea x) (k l) (k1 l x)) (hb : ∀ l x, RG (k1 l x) body (f l x) (PB k e)) (hr : ∀ l, RG (k l) rest (tr l) P) (hp : ∀ r, P (g r) (.rt (e r))) : RG ks (mSeq (mFor mi tg body) rest) (ti.bind fun xs => (TM.forB f xs l0).bindB tr g) P := s_exC hi fun xs => s_seqB (fun env ds hk => forGo_B ht hb xs l0 env ds (h0.ok hk)) hr hp
theorem while_T {c : ME Bool} {body : MS} {k : L → List Kn} {tc : L → TM Bool} {f : L → TM L} (hc : ∀ l, RE (k l) c (tc l) id) (hb : ∀ l, RG (k l) body (f l) (PN k)) : ∀ (n : Nat) (l : L), RG (k l) (whileGo c body n) (TM.whileT tc f n l) (PN k)
  | 0, l => fun env ds hk o ds' q => by cases q
  | n + 1, l => fun env ds hk o ds' q => by
    change (tc l ds).bind _ = some (o, ds') at q
    unfold whileGo
    rcases h : tc l ds with _ | ⟨z | x, ds1⟩
    · rw [h] at q; cases q
    · rw [h] at q
      rw [hc l env ds hk _ _ h]
      rw [rb_ok] at q
      cases z with
      | false =>
        rw [if_neg Bool.false_ne_true] at q
        cases q
        exact ⟨_, rfl, env, rfl, hk⟩
      | true =>
        rw [if_pos rfl] at q
        change (f l ds1).bind _ = some (o, ds') at q
        dsimp only [Out.map, id]
        rcases hf : f l ds1 with _ | ⟨l1 | x, ds2⟩
        · rw [hf] at q; cases q
        · rw [hf] at q
          obtain ⟨fl, h3, env2, rfl, h4⟩ := hb l env ds1 hk _ _ hf
          rw [h3]
          exact while_T hc hb n l1 env2 ds2 h4 o ds' q
        · rw [hf] at q
          cases q
          obtain ⟨env2, h3⟩ := hb l env ds1 hk _ _ hf
          rw [h3]
          exact ⟨env2, rfl⟩
    · rw [h] at q
      cases q
      rw [hc l env ds hk _ _ h]
      exact ⟨env, rfl⟩
theorem s_while {c : ME Bool} {body : MS} {n : Nat} {k : L → List Kn} {tc : L → TM Bool} {f : L → TM L} {l0 : L} {tr : L → TM ρ} (h0 : LeK ks (k l0)) (hc : ∀ l, RE (k l) c (tc l) id) (hb : ∀ l, RG (k l) body (f l) (PN k)) (hr : ∀ l, RG (k l) rest (tr l) P) : RG ks (mSeq (whileGo c body n) rest) ((TM.whileT tc f n l0).bind tr) P := s_seq (fun env ds hk => while_T hc hb n l0 env ds (h0.ok hk)) hr
theorem while_B {c : ME Bool} {body : MS} {k : L → List Kn} {e : R → PyData} {tc : L → TM Bool} {f : L → TM (L ⊕ R)} (hc : ∀ l, RE (k l) c (tc l) id) (hb : ∀ l, RG (k l) body (f l) (PB k e)) : ∀ (n : Nat) (l : L), RG (k l) (whileGo c body n) (TM.whileB tc f n l) (PB k e)
  | 0, l => fun env ds hk o ds' q => by cases q
  | n + 1, l => fun env ds hk o ds' q => by
    change (tc l ds).bind _ = some (o, ds') at q
    unfold whileGo
    rcases h : tc l ds with _ | ⟨z | x, ds1⟩
    · rw [h] at q; cases q
    · rw [h] at q
      rw [hc l env ds hk _ _ h]
      rw [rb_ok] at q
      cases z with
      | false =>
        rw [if_neg Bool.false_ne_true] at q
        cases q
        exact ⟨_, rfl, env, rfl, hk⟩
      | true =>
        rw [if_pos rfl] at q
        change (f l ds1).bind _ = some (o, ds') at q
        dsimp only [Out.map, id]
        rcases hf : f l ds1 with _ | ⟨(l1 | y) | x, ds2⟩
        · rw [hf] at q; cases q
        · rw [hf] at q
          obtain ⟨fl, h3, env2, rfl, h4⟩ := hb l env ds1 hk _ _ hf
          rw [h3]
          exact while_B hc hb n l1 env2 ds2 h4 o ds' q
        · rw [hf] at q
          obtain ⟨fl, h3, rfl⟩ := hb l env ds1 hk _ _ hf
          rw [h3]
          cases q
          exact ⟨_, rfl, rfl⟩
        · rw [hf] at q
          cases q
          obtain ⟨env2, h3⟩ := hb l env ds1 hk _ _ hf
          rw [h3]
          exact ⟨env2, rfl⟩
    · rw [h] at q
      cases q
      rw [hc l env ds hk _ _ h]
      exact ⟨env, rfl⟩
theorem s_whileB {c : ME Bool} {body : MS} {n : Nat} {k : L → List Kn} {e : R → PyData} {tc : L → TM Bool} {f : L → TM (L ⊕ R)} {l0 : L} {tr : L → TM ρ} {g : R → ρ} (h0 : LeK ks (k l0)) (hc : ∀ l, RE (k l) c (tc l) id) (hb : ∀ l, RG (k l) body (f l) (PB k e)) (hr : ∀ l, RG (k l) rest (tr l) P) (hp : ∀ r, P (g r) (.rt (e r))) : RG ks (mSeq (whileGo c body n) rest) ((TM.whileB tc f n l0).bindB tr g) P := s_seqB (fun env ds hk => while_B hc hb n l0 env ds (h0.ok hk)) hr hp
/-! try: the handler needs nothing of the slots -/
theorem s_try {kx : Exn → Bool} {mb ms : MS} {d : PyData} {h : ρ} (hb : RG ks mb t P) (hh : ∀ env ds, ms env ds = some (.rt d, ds)) (hp : P h (.rt d)) (hn : ∀ r fl, P r fl → ∀ x env', fl ≠ .ex x env') : RG ks (mTry kx mb ms) (TM.tryT kx t (TM.pure h)) P := fun env ds hk o ds' q => by
  unfold TM.tryT at q
  unfold mTry
  rcases ht : t ds with _ | ⟨r | x, ds1⟩
  · rw [ht] at q; cases q
  · rw [ht] at q
    cases q
    obtain ⟨fl, h1, h2⟩ := hb env ds hk _ _ ht
    refine ⟨fl, ?_, h2⟩
    rw [h1]
    cases fl with
    | ex x env' => exact absurd rfl (hn _ _ h2 x env')
    | _ => rfl
  · rw [ht] at q
    obtain ⟨env1, h1⟩ := hb env ds hk _ _ ht
    rw [h1]
    dsimp only at q ⊢
    cases hx : kx x with
    | true =>
      rw [hx] at q
      cases q
      refine ⟨.rt d, ?_, hp⟩
      rw [if_pos rfl, hh]
      rfl
    | false =>
      rw [hx] at q
      cases q
      exact ⟨env1, rfl⟩
theorem PR.nx {e : R → PyData} : ∀ r fl, PR e r fl → ∀ x env', fl ≠ .ex x env' := fun r fl h x env' z => by
  subst z
  rcases h with h | ⟨_, h, _⟩ <;> cases h
/-! functions -/
theorem rf_run {nN np : Nat} {args : List Sl} {e : ρ → PyData} (h : RG ((args ++ List.replicate (nN - np) Sl.un).map Kn.v) m t (PR e)) : RF (runB nN np false m) args t e := fun ds o ds' q => by
  have z := h _ ds (KnR.self _) o ds' q
  unfold runB
  cases o with
  | ok r =>
    obtain ⟨fl, h1, h2⟩ := z
    rw [h1]
    rcases h2 with rfl | ⟨env', rfl, h3⟩
    · rfl
    · show (if false = true then none else some (Out.ok PyData.none, ds')) = some (Out.ok (e r), ds')
      rw [if_neg Bool.false_ne_true, h3]
  | exc x =>
    obtain ⟨env', h1⟩ := z
    rw [h1]
    rfl
end
end DL

/-! DT4: how plain values are data; the facts of the operators. -/
namespace DL
open PySem PySem.Spec L2
open PyProof.Rows hiding St

section
variable {α β γ δ : Type}
def eT (e : α → PyData) (xs : List α) : PyData := .tuple (xs.map e)
def eL (e : α → PyData) (xs : List α) : PyData := .list (xs.map e)
def e1 (a : α → PyData) (p : α) : PyData := .tuple [a p]
def e2 (a : α → PyData) (b : β → PyData) (p : α × β) : PyData := .tuple [a p.1, b p.2]
def e3 (a : α → PyData) (b : β → PyData) (c : γ → PyData) (p : α × β × γ) : PyData := .tuple [a p.1, b p.2.1, c p.2.2]
def e4 (a : α → PyData) (b : β → PyData) (c : γ → PyData) (d : δ → PyData) (p : α × β × γ × δ) : PyData := .tuple [a p.1, b p.2.1, c p.2.2.1, d p.2.2.2]
def eO (e : α → PyData) : Option α → PyData
  | none => .none
  | some x => e x
def eU (_ : Unit) : PyData := .none
def eA (d : PyData) : PyData := d
/-! equality -/
structure EqE [DecidableEq α] (e : α → PyData) (n : Nat) : Prop where
  eq : ∀ x y, PyData.eqv (e x) (e y) = decide (x = y)
  lay : ∀ x, (e x).canLay0 = true
  dep : ∀ x, (e x).depth ≤ n
theorem eqE_int : EqE PyData.int 1 := ⟨fun x y => by show (x == y) = _; by_cases h : x = y <;> simp [h], fun _ => rfl, fun _ => by simp [PyData.depth]⟩
theorem eqE_bool : EqE PyData.bool 1 := ⟨fun x y => by show (x == y) = _; by_cases h : x = y <;> simp [h], fun _ => rfl, fun _ => by simp [PyData.depth]⟩
theorem eqE_unit : EqE eU 1 := ⟨fun x y => by cases x; cases y; rfl, fun _ => rfl, fun _ => by simp [eU, PyData.depth]⟩
variable [DecidableEq α] [DecidableEq β] [DecidableEq γ] [DecidableEq δ] {e : α → PyData} {a : α → PyData} {b : β → PyData} {c : γ → PyData} {d : δ → PyData} {n n' n'' n''' : Nat}
theorem eqvAll_map (h : EqE e n) : ∀ xs ys : List α, PyData.eqvAll (xs.map e) (ys.map e) = decide (xs = ys)
  | [], [] => rfl
  | [], _ :: _ => rfl
  | _ :: _, [] => rfl
  | x :: xs, y :: ys => by
    show (PyData.eqv (e x) (e y) && PyData.eqvAll (xs.map e) (ys.map e)) = _
    rw [h.eq, eqvAll_map h xs ys]
    by_cases h1 : x = y <;> by_cases h2 : xs = ys <;> simp [h1, h2]
theorem layAll_map (h : EqE e n) : ∀ xs : List α, PyData.canLayAll0 (xs.map e) = true
  | [] => rfl
  | x :: xs => by
    show ((e x).canLay0 && PyData.canLayAll0 (xs.map e)) = true
    rw [h.lay, layAll_map h xs]
    rfl
theorem depAll_map (h : EqE e n) : ∀ xs : List α, PyData.depthAll (xs.map e) ≤ n
  | [] => Nat.zero_le _
  | x :: xs => by
    show max (e x).depth (PyData.depthAll (xs.map e)) ≤ n
    have h1 := h.dep x
    have h2 := depAll_map h xs
    omega
theorem dep_tup (xs : List PyData) : (PyData.tuple xs).depth = PyData.depthAll xs + 1 := by simp [PyData.depth]
theorem dep_list (xs : List PyData) : (PyData.list xs).depth = PyData.depthAll xs + 1 := by simp [PyData.depth]
theorem eqE_T (h : EqE e n) : EqE (eT e) (n + 1) := ⟨fun x y => eqvAll_map h x y, fun x => layAll_map h x, fun x => by
  have := depAll_map h x
  unfold eT
  rw [dep_tup]
  omega⟩
theorem eqE_L (h : EqE e n) : EqE (eL e) (n + 1) := ⟨fun x y => eqvAll_map h x y, fun x => layAll_map h x, fun x => by
  have := depAll_map h x
  unfold eL
  rw [dep_list]
  omega⟩
theorem eqE_1 (ha : EqE a n) : EqE (e1 a) (n + 1) := ⟨fun x y => by
  show (PyData.eqv (a x) (a y) && true) = _
  rw [ha.eq, Bool.and_true], fun x => by
  show ((a x).canLay0 && true) = true
  rw [ha.lay]; rfl, fun x => by
  have := ha.dep x
  unfold e1
  rw [dep_tup]
  show max (a x).depth 0 + 1 ≤ _
  omega⟩
theorem eqE_2 (ha : EqE a n) (hb : EqE b n') : EqE (e2 a b) (max n n' + 1) := ⟨fun x y => by
  obtain ⟨x1, x2⟩ := x
  obtain ⟨y1, y2⟩ := y
  show (PyData.eqv (a x1) (a y1) && (PyData.eqv (b x2) (b y2) && true)) = _
  rw [ha.eq, hb.eq, Bool.and_true]
  by_cases h1 : x1 = y1 <;> by_cases h2 : x2 = y2 <;> simp [h1, h2], fun x => by
  show ((a x.1).canLay0 && ((b x.2).canLay0 && true)) = true
  rw [ha.lay, hb.lay]; rfl, fun x => by
  have h1 := ha.dep x.1
  have h2 := hb.dep x.2
  unfold e2
  rw [dep_tup]
  show max (a x.1).depth (max (b x.2).depth 0) + 1 ≤ _
  omega⟩
theorem eqE_3 (ha : EqE a n) (hb : EqE b n') (hc : EqE c n'') : EqE (e3 a b c) (max n (max n' n'') + 1) := ⟨fun x y => by
  obtain ⟨x1, x2, x3⟩ := x
  obtain ⟨y1, y2, y3⟩ := y
  show (PyData.eqv (a x1) (a y1) && (PyData.eqv (b x2) (b y2) && (PyData.eqv (c x3) (c y3) && true))) = _
  rw [ha.eq, hb.eq, hc.eq, Bool.and_true]
  by_cases h1 : x1 = y1 <;> by_cases h2 : x2 = y2 <;> by_cases h3 : x3 = y3 <;> simp [h1, h2, h3], fun x => by
  show ((a x.1).canLay0 && ((b x.2.1).canLay0 && ((c x.2.2).canLay0 && true))) = true
  rw [ha.lay, hb.lay, hc.lay]; rfl, fun x => by
  have h1 := ha.dep x.1
  have h2 := hb.dep x.2.1
  have h3 := hc.dep x.2.2
  unfold e3
  rw [dep_tup]
  show max (a x.1).depth (max (b x.2.1).depth (max (c x.2.2).depth 0)) + 1 ≤ _
  omega⟩
theorem eqE_O (h : EqE e n) (hn : ∀ x, isNone (e x) = false) : EqE (eO e) (n + 1) := ⟨fun x y => by
  cases x <;> cases y
  · rfl
  · rename_i y
    show PyData.eqv .none (e y) = false
    have := hn y
    revert this
    cases e y <;> intro h <;> first | rfl | cases h
  · rename_i x
    show PyData.eqv (e x) .none = false
    have := hn x
    revert this
    cases e x <;> intro h <;> first | rfl | cases h
  · rename_i x y
    show PyData.eqv (e x) (e y) = _
    rw [h.eq]
    by_cases q : x = y <;> simp [q], fun x => by
  cases x
  · rfl
  · exact h.lay _, fun x => by
  cases x
  · simp [eO, PyData.depth]
  · exact Nat.le_succ_of_le (h.dep _)⟩
theorem EqE.shaped (h : EqE e n) (hn : n ≤ 64 := by decide) (x : α) : SeqAt.shaped (e x) = true := by
  unfold SeqAt.shaped
  rw [h.lay, decide_eq_true (Nat.le_trans (h.dep x) hn)]
  rfl
theorem EqE.shL (h : EqE e n) (hn : n ≤ 63 := by decide) (xs : List α) : SeqAt.shaped (.list (xs.map e)) = true := (eqE_L h).shaped (Nat.succ_le_succ hn) xs
theorem EqE.shT (h : EqE e n) (hn : n ≤ 63 := by decide) (xs : List α) : SeqAt.shaped (.tuple (xs.map e)) = true := (eqE_T h).shaped (Nat.succ_le_succ hn) xs
theorem o_eq (h : EqE e n) (x y : α) (hn : n ≤ 64 := by decide) : fEq (e x) (e y) = some (.bool (decide (x = y))) := by
  unfold fEq
  rw [h.shaped hn, h.shaped hn, h.eq]
  rfl
theorem o_ne (h : EqE e n) (x y : α) (hn : n ≤ 64 := by decide) : fNe (e x) (e y) = some (.bool (!decide (x = y))) := by
  unfold fNe
  rw [h.shaped hn, h.shaped hn, h.eq]
  rfl
def memT (x : α) (xs : List α) : Bool := decide (x ∈ xs)
theorem memT_true {x : α} {xs : List α} (h : x ∈ xs) : memT x xs = true := decide_eq_true h
theorem memT_false {x : α} {xs : List α} (h : x ∉ xs) : memT x xs = false := decide_eq_false h
theorem memT_iff (x : α) (xs : List α) : memT x xs = true ↔ x ∈ xs := decide_eq_true_iff
theorem any_map (h : EqE e n) (x : α) (xs : List α) : ((xs.map e).any fun z => PyData.eqv z (e x)) = decide (x ∈ xs) := by
  rw [List.any_map]
  induction xs with
  | nil => rfl
  | cons y r ih =>
    rw [List.any_cons, ih]
    show (PyData.eqv (e y) (e x) || _) = _
    rw [h.eq]
    by_cases h1 : y = x
    · subst h1; simp
    · have h2 : ¬ x = y := fun z => h1 z.symm
      simp [h1, h2]
theorem o_inL (h : EqE e n) (x : α) (xs : List α) (hn : n ≤ 63 := by decide) : fIn (e x) (.list (xs.map e)) = some (.bool (memT x xs)) := by
  unfold fIn
  dsimp only
  rw [h.shaped (Nat.le_succ_of_le hn), h.shL hn, any_map h]
  rfl
theorem o_inT (h : EqE e n) (x : α) (xs : List α) (hn : n ≤ 63 := by decide) : fIn (e x) (.tuple (xs.map e)) = some (.bool (memT x xs)) := by
  unfold fIn
  dsimp only
  rw [h.shaped (Nat.le_succ_of_le hn), h.shT hn, any_map h]
  rfl
theorem o_ninL (h : EqE e n) (x : α) (xs : List α) (hn : n ≤ 63 := by decide) : fNotIn (e x) (.list (xs.map e)) = some (.bool (!memT x xs)) := by
  unfold fNotIn
  dsimp only
  rw [h.shaped (Nat.le_succ_of_le hn), h.shL hn, any_map h]
  rfl
theorem o_ninT (h : EqE e n) (x : α) (xs : List α) (hn : n ≤ 63 := by decide) : fNotIn (e x) (.tuple (xs.map e)) = some (.bool (!memT x xs)) := by
  unfold fNotIn
  dsimp only
  rw [h.shaped (Nat.le_succ_of_le hn), h.shT hn, any_map h]
  rfl
def idxT (xs : List α) (x : α) : Option Int := (xs.idxOf? x).map fun (j : Nat) => (j : Int)
theorem ixFrom_map (h : EqE e n) (x : α) : ∀ (xs : List α) (k : Nat), ixFrom (e x) k (xs.map e) = (xs.idxOf? x).map (k + ·)
  | [], _ => rfl
  | y :: r, k => by
    show (if PyData.eqv (e y) (e x) then some k else ixFrom (e x) (k + 1) (r.map e)) = _
    rw [h.eq, ixFrom_map h x r]
    rw [List.idxOf?_cons]
    by_cases q : y = x
    · rw [if_pos (by simp [q]), if_pos (by simp [q])]; rfl
    · rw [if_neg (by simp [q]), if_neg (by simp [q]), Option.map_map]
      congr 1
      funext z
      show k + 1 + z = k + (z + 1)
      omega
theorem o_index (h : EqE e n) (x : α) (xs : List α) (hn : n ≤ 63 := by decide) : fIndex (.list (xs.map e)) (e x) = (idxT xs x).map PyData.int := by
  unfold fIndex
  dsimp only
  rw [h.shaped (Nat.le_succ_of_le hn), h.shL hn, ixFrom_map h]
  unfold idxT
  rw [if_pos (show (true && true) = true from rfl), Option.map_map, Option.map_map]
  congr 1
  funext z
  show PyData.int ((0 + z : Nat) : Int) = .int (z : Int)
  rw [Nat.zero_add]
end
section
variable {α β γ : Type} {e : α → PyData} {ks : List Kn}
/-! ints -/
theorem o_add (a b : Int) : fAdd (.int a) (.int b) = some (.int (a + b)) := rfl
theorem o_sub (a b : Int) : fSub (.int a) (.int b) = some (.int (a - b)) := rfl
theorem o_mulR {a b : Int} (h : -(2 ^ 64) < b ∧ b < 2 ^ 64 := by decide) : fMul (.int a) (.int b) = some (.int (a * b)) := by
  unfold fMul
  dsimp only
  rw [decide_eq_true h, Bool.or_true]
  rfl
theorem o_mulL {a b : Int} (h : -(2 ^ 64) < a ∧ a < 2 ^ 64 := by decide) : fMul (.int a) (.int b) = some (.int (a * b)) := by
  unfold fMul
  dsimp only
  rw [decide_eq_true h, Bool.true_or]
  rfl
theorem o_mod {a b : Int} (h : 0 < b := by decide) : fMod (.int a) (.int b) = some (.int (a % b)) := by
  unfold fMod
  dsimp only
  rw [decide_eq_true h]
  rfl
theorem o_fdiv {a b : Int} (h : 0 < b ∧ b < 1073741824 := by decide) : fFdiv (.int a) (.int b) = some (.int (a / b)) := by
  unfold fFdiv
  dsimp only
  rw [decide_eq_true h]
  rfl
@[irreducible] def mulT (a b : Int) : Option Int := if (-(2 ^ 64) < a ∧ a < 2 ^ 64) ∨ (-(2 ^ 64) < b ∧ b < 2 ^ 64) then some (a * b) else none
theorem o_mulT (a b : Int) : fMul (.int a) (.int b) = (mulT a b).map PyData.int := by
  unfold fMul mulT
  dsimp only
  by_cases h1 : -(2 ^ 64) < a ∧ a < 2 ^ 64
  · rw [if_pos (by rw [decide_eq_true h1]; rfl), if_pos (.inl h1)]; rfl
  · by_cases h2 : -(2 ^ 64) < b ∧ b < 2 ^ 64
    · rw [if_pos (by rw [decide_eq_true h2, Bool.or_true]), if_pos (.inr h2)]; rfl
    · rw [if_neg (by rw [decide_eq_false h1, decide_eq_false h2]; exact Bool.false_ne_true), if_neg (by rintro (h | h); exact h1 h; exact h2 h)]; rfl
@[irreducible] def shlT (a b : Int) : Option Int := if 0 ≤ b ∧ b ≤ 1000 ∧ a.natAbs < 2 ^ 64 then some (a * 2 ^ b.toNat) else none
theorem o_shl (a b : Int) : fShl (.int a) (.int b) = (shlT a b).map PyData.int := by
  unfold fShl shlT
  dsimp only
  by_cases h : 0 ≤ b ∧ b ≤ 1000 ∧ a.natAbs < 2 ^ 64
  · rw [if_pos (decide_eq_true h), if_pos h]; rfl
  · rw [if_neg (by rw [decide_eq_false h]; exact Bool.false_ne_true), if_neg h]; rfl
@[irreducible] def fdivT (a b : Int) : Option Int := if 0 < b ∧ b < 1073741824 then some (a / b) else none
theorem o_fdivT (a b : Int) : fFdiv (.int a) (.int b) = (fdivT a b).map PyData.int := by
  unfold fFdiv fdivT
  dsimp only
  by_cases h : 0 < b ∧ b < 1073741824
  · rw [if_pos (decide_eq_true h), if_pos h]; rfl
  · rw [if_neg (by rw [decide_eq_false h]; exact Bool.false_ne_true), if_neg h]; rfl
@[irreducible] def modT (a b : Int) : Option Int := if 0 < b then some (a % b) else none
theorem o_modT (a b : Int) : fMod (.int a) (.int b) = (modT a b).map PyData.int := by
  unfold fMod modT
  dsimp only
  by_cases h : 0 < b
  · rw [if_pos (decide_eq_true h), if_pos h]; rfl
  · rw [if_neg (by rw [decide_eq_false h]; exact Bool.false_ne_true), if_neg h]; rfl
theorem o_lt (a b : Int) : fLt (.int a) (.int b) = some (.bool (decide (a < b))) := rfl
theorem o_le (a b : Int) : fLe (.int a) (.int b) = some (.bool (decide (a ≤ b))) := rfl
theorem o_gt (a b : Int) : fGt (.int a) (.int b) = some (.bool (decide (b < a))) := rfl
theorem o_ge (a b : Int) : fGe (.int a) (.int b) = some (.bool (decide (b ≤ a))) := rfl
theorem o_neg (a : Int) : fNeg (.int a) = some (.int (-a)) := rfl
theorem o_abs (a : Int) : fAbs (.int a) = some (.int (if a < 0 then -a else a)) := rfl
theorem o_int (a : Int) : fInt (.int a) = some (.int a) := rfl
theorem o_intB (a : Bool) : fInt (.bool a) = some (.int (if a then 1 else 0)) := rfl
theorem o_notB (a : Bool) : fNot (.bool a) = some (.bool (!a)) := rfl
theorem o_max2 (a b : Int) : fMax2 (.int a) (.int b) = some (.int (if b > a then b else a)) := rfl
theorem o_min2 (a b : Int) : fMin2 (.int a) (.int b) = some (.int (if b < a then b else a)) := rfl
/-! sequences -/
@[irreducible] def catT (x y : List α) : Option (List α) := if x.length + y.length ≤ 16777216 then some (x ++ y) else none
theorem short_dec (n : Nat) : short n = decide (n ≤ 16777216) := by unfold short; rw [sizeLine_eq]
theorem o_addT (e : α → PyData) (x y : List α) : fAdd (.tuple (x.map e)) (.tuple (y.map e)) = (catT x y).map (eT e) := by
  unfold fAdd catT
  dsimp only
  rw [List.length_map, List.length_map, short_dec]
  by_cases h : x.length + y.length ≤ 16777216
  · rw [if_pos (decide_eq_true h), if_pos h, ← List.map_append]; rfl
  · rw [if_neg (by rw [decide_eq_false h]; exact Bool.false_ne_true), if_neg h]; rfl
theorem o_addL (e : α → PyData) (x y : List α) : fAdd (.list (x.map e)) (.list (y.map e)) = (catT x y).map (eL e) := by
  unfold fAdd catT
  dsimp only
  rw [List.length_map, List.length_map, short_dec]
  by_cases h : x.length + y.length ≤ 16777216
  · rw [if_pos (decide_eq_true h), if_pos h, ← List.map_append]; rfl
  · rw [if_neg (by rw [decide_eq_false h]; exact Bool.false_ne_true), if_neg h]; rfl
theorem catT_ok {x y : List α} (h : x.length + y.length ≤ 16777216) : catT x y = some (x ++ y) := by unfold catT; exact if_pos h
theorem appT_ok {x : List α} {y : α} (h : x.length < 16777216) : appT x y = some (x ++ [y]) := by unfold appT; exact if_pos h
theorem atI_map (f : α → β) (xs : List α) (i : Int) : atI (xs.map f) i = (atI xs i).map f := by
  unfold atI
  rw [List.length_map]
  cases ixN xs.length i with
  | none => rfl
  | some j => exact List.getElem?_map
theorem o_ixT (e : α → PyData) (xs : List α) (i : Int) : fIx (.tuple (xs.map e)) (.int i) = (atI xs i).map e := atI_map e xs i
theorem o_ixL (e : α → PyData) (xs : List α) (i : Int) : fIx (.list (xs.map e)) (.int i) = (atI xs i).map e := atI_map e xs i
theorem atI_nat {xs : List α} {i : Int} {x : α} (h : 0 ≤ i) (hx : xs[i.toNat]? = some x) : atI xs i = some x := by
  have hl := (List.getElem?_eq_some_iff.mp hx).1
  unfold atI ixN
  rw [if_pos h, if_pos (by omega)]
  exact hx
theorem o_lenT (e : α → PyData) (xs : List α) : fLen (.tuple (xs.map e)) = some (.int (xs.length : Int)) := by
  show some (PyData.int ((xs.map e).length : Int)) = _
  rw [List.length_map]
theorem o_lenL (e : α → PyData) (xs : List α) : fLen (.list (xs.map e)) = some (.int (xs.length : Int)) := by
  show some (PyData.int ((xs.map e).length : Int)) = _
  rw [List.length_map]
theorem bools_map : ∀ bs : List Bool, boolsOf (bs.map .bool) = some bs
  | [] => rfl
  | b :: r => by show (boolsOf (r.map .bool)).map (b :: ·) = _; rw [bools_map r]; rfl
theorem ints_map : ∀ bs : List Int, intsOf (bs.map .int) = some bs
  | [] => rfl
  | b :: r => by show (intsOf (r.map .int)).map (b :: ·) = _; rw [ints_map r]; rfl
theorem o_all (bs : List Bool) : fAll (.list (bs.map .bool)) = some (.bool (bs.all id)) := by
  unfold fAll; dsimp only; rw [bools_map]; rfl
theorem o_any (bs : List Bool) : fAny (.list (bs.map .bool)) = some (.bool (bs.any id)) := by
  unfold fAny; dsimp only; rw [bools_map]; rfl
theorem o_sum (bs : List Int) : fSum (.list (bs.map .int)) = some (.int bs.sum) := by
  unfold fSum; dsimp only; rw [ints_map]; rfl
def maxT : List Int → Option Int
  | [] => none
  | m :: r => some (maxOf m r)
def minT : List Int → Option Int
  | [] => none
  | m :: r => some (minOf m r)
theorem o_max (bs : List Int) : fMax (.list (bs.map .int)) = (maxT bs).map PyData.int := by
  unfold fMax; dsimp only; rw [ints_map]; cases bs <;> rfl
theorem o_min (bs : List Int) : fMin (.list (bs.map .int)) = (minT bs).map PyData.int := by
  unfold fMin; dsimp only; rw [ints_map]; cases bs <;> rfl
theorem cutL_map (f : α → β) (xs : List α) (lo hi : Option Int) : cutL (xs.map f) lo hi = (cutL xs lo hi).map f := by
  unfold cutL
  rw [List.length_map, List.map_take, List.map_drop]
theorem v_part {a : ME PyData} {i : Int} (h : RV ks a (.int i)) : RV ks (mPart a) (some i) := rv_vbind h (rv_lift rfl)
theorem v_noPart : RV ks mNoPart none := fun _ _ _ => rfl
theorem c_part {a : ME PyData} {t : TM Int} (h : RE ks a t PyData.int) : RE ks (mPart a) t some := by
  have q := re_bind (f := fun x => ME.lift (match x with | .int i => some (some i) | _ => none)) (tf := fun x => TM.pure x) (e := some) h fun x => re_liftP rfl
  rw [TM.bind_pure] at q
  exact q
theorem o_slT (e : α → PyData) (xs : List α) (lo hi : Option Int) : fSlice (.tuple (xs.map e)) lo hi = some (.tuple ((cutL xs lo hi).map e)) := by
  show some (PyData.tuple (cutL (xs.map e) lo hi)) = _
  rw [cutL_map]
theorem o_slL (e : α → PyData) (xs : List α) (lo hi : Option Int) : fSlice (.list (xs.map e)) lo hi = some (.list ((cutL xs lo hi).map e)) := by
  show some (PyData.list (cutL (xs.map e) lo hi)) = _
  rw [cutL_map]
theorem v_slice {a : ME PyData} {l h : ME (Option Int)} {x z : PyData} {lo hi : Option Int} (ha : RV ks a x) (hl : RV ks l lo) (hh : RV ks h hi) (hf : fSlice x lo hi = some z) : RV ks (mSlice a l h) z := rv_vbind ha (rv_vbind hl (rv_vbind hh (rv_lift hf)))
theorem o_isN (e : α → PyData) (h : ∀ x, isNone (e x) = false) (x : Option α) : fIs (eO e x) .none = some (.bool x.isNone) := by
  cases x with
  | none => rfl
  | some y => show some (PyData.bool (isNone (e y))) = _; rw [h]; rfl
theorem o_isNN (e : α → PyData) (h : ∀ x, isNone (e x) = false) (x : Option α) : fIsNot (eO e x) .none = some (.bool x.isSome) := by
  cases x with
  | none => rfl
  | some y => show some (PyData.bool (!isNone (e y))) = _; rw [h]; rfl
theorem v_index {o a : ME PyData} {x : PyData} {xs : List PyData} {z : PyData} (ho : RV ks o (.list xs)) (ha : RV ks a x) (hf : fIndex (.list xs) x = some z) : RV ks (mIndex o a) z := rv_vbind ho (rv_vbind (rv_lift rfl) (rv_vbind ha (rv_lift hf)))
theorem c_index {o a : ME PyData} {x : PyData} {xs : List PyData} {g : Option Int} (ho : RV ks o (.list xs)) (ha : RV ks a x) (hf : fIndex (.list xs) x = g.map PyData.int) : RE ks (mIndex o a) (TM.lift g) PyData.int := rv_bind ho (rv_bind (rv_lift rfl) (rv_bind ha (re_lift hf)))
/-! anything -/
def eqA (d e : PyData) : Option Bool := if SeqAt.shaped d && SeqAt.shaped e then some (PyData.eqv d e) else none
theorem o_eqA (d e : PyData) : fEq d e = (eqA d e).map PyData.bool := by
  unfold fEq eqA; split <;> rfl
def neA (d e : PyData) : Option Bool := if SeqAt.shaped d && SeqAt.shaped e then some (!PyData.eqv d e) else none
theorem o_neA (d e : PyData) : fNe d e = (neA d e).map PyData.bool := by
  unfold fNe neA; split <;> rfl
def asB (d : PyData) : Option Bool := match d with
  | .bool b => some b
  | _ => none
def asI (d : PyData) : Option Int := match d with
  | .int b => some b
  | _ => none
theorem asI_ok {d : PyData} {i : Int} (h : asI d = some i) : d = .int i := by
  unfold asI at h; split at h <;> cases h; rfl
/-- a computation of data whose values are seen as of a form -/
theorem RE.cast {m : ME PyData} {t : TM PyData} {e : α → PyData} {g : PyData → Option α} (h : RE ks m t id) (hg : ∀ d x, g d = some x → e x = d) : RE ks m (t.bind fun d => TM.lift (g d)) e := fun env ds hk o ds' q => by
  change (t ds).bind _ = some (o, ds') at q
  rcases ht : t ds with _ | ⟨d | x, ds1⟩
  · rw [ht] at q; cases q
  · rw [ht] at q
    rw [h env ds hk _ _ ht]
    rw [rb_ok] at q
    cases hd : g d with
    | none => rw [hd] at q; cases q
    | some x =>
      rw [hd] at q
      cases q
      show some (Out.ok d, _) = some (Out.ok (e x), _)
      rw [hg d x hd]
  · rw [ht] at q
    cases q
    rw [h env ds hk _ _ ht]
    rfl
theorem RE.castV {m : ME PyData} {d : PyData} {e : α → PyData} {g : PyData → Option α} (h : RV ks m d) (hg : ∀ d x, g d = some x → e x = d) : RE ks m (TM.lift (g d)) e := RE.cast (t := TM.pure d) (RV.re h) hg
/-! two clauses -/
def comp2A (p : α → TM Bool) (mi : α → TM (List β)) (q : α → β → TM Bool) (g : α → β → TM γ) : List α → List γ → TM (List γ)
  | [], acc => TM.pure acc
  | x :: r, acc => (p x).noex.bind fun k => if k then (mi x).noex.bind fun ys => if acc.length + ys.length ≤ 16777216 then (TM.compM (q x) (g x) ys).bind fun zs => comp2A p mi q g r (acc ++ zs) else TM.fail else comp2A p mi q g r acc
theorem comp2A_pure {p : α → TM Bool} {mi : α → TM (List β)} {q : α → β → TM Bool} {g : α → β → TM γ} {p' : α → Bool} {mi' : α → List β} {q' : α → β → Bool} {g' : α → β → γ} {b : Nat} : ∀ (xs : List α) (acc : List γ), (∀ x ∈ xs, p x = TM.pure (p' x) ∧ (p' x = true → mi x = TM.pure (mi' x) ∧ (mi' x).length ≤ b ∧ ∀ y ∈ mi' x, q x y = TM.pure (q' x y) ∧ (q' x y = true → g x y = TM.pure (g' x y)))) → acc.length + xs.length * b ≤ 16777216 →
    comp2A p mi q g xs acc = TM.pure (acc ++ (xs.filter p').flatMap fun x => ((mi' x).filter (q' x)).map (g' x))
  | [], acc, _, _ => by
    unfold comp2A
    rw [List.filter_nil, List.flatMap_nil, List.append_nil]
  | x :: r, acc, h, hl => by
    obtain ⟨h1, h2⟩ := h x List.mem_cons_self
    rw [List.length_cons, Nat.succ_mul] at hl
    unfold comp2A
    rw [h1, TM.noex_pure, TM.pure_bind, List.filter_cons]
    cases hp : p' x with
    | false =>
      rw [if_neg Bool.false_ne_true, if_neg Bool.false_ne_true]
      exact comp2A_pure r acc (fun y hy => h y (List.mem_cons_of_mem _ hy)) (by omega)
    | true =>
      obtain ⟨h3, h4, h5⟩ := h2 hp
      rw [if_pos rfl, if_pos rfl, h3, TM.noex_pure, TM.pure_bind, if_pos (by omega), TM.compM_pure (fun y hy => (h5 y hy).1) (fun y hy => (h5 y hy).2), TM.pure_bind]
      have hz : (((mi' x).filter (q' x)).map (g' x)).length ≤ b := by
        rw [List.length_map]
        exact Nat.le_trans (List.length_filter_le _ _) h4
      rw [comp2A_pure r _ (fun y hy => h y (List.mem_cons_of_mem _ hy)) (by rw [List.length_append]; omega), List.flatMap_cons, List.append_assoc]
theorem comp2Go_re {t t1 : Tg} {c c1 : ME Bool} {mi : ME (List PyData)} {vs1 : List Nat} {elt : ME PyData} {env : Ev} {ks1 : List Kn} {ks2 ks3 : α → List Kn} {ks4 : α → β → List Kn} {ea : α → PyData} {eb : β → PyData} {p : α → TM Bool} {ti : α → TM (List β)} {q : α → β → TM Bool} {g : α → β → TM γ} {e : γ → PyData} (hk : KnR ks1 env) (ht : ∀ x, TgK t (ea x) ks1 (ks2 x)) (hc : ∀ x, RE (ks2 x) c (p x) id) (hm : ∀ x, RE (ks2 x) mi (ti x) (List.map eb)) (hw : ∀ x, wipeK (ks2 x) vs1 = some (ks3 x)) (ht1 : ∀ x y, TgK t1 (eb y) (ks3 x) (ks4 x y)) (hc1 : ∀ x y, RE (ks4 x y) c1 (q x y) id) (he : ∀ x y, RE (ks4 x y) elt (g x y) e) :
    ∀ (xs : List α) (acc : List γ) (ds : DS) (o : Out (List γ)) (ds' : DS), comp2A p ti q g xs acc ds = some (o, ds') → ∃ ys, o = .ok ys ∧ comp2Go t c mi vs1 t1 c1 elt env (xs.map ea) ds (acc.map e) = some (ys.map e, ds')
  | [], acc, ds, o, ds', z => by
    cases z
    exact ⟨acc, rfl, rfl⟩
  | x :: r, acc, ds, o, ds', z => by
    obtain ⟨env1, h1, h2⟩ := ht x env hk
    obtain ⟨env2, w1, w2⟩ := wipeK_ok h2 (hw x)
    change (TM.noex (p x) ds).bind _ = some (o, ds') at z
    unfold TM.noex at z
    rw [List.map_cons]
    unfold comp2Go
    rw [h1]
    dsimp only
    rcases hp : p x ds with _ | ⟨k | x', ds1⟩
    · rw [hp] at z; cases z
    · rw [hp] at z
      rw [hc x env1 ds h2 _ _ hp]
      dsimp only at z
      rw [rb_ok] at z
      dsimp only [Out.map, id]
      cases k with
      | false =>
        rw [if_neg Bool.false_ne_true] at z
        exact comp2Go_re hk ht hc hm hw ht1 hc1 he r acc ds1 o ds' z
      | true =>
        rw [if_pos rfl] at z
        change (TM.noex (ti x) ds1).bind _ = some (o, ds') at z
        unfold TM.noex at z
        dsimp only
        rcases hg : ti x ds1 with _ | ⟨ys | x', ds2⟩
        · rw [hg] at z; cases z
        · rw [hg] at z
          rw [hm x env1 ds1 h2 _ _ hg]
          dsimp only at z
          rw [rb_ok] at z
          dsimp only [Out.map]
          rw [w1]
          dsimp only
          by_cases hl : acc.length + ys.length ≤ 16777216
          · rw [if_pos hl] at z
            change (TM.compM (q x) (g x) ys ds2).bind _ = some (o, ds') at z
            rcases hr : TM.compM (q x) (g x) ys ds2 with _ | ⟨o2, ds3⟩
            · rw [hr] at z; cases z
            · obtain ⟨zs, rfl, k2⟩ := compGo_re w2 (ht1 x) (hc1 x) (he x) ys (acc.map e) ds2 o2 ds3 (by rw [List.length_map]; exact hl) hr
              rw [hr] at z
              rw [k2]
              rw [rb_ok] at z
              dsimp only
              rw [← List.map_append]
              exact comp2Go_re hk ht hc hm hw ht1 hc1 he r (acc ++ zs) ds3 o ds' z
          · rw [if_neg hl] at z; cases z
        · rw [hg] at z; cases z
    · rw [hp] at z; cases z
theorem c_comp2I {vs vs1 : List Nat} {m0 mi : ME (List PyData)} {t t1 : Tg} {c c1 : ME Bool} {elt : ME PyData} {ks1 : List Kn} {ks2 ks3 : α → List Kn} {ks4 : α → β → List Kn} {ea : α → PyData} {eb : β → PyData} {xs : List α} {p : α → TM Bool} {ti : α → TM (List β)} {q : α → β → TM Bool} {g : α → β → TM γ} {e : γ → PyData} (hi : RV ks m0 (xs.map ea)) (hw0 : wipeK ks vs = some ks1) (ht : ∀ x, TgK t (ea x) ks1 (ks2 x)) (hc : ∀ x, RE (ks2 x) c (p x) id) (hm : ∀ x, RE (ks2 x) mi (ti x) (List.map eb)) (hw : ∀ x, wipeK (ks2 x) vs1 = some (ks3 x)) (ht1 : ∀ x y, TgK t1 (eb y) (ks3 x) (ks4 x y)) (hc1 : ∀ x y, RE (ks4 x y) c1 (q x y) id) (he : ∀ x y, RE (ks4 x y) elt (g x y) e) :
    RE ks (mComp2 vs m0 t c mi vs1 t1 c1 elt) (comp2A p ti q g xs []) (List.map e) := rv_bind hi fun env ds hk o ds' z => by
  obtain ⟨env1, h1, h2⟩ := wipeK_ok hk hw0
  obtain ⟨ys, rfl, k2⟩ := comp2Go_re h2 ht hc hm hw ht1 hc1 he xs [] ds o ds' z
  rw [h1]
  change comp2Go t c mi vs1 t1 c1 elt env1 (xs.map ea) ds [] = _ at k2
  dsimp only
  rw [k2]
  rfl
theorem c_comp2 {vs vs1 : List Nat} {m0 mi : ME (List PyData)} {t t1 : Tg} {c c1 : ME Bool} {elt : ME PyData} {ks1 : List Kn} {ks2 ks3 : α → List Kn} {ks4 : α → β → List Kn} {ea : α → PyData} {eb : β → PyData} {t0 : TM (List α)} {p : α → TM Bool} {ti : α → TM (List β)} {q : α → β → TM Bool} {g : α → β → TM γ} {e : γ → PyData} (hi : RE ks m0 t0 (List.map ea)) (hw0 : wipeK ks vs = some ks1) (ht : ∀ x, TgK t (ea x) ks1 (ks2 x)) (hc : ∀ x, RE (ks2 x) c (p x) id) (hm : ∀ x, RE (ks2 x) mi (ti x) (List.map eb)) (hw : ∀ x, wipeK (ks2 x) vs1 = some (ks3 x)) (ht1 : ∀ x y, TgK t1 (eb y) (ks3 x) (ks4 x y)) (hc1 : ∀ x y, RE (ks4 x y) c1 (q x y) id) (he : ∀ x y, RE (ks4 x y) elt (g x y) e) :
    RE ks (mComp2 vs m0 t c mi vs1 t1 c1 elt) (t0.bind fun xs => comp2A p ti q g xs []) (List.map e) := re_bind hi fun xs env ds hk o ds' z => by
  obtain ⟨env1, h1, h2⟩ := wipeK_ok hk hw0
  obtain ⟨ys, rfl, k2⟩ := comp2Go_re h2 ht hc hm hw ht1 hc1 he xs [] ds o ds' z
  rw [h1]
  change comp2Go t c mi vs1 t1 c1 elt env1 (xs.map ea) ds [] = _ at k2
  dsimp only
  rw [k2]
  rfl
end
/-! dicts: the entries, by their keys -/
section
variable {κ α ρ : Type} [DecidableEq κ] {ks : List Kn} {P : ρ → Fl → Prop}
def aget (m : List (κ × α)) (k : κ) : Option α := (m.find? fun p => decide (p.1 = k)).map (·.2)
def ahas (m : List (κ × α)) (k : κ) : Bool := (aget m k).isSome
def aput (m : List (κ × α)) (k : κ) (x : α) : List (κ × α) := if ahas m k then m.map (fun p => if p.1 = k then (p.1, x) else p) else m ++ [(k, x)]
/-- keys -/
structure KeyE (ek : κ → PyData) (t : Bool) (el : κ → List Int) : Prop where
  key : ∀ k, keyOf t (ek k) = some (el k)
  inj : ∀ k k', keyEq t (el k) (el k') = decide (k = k')
theorem keyE_int : KeyE PyData.int false (fun i => [i]) := ⟨fun _ => rfl, fun k k' => by show (k == k') = _; by_cases h : k = k' <;> simp [h]⟩
theorem keyE_T : KeyE (eT PyData.int) true id := ⟨fun k => ints_map k, fun k k' => by show (k == k') = _; by_cases h : k = k' <;> simp [h]⟩
theorem keyE_2 : KeyE (e2 PyData.int PyData.int) true (fun p => [p.1, p.2]) := ⟨fun _ => rfl, fun k k' => by
  obtain ⟨a, b⟩ := k
  obtain ⟨c, d⟩ := k'
  show ([a, b] == [c, d]) = _
  by_cases h : a = c <;> by_cases h' : b = d <;> simp [h, h']⟩
def kvD (el : κ → List Int) (e : α → PyData) (m : List (κ × α)) : List (List Int × PyData) := m.map fun p => (el p.1, e p.2)
variable {ek : κ → PyData} {t : Bool} {el : κ → List Int} {e : α → PyData}
theorem dGet_kv (h : KeyE ek t el) (k : κ) : ∀ m : List (κ × α), dGet t (kvD el e m) (el k) = (aget m k).map e
  | [] => rfl
  | p :: r => by
    have ih := dGet_kv h k r
    unfold dGet aget kvD at ih ⊢
    rw [List.map_cons, List.find?_cons, List.find?_cons]
    dsimp only
    rw [h.inj]
    by_cases q : p.1 = k
    · simp [q]
    · simp only [q, decide_false]
      exact ih
theorem dHas_kv (h : KeyE ek t el) (k : κ) (m : List (κ × α)) : ((kvD el e m).any fun p => keyEq t p.1 (el k)) = ahas m k := by
  unfold ahas aget
  induction m with
  | nil => rfl
  | cons p r ih =>
    unfold kvD at ih ⊢
    rw [List.map_cons, List.any_cons, List.find?_cons, ih, h.inj]
    by_cases q : p.1 = k
    · simp [q]
    · simp [q]
theorem dPut_kv (h : KeyE ek t el) (k : κ) (x : α) (m : List (κ × α)) : dPut t (kvD el e m) (el k) (e x) = kvD el e (aput m k x) := by
  unfold dPut aput
  rw [dHas_kv h]
  cases ahas m k with
  | false => rw [if_neg Bool.false_ne_true, if_neg Bool.false_ne_true]; unfold kvD; rw [List.map_append]; rfl
  | true =>
    rw [if_pos rfl, if_pos rfl]
    unfold kvD
    rw [List.map_map, List.map_map]
    congr 1
    funext p
    show (if keyEq t (el p.1) (el k) then (el p.1, e x) else (el p.1, e p.2)) = _
    rw [h.inj]
    by_cases q : p.1 = k <;> simp [q]
theorem v_din {i : Nat} {a : ME PyData} {k : κ} {m : List (κ × α)} {y : PyData} (h : KeyE ek t el) (hi : kn ks i = some (.v (.dc t (kvD el e m)))) (ha : RV ks a y) (hy : y = ek k := by rfl) : RV ks (mDin i a) (.bool (ahas m k)) := by
  subst hy
  refine rv_vbind ha fun env ds hk => ?_
  unfold onD look
  rw [hk.at hi]
  dsimp only
  rw [h.key]
  show ME.lift (some (PyData.bool (dGet t (kvD el e m) (el k)).isSome)) env ds = _
  rw [dGet_kv h, Option.isSome_map]
  rfl
theorem v_dnot {i : Nat} {a : ME PyData} {k : κ} {m : List (κ × α)} {y : PyData} (h : KeyE ek t el) (hi : kn ks i = some (.v (.dc t (kvD el e m)))) (ha : RV ks a y) (hy : y = ek k := by rfl) : RV ks (mDnot i a) (.bool (!ahas m k)) := by
  subst hy
  refine rv_vbind ha fun env ds hk => ?_
  unfold onD look
  rw [hk.at hi]
  dsimp only
  rw [h.key]
  show ME.lift (some (PyData.bool (!(dGet t (kvD el e m) (el k)).isSome))) env ds = _
  rw [dGet_kv h, Option.isSome_map]
  rfl
theorem c_dget {i : Nat} {a : ME PyData} {k : κ} {m : List (κ × α)} {y : PyData} (h : KeyE ek t el) (hi : kn ks i = some (.v (.dc t (kvD el e m)))) (ha : RV ks a y) (hy : y = ek k := by rfl) : RE ks (mDget i a) (TM.lift (aget m k)) e := fun env ds hk o ds' q => by
  subst hy
  unfold mDget onD
  rw [hk.at hi]
  dsimp only
  refine rv_bind (f := fun d => ME.lift ((look t (kvD el e m) d).bind id)) (t := TM.lift (aget m k)) (e := e) ha (re_lift ?_) env ds hk o ds' q
  unfold look
  rw [h.key]
  exact dGet_kv h k m
@[irreducible] def dputT (m : List (κ × α)) (k : κ) (x : α) : Option (List (κ × α)) := if m.length < 1000000 then some (aput m k x) else none
theorem s_dput {i : Nat} {a b : ME PyData} {k : κ} {m : List (κ × α)} {x : α} {y z : PyData} {rest : MS} {tr : List (κ × α) → TM ρ} (h : KeyE ek t el) (hi : kn ks i = some (.v (.dc t (kvD el e m)))) (hb : RV ks b z) (ha : RV ks a y) (hr : ∀ m, RG (kset ks i (.v (.dc t (kvD el e m)))) rest (tr m) P) (hz : z = e x := by rfl) (hy : y = ek k := by rfl) : RG ks (mSeq (mDput i a b) rest) ((TM.lift (dputT m k x)).bind tr) P := s_exV hb fun env ds hk o ds' q => by
  subst hz hy
  unfold dputT at q
  by_cases hl : m.length < 1000000
  · rw [if_pos hl] at q
    have z := hr _ (env.set i (.dc t (kvD el e (aput m k x)))) ds (hk.set i _) o ds' q
    refine goAt (?_ : mSeq _ rest env ds = rest (env.set i (.dc t (kvD el e (aput m k x)))) ds) z
    refine mSeq_nx ?_
    rw [hk.at hi]
    dsimp only
    rw [exS_ev, ha env ds hk]
    dsimp only
    rw [h.key]
    dsimp only
    rw [if_pos (decide_eq_true (by unfold kvD; rw [List.length_map]; exact hl)), dPut_kv h]
  · rw [if_neg hl] at q; cases q
theorem s_setD {i : Nat} {m : ME DcL} {kvs : DcL} {rest : MS} {tt : TM ρ} (h : RV ks m kvs) (hl : Nat.ble kvs.length 1000 = true := by rfl) (hs : setOk ks i = true) (hr : RG (kset ks i (.v (.dc t kvs))) rest tt P) : RG ks (mSeq (mSetD i t m) rest) tt P := s_exV h fun env ds hk o ds' q => by
  obtain ⟨env', h1, h2⟩ := hk.put (x := .dc t kvs) hs
  have z := hr env' ds h2 o ds' q
  refine goAt (?_ : mSeq _ rest env ds = rest env' ds) z
  refine mSeq_nx ?_
  rw [if_pos (decide_eq_true (by have := Nat.le_of_ble_eq_true hl; omega)), h1]
theorem s_parCL {i j : Nat} {m : ME DcL} {n : ME (List PyData)} {kvs : DcL} {xs : List PyData} {rest : MS} {tt : TM ρ} (h : RV ks m kvs) (h' : RV ks n xs) (hs : setOk ks i = true) (hs' : setOk (kset ks i (.v (.dc t kvs))) j = true) (hr : RG (kset (kset ks i (.v (.dc t kvs))) j (.v (.l xs))) rest tt P) (hl : Nat.ble kvs.length 1000 = true := by rfl) : RG ks (mSeq (mParCL i j t m n) rest) tt P := s_exV h (s_exV h' fun env ds hk o ds' q => by
  obtain ⟨env1, h1, h2⟩ := hk.put (x := .dc t kvs) hs
  obtain ⟨env2, h3, h4⟩ := h2.put (x := .l xs) hs'
  have z := hr env2 ds h4 o ds' q
  refine goAt (?_ : mSeq _ rest env ds = rest env2 ds) z
  refine mSeq_nx ?_
  rw [if_pos (decide_eq_true (by have := Nat.le_of_ble_eq_true hl; omega))]
  unfold putS
  rw [h1]
  show (match DL.put j (.l xs) env1 with | some env' => _ | none => _) = _
  rw [h3])
theorem v_dempty : RV ks mDempty [] := fun _ _ _ => rfl
theorem v_done {a b : ME PyData} {y z : PyData} {zk : List Int} (ha : RV ks a y) (hb : RV ks b z) (hk : keyOf t y = some zk) : RV ks (mDone t a b) [(zk, z)] := rv_vbind ha (rv_vbind hb (rv_lift (by rw [hk]; rfl)))
end
end DL

/-! DT5: the typed layer: casts, anything, rests. -/
namespace DL
open PySem PySem.Spec L2
open PyProof.Rows hiding St

section
variable {α β γ ρ : Type} {ks : List Kn} {P : ρ → Fl → Prop}
/-! casts -/
theorem asI_e : ∀ (d : PyData) (x : Int), asI d = some x → PyData.int x = d := fun _ _ h => (asI_ok h).symm
theorem asB_e : ∀ (d : PyData) (x : Bool), asB d = some x → PyData.bool x = d := fun d x h => by
  unfold asB at h; split at h <;> cases h; rfl
def asAll (g : PyData → Option α) : List PyData → Option (List α)
  | [] => some []
  | d :: r => (g d).bind fun x => (asAll g r).map (x :: ·)
theorem asAll_e {e : α → PyData} {g : PyData → Option α} (h : ∀ d x, g d = some x → e x = d) : ∀ (ds : List PyData) (xs : List α), asAll g ds = some xs → xs.map e = ds
  | [], _, q => by cases q; rfl
  | d :: r, xs, q => by
    change (g d).bind _ = some xs at q
    cases hd : g d with
    | none => rw [hd] at q; cases q
    | some x =>
      rw [hd] at q
      change (asAll g r).map (x :: ·) = some xs at q
      obtain ⟨ys, h1, rfl⟩ := Option.map_eq_some_iff.mp q
      rw [List.map_cons, h d x hd, asAll_e h r ys h1]
def asT (g : PyData → Option α) : PyData → Option (List α)
  | .tuple ds => asAll g ds
  | _ => none
theorem asT_e {e : α → PyData} {g : PyData → Option α} (h : ∀ d x, g d = some x → e x = d) (d : PyData) (xs : List α) (q : asT g d = some xs) : eT e xs = d := by
  unfold asT at q
  split at q
  · exact congrArg PyData.tuple (asAll_e h _ _ q)
  · cases q
def asL (g : PyData → Option α) : PyData → Option (List α)
  | .list ds => asAll g ds
  | _ => none
theorem asL_e {e : α → PyData} {g : PyData → Option α} (h : ∀ d x, g d = some x → e x = d) (d : PyData) (xs : List α) (q : asL g d = some xs) : eL e xs = d := by
  unfold asL at q
  split at q
  · exact congrArg PyData.list (asAll_e h _ _ q)
  · cases q
def as2 (g : PyData → Option α) (g' : PyData → Option β) : PyData → Option (α × β)
  | .tuple [a, b] => (g a).bind fun x => (g' b).map fun y => (x, y)
  | _ => none
theorem as2_e {e : α → PyData} {e' : β → PyData} {g : PyData → Option α} {g' : PyData → Option β} (h : ∀ d x, g d = some x → e x = d) (h' : ∀ d x, g' d = some x → e' x = d) (d : PyData) (p : α × β) (q : as2 g g' d = some p) : e2 e e' p = d := by
  unfold as2 at q
  split at q
  · rename_i a b
    cases ha : g a with
    | none => rw [ha] at q; cases q
    | some x =>
      rw [ha] at q
      obtain ⟨y, h1, rfl⟩ := Option.map_eq_some_iff.mp q
      show PyData.tuple [e x, e' y] = _
      rw [h a x ha, h' b y h1]
  · cases q
def asO (g : PyData → Option α) : PyData → Option (Option α)
  | .none => some none
  | d => (g d).map some
theorem asO_e {e : α → PyData} {g : PyData → Option α} (h : ∀ d x, g d = some x → e x = d) (d : PyData) (p : Option α) (q : asO g d = some p) : eO e p = d := by
  unfold asO at q
  split at q
  · cases q; rfl
  · obtain ⟨y, h1, rfl⟩ := Option.map_eq_some_iff.mp q
    exact h _ _ h1
theorem asAll_map {e : α → PyData} {g : PyData → Option α} (h : ∀ x, g (e x) = some x) : ∀ xs : List α, asAll g (xs.map e) = some xs
  | [] => rfl
  | x :: r => by
    show (g (e x)).bind _ = _
    rw [h, asAll_map h r] <;> rfl
/-! anything -/
def lenA : PyData → Option Int
  | .list xs => some xs.length
  | .tuple xs => some xs.length
  | .str z => if short z.length then some z.length else none
  | _ => none
theorem o_lenA (d : PyData) : fLen d = (lenA d).map PyData.int := by
  cases d <;> first | rfl | (unfold fLen lenA; dsimp only; split <;> rfl)
theorem o_idA (o : Option PyData) : o = o.map eA := by cases o <;> rfl
def inA (d e : PyData) : Option Bool := match e with
  | .list ds => if SeqAt.shaped d && SeqAt.shaped (.list ds) then some (ds.any fun z => PyData.eqv z d) else none
  | .tuple ds => if SeqAt.shaped d && SeqAt.shaped (.tuple ds) then some (ds.any fun z => PyData.eqv z d) else none
  | _ => none
def ninA (d e : PyData) : Option Bool := (inA d e).map (!·)
theorem o_inA (d e : PyData) : fIn d e = (inA d e).map PyData.bool := by
  unfold fIn inA
  cases e <;> first | rfl | (dsimp only; split <;> rfl)
theorem o_ninA (d e : PyData) : fNotIn d e = (ninA d e).map PyData.bool := by
  unfold fNotIn ninA inA
  cases e <;> first | rfl | (dsimp only; split <;> rfl)
theorem c_itemsA {a : ME PyData} {d : PyData} (h : RV ks a d) : RE ks (mItems a) (TM.lift (itemsOf d)) (List.map eA) := rv_bind h (re_lift (by
  cases itemsOf d with
  | none => rfl
  | some xs => show some xs = some (xs.map eA); congr 1; exact (List.map_id xs).symm))
theorem c_itemsAC {a : ME PyData} {t : TM PyData} (h : RE ks a t eA) : RE ks (mItems a) (t.bind fun d => TM.lift (itemsOf d)) (List.map eA) := re_bind h fun d => re_lift (by
  show itemsOf d = _
  cases itemsOf d with
  | none => rfl
  | some xs => show some xs = some (xs.map eA); congr 1; exact (List.map_id xs).symm)
/-! what may be unset -/
def kopt (e : α → PyData) : Option α → Kn
  | none => .v .un
  | some x => .v (.d (e x))
theorem kopt_j (e : α → PyData) (o : Option α) : KLe (kopt e o) .j := by
  cases o
  · exact .u
  · exact .d
theorem kset_same : ∀ {ks : List Kn} {i : Nat} {k : Kn}, kn ks i = some k → kset ks i k = ks
  | [], _, _, h => nomatch h
  | _ :: _, 0, _, h => by cases h; rfl
  | x :: r, i + 1, k, h => congrArg (x :: ·) (kset_same (i := i) h)
theorem s_unopt (i : Nat) {e : α → PyData} {o : Option α} {rest : MS} {tr : α → TM ρ} (h : kn ks i = some (kopt e o)) (hr : ∀ x, RG (kset ks i (.v (.d (e x)))) rest (tr x) P) : RG ks rest ((TM.lift o).bind tr) P := fun env ds hk o' ds' q => by
  cases o with
  | none => cases q
  | some x =>
    have z := hr x env ds (by rw [show kset ks i (Kn.v (Sl.d (e x))) = ks from kset_same h]; exact hk) o' ds' q
    exact z
theorem s_letV {δ : Type} {i : Nat} {a : ME PyData} {x : δ} {e : δ → PyData} {rest : MS} {tr : δ → TM ρ} (h : RV ks a (e x)) (hs : setOk ks i = true) (hr : ∀ y, RG (kset ks i (.v (.d (e y)))) rest (tr y) P) : RG ks (mSeq (mSet i a) rest) (TM.tlet x tr) P := s_setV h hs (hr x)
theorem s_end' {m : MS} {t : TM ρ} (h : RG ks m t P) : RG ks (mSeq m mSkip) t P := h.cg fun env ds => (seq_end m env ds).symm
/-! sorted -/
@[irreducible] def srtT (e : α → PyData) (xs : List α) : Option (List α) := if sorts (xs.map e) then some (sortB (fun x y => ltD (e x) (e y)) xs) else none
theorem insM {lt : α → α → Bool} {lt' : β → β → Bool} (f : α → β) (h : ∀ x y, lt' (f x) (f y) = lt x y) (x : α) : ∀ ys : List α, insB lt' (f x) (ys.map f) = (insB lt x ys).map f
  | [] => rfl
  | y :: r => by
    show (if lt' (f y) (f x) then f y :: insB lt' (f x) (r.map f) else f x :: f y :: r.map f) = (if lt y x then y :: insB lt x r else x :: y :: r).map f
    rw [h, insM f h x r]
    split <;> rfl
theorem srtM {lt : α → α → Bool} {lt' : β → β → Bool} (f : α → β) (h : ∀ x y, lt' (f x) (f y) = lt x y) : ∀ xs : List α, sortB lt' (xs.map f) = (sortB lt xs).map f
  | [] => rfl
  | x :: r => by
    show insB lt' (f x) (sortB lt' (r.map f)) = (insB lt x (sortB lt r)).map f
    rw [srtM f h r, insM f h]
theorem o_sort (e : α → PyData) (xs : List α) : fSort (.list (xs.map e)) = (srtT e xs).map (List.map e) := by
  unfold fSort srtT sortD
  dsimp only
  rw [srtM (lt := fun x y => ltD (e x) (e y)) e fun _ _ => rfl]
  split <;> rfl
@[irreducible] def sortSetT (xs : List Int) : Option (List Int) := if xs.length < 64 then some (sortU xs) else none
theorem o_sortSet (xs : List Int) : fSortSet (.list (xs.map .int)) = (sortSetT xs).map (List.map PyData.int) := by
  unfold fSortSet sortSetT
  dsimp only
  rw [ints_map]
  show (if decide (xs.length < 64) then some ((sortU xs).map PyData.int) else none) = _
  by_cases h : xs.length < 64
  · rw [if_pos (decide_eq_true h), if_pos h]; rfl
  · rw [if_neg (by rw [decide_eq_false h]; exact Bool.false_ne_true), if_neg h]; rfl
@[irreducible] def reprT (d : PyData) : Option Str := if isSeq d && d.showable && !d.hasDict && decide (d.depth ≤ 60) && short d.shown.length then some d.shown else none
theorem o_repr (d : PyData) : fRepr d = (reprT d).map PyData.str := by
  unfold fRepr reprT; split <;> rfl
/-! repeats -/
@[irreducible] def repL (xs : List α) (k : Int) : Option (List α) := if k.natAbs ≤ 1000 ∧ xs.length ≤ 1000 then some (List.replicate k.toNat xs).flatten else none
@[irreducible] def repT (xs : List α) (k : Int) : Option (List α) := if xs ≠ [] ∧ (2 ≤ k ∧ k ≤ 1000) ∧ xs.length ≤ 1000 then some (List.replicate k.toNat xs).flatten else none
theorem flat_map (e : α → β) (xs : List α) : ∀ n : Nat, (List.replicate n (xs.map e)).flatten = ((List.replicate n xs).flatten).map e
  | 0 => rfl
  | n + 1 => by rw [List.replicate_succ, List.replicate_succ, List.flatten_cons, List.flatten_cons, List.map_append, flat_map e xs n]
theorem o_repL (e : α → PyData) (xs : List α) (k : Int) : fMul (.list (xs.map e)) (.int k) = (repL xs k).map (eL e) := by
  unfold fMul repL
  dsimp only
  rw [List.length_map, flat_map]
  by_cases h : k.natAbs ≤ 1000 <;> by_cases h' : xs.length ≤ 1000 <;> simp [h, h', eL]
theorem o_repT (e : α → PyData) (xs : List α) (k : Int) : fMul (.tuple (xs.map e)) (.int k) = (repT xs k).map (eT e) := by
  unfold fMul repT
  dsimp only
  rw [List.length_map, flat_map]
  cases xs with
  | nil => rfl
  | cons x r => by_cases h : 2 ≤ k ∧ k ≤ 1000 <;> by_cases h' : (x :: r).length ≤ 1000 <;> simp [h, h', eT]
end
/-! dicts, computed -/
section
variable {κ α ρ : Type} [DecidableEq κ] {ks : List Kn} {P : ρ → Fl → Prop} {ek : κ → PyData} {t : Bool} {el : κ → List Int} {e : α → PyData}
theorem c_din {i : Nat} {a : ME PyData} {ta : TM κ} {m : List (κ × α)} (h : KeyE ek t el) (hi : kn ks i = some (.v (.dc t (kvD el e m)))) (ha : RE ks a ta ek) : RE ks (mDin i a) (ta.bind fun k => TM.pure (ahas m k)) PyData.bool := re_bind ha fun k => RV.re (e := PyData.bool) (x := ahas m k) (y := .bool (ahas m k)) fun env ds hk => by
  unfold onD look
  rw [hk.at hi]
  dsimp only
  rw [h.key]
  show ME.lift (some (PyData.bool (dGet t (kvD el e m) (el k)).isSome)) env ds = _
  rw [dGet_kv h, Option.isSome_map]
  rfl
theorem c_dnot {i : Nat} {a : ME PyData} {ta : TM κ} {m : List (κ × α)} (h : KeyE ek t el) (hi : kn ks i = some (.v (.dc t (kvD el e m)))) (ha : RE ks a ta ek) : RE ks (mDnot i a) (ta.bind fun k => TM.pure (!ahas m k)) PyData.bool := re_bind ha fun k => RV.re (e := PyData.bool) (x := !ahas m k) (y := .bool (!ahas m k)) fun env ds hk => by
  unfold onD look
  rw [hk.at hi]
  dsimp only
  rw [h.key]
  show ME.lift (some (PyData.bool (!(dGet t (kvD el e m) (el k)).isSome))) env ds = _
  rw [dGet_kv h, Option.isSome_map]
  rfl
theorem c_dgetC {i : Nat} {a : ME PyData} {ta : TM κ} {m : List (κ × α)} (h : KeyE ek t el) (hi : kn ks i = some (.v (.dc t (kvD el e m)))) (ha : RE ks a ta ek) : RE ks (mDget i a) (ta.bind fun k => TM.lift (aget m k)) e := fun env ds hk o ds' q => by
  unfold mDget onD
  rw [hk.at hi]
  dsimp only
  refine re_bind (f := fun d => ME.lift ((look t (kvD el e m) d).bind id)) (tf := fun k => TM.lift (aget m k)) (e := e) ha (fun k => re_lift ?_) env ds hk o ds' q
  unfold look
  rw [h.key]
  exact dGet_kv h k m
theorem RG.cgK {m m' : MS} {t : TM ρ} (h : RG ks m t P) (q : ∀ env ds, KnR ks env → m' env ds = m env ds) : RG ks m' t P := fun env ds hk o ds' z => by
  rw [q env ds hk]
  exact h env ds hk o ds' z
theorem s_dputC {i : Nat} {a b : ME PyData} {tk : TM κ} {tx : TM α} {m : List (κ × α)} {rest : MS} {tr : List (κ × α) → TM ρ} (h : KeyE ek t el) (hi : kn ks i = some (.v (.dc t (kvD el e m)))) (hb : RE ks b tx e) (ha : RE ks a tk ek) (hr : ∀ m, RG (kset ks i (.v (.dc t (kvD el e m)))) rest (tr m) P) : RG ks (mSeq (mDput i a b) rest) (tx.bind fun x => tk.bind fun k => (TM.lift (dputT m k x)).bind tr) P := s_exC hb fun x => RG.cgK (m := mSeq (exS a fun d env ds => match keyOf t d with
    | some z => if decide ((kvD el e m).length < 1000000) then some (.nx (env.set i (.dc t (dPut t (kvD el e m) z (e x)))), ds) else none
    | none => none) rest) (s_exC ha fun k env ds hk o ds' q => by
  unfold dputT at q
  by_cases hl : m.length < 1000000
  · rw [if_pos hl] at q
    have z := hr _ (env.set i (.dc t (kvD el e (aput m k x)))) ds (hk.set i _) o ds' q
    refine goAt (?_ : mSeq _ rest env ds = rest (env.set i (.dc t (kvD el e (aput m k x)))) ds) z
    refine mSeq_nx ?_
    rw [h.key]
    dsimp only
    rw [if_pos (decide_eq_true (by unfold kvD; rw [List.length_map]; exact hl)), dPut_kv h]
  · rw [if_neg hl] at q; cases q) fun env ds hk => by
    unfold mSeq
    dsimp only
    rw [hk.at hi] <;> rfl
end
/-! from one form to another -/
section
variable {α β γ : Type} {ks : List Kn}
theorem RE.castG {m : ME γ} {t : TM α} {e : α → γ} {e' : β → γ} {g : α → Option β} (h : RE ks m t e) (hg : ∀ x y, g x = some y → e' y = e x) : RE ks m (t.bind fun x => TM.lift (g x)) e' := fun env ds hk o ds' q => by
  change (t ds).bind _ = some (o, ds') at q
  rcases ht : t ds with _ | ⟨d | x, ds1⟩
  · rw [ht] at q; cases q
  · rw [ht] at q
    rw [h env ds hk _ _ ht]
    rw [rb_ok] at q
    cases hd : g d with
    | none => rw [hd] at q; cases q
    | some x =>
      rw [hd] at q
      cases q
      show some (Out.ok (e d), _) = some (Out.ok (e' x), _)
      rw [hg d x hd]
  · rw [ht] at q
    cases q
    rw [h env ds hk _ _ ht]
    rfl
theorem RE.castGV {m : ME γ} {x : α} {e : α → γ} {e' : β → γ} {g : α → Option β} (h : RV ks m (e x)) (hg : ∀ x y, g x = some y → e' y = e x) : RE ks m (TM.lift (g x)) e' := RE.castG (t := TM.pure x) (RV.re h) hg
theorem opt_e {e : α → PyData} : ∀ (o : Option α) (x : α), (id o) = some x → e x = eO e o := fun o x h => by cases h; rfl
def lst2 : List α → Option (α × α)
  | [a, b] => some (a, b)
  | _ => none
theorem lst2_e {e : α → PyData} : ∀ (l : List α) (p : α × α), lst2 l = some p → e2 e e p = eT e l := fun l p h => by
  unfold lst2 at h
  split at h <;> cases h
  rfl
end
end DL

/-! DT6: the typed layer over DL20. -/
namespace DL
open PySem PySem.Spec L2
open PyProof.Rows hiding St

section
variable {ρ : Type} {ks : List Kn} {P : ρ → Fl → Prop}
theorem s_parCD {t : Bool} {i j : Nat} {m : ME DcL} {n : ME PyData} {kvs : DcL} {x : PyData} {rest : MS} {tt : TM ρ} (h : RV ks m kvs) (h' : RV ks n x) (hs : setOk ks i = true) (hs' : setOk (kset ks i (.v (.dc t kvs))) j = true) (hr : RG (kset (kset ks i (.v (.dc t kvs))) j (.v (.d x))) rest tt P) (hl : Nat.ble kvs.length 1000 = true := by rfl) : RG ks (mSeq (mParCD i j t m n) rest) tt P := s_exV h (s_exV h' fun env ds hk o ds' q => by
  obtain ⟨env1, h1, h2⟩ := hk.put (x := .dc t kvs) hs
  obtain ⟨env2, h3, h4⟩ := h2.put (x := .d x) hs'
  have z := hr env2 ds h4 o ds' q
  refine goAt (?_ : mSeq _ rest env ds = rest env2 ds) z
  refine mSeq_nx ?_
  rw [if_pos (decide_eq_true (by have := Nat.le_of_ble_eq_true hl; omega))]
  unfold putS
  rw [h1]
  show (match DL.put j (.d x) env1 with | some env' => _ | none => _) = _
  rw [h3])
end
section
variable {α : Type} [DecidableEq α] {e : α → PyData} {n : Nat}
def setLenT (e : α → PyData) (xs : List α) : Option Int := match fSetLen (.list (xs.map e)) with
  | some (.int i) => some i
  | _ => none
theorem fSetLen_int (d : PyData) : (∃ i, fSetLen d = some (.int i)) ∨ fSetLen d = none := by
  unfold fSetLen
  split
  · split
    · split
      · exact .inl ⟨_, rfl⟩
      · exact .inr rfl
    · split
      · split
        · exact .inl ⟨_, rfl⟩
        · exact .inr rfl
      · exact .inr rfl
  · split
    · split
      · exact .inl ⟨_, rfl⟩
      · exact .inr rfl
    · exact .inr rfl
  · exact .inr rfl
theorem o_setLenL (_ : EqE e n) (xs : List α) : fSetLen (.list (xs.map e)) = (setLenT e xs).map PyData.int := by
  unfold setLenT
  rcases fSetLen_int (.list (xs.map e)) with ⟨i, h⟩ | h <;> rw [h] <;> rfl
def setLenTT (e : α → PyData) (xs : List α) : Option Int := match fSetLen (.tuple (xs.map e)) with
  | some (.int i) => some i
  | _ => none
theorem o_setLenT (_ : EqE e n) (xs : List α) : fSetLen (.tuple (xs.map e)) = (setLenTT e xs).map PyData.int := by
  unfold setLenTT
  rcases fSetLen_int (.tuple (xs.map e)) with ⟨i, h⟩ | h <;> rw [h] <;> rfl
theorem rowsD_map : ∀ xs : List (List Int), rowsD (xs.map (eT PyData.int)) = some xs
  | [] => rfl
  | x :: r => by
    show (intsOf (x.map .int)).bind _ = _
    rw [ints_map, rowsD_map r]
    rfl
theorem setLen_rows {xs : List (List Int)} (h : xs.length ≤ 64) : setLenT (eT PyData.int) xs = some ((dist xs).length : Int) := by
  cases xs with
  | nil => rfl
  | cons x r =>
    have e1 : intsOf ((x :: r).map (eT PyData.int)) = none := rfl
    unfold setLenT fSetLen
    dsimp only
    rw [e1, rowsD_map]
    dsimp only
    rw [if_pos (decide_eq_true h)]
theorem setLen_ints {xs : List Int} (h : xs.length ≤ 1000) : setLenT PyData.int xs = some ((dist xs).length : Int) := by
  unfold setLenT fSetLen
  dsimp only
  rw [ints_map]
  dsimp only
  rw [if_pos (decide_eq_true h)]
end
end DL

/-! DT7: list(zip(..)), max of a tuple, t < u. -/
namespace DL
open PySem PySem.Spec L2
section
variable {α β : Type}
def zipT (xs : List α) (ys : List β) : Option (List (α × β)) := if xs.length = ys.length then some (xs.zip ys) else none
theorem zipD_map (e : α → PyData) (f : β → PyData) : ∀ (xs : List α) (ys : List β), zipD (xs.map e) (ys.map f) = (xs.zip ys).map (e2 e f)
  | [], _ => by unfold zipD; rfl
  | _ :: _, [] => by unfold zipD; rfl
  | x :: xs, y :: ys => congrArg (_ :: ·) (zipD_map e f xs ys)
theorem o_zip (e : α → PyData) (f : β → PyData) (xs : List α) (ys : List β) : fZip (.tuple (xs.map e)) (.tuple (ys.map f)) = (zipT xs ys).map (List.map (e2 e f)) := by
  unfold fZip zipT
  simp only [List.length_map, zipD_map]
  by_cases h : xs.length = ys.length
  · rw [if_pos (decide_eq_true h), if_pos h]; rfl
  · rw [if_neg (fun q => h (of_decide_eq_true q)), if_neg h]; rfl
theorem o_ltR (a b : List Int) : fLtA (.tuple (a.map .int)) (.tuple (b.map .int)) = some (.bool (HT.lexLt a b)) := by
  show (intsOf (a.map .int)).bind (fun x => (intsOf (b.map .int)).bind fun y => some (PyData.bool (HT.lexLt x y))) = _
  rw [ints_map, ints_map]
  rfl
theorem o_maxAT (xs : List Int) : fMaxA (.tuple (xs.map .int)) = (maxT xs).map PyData.int := o_max xs
theorem o_maxAL (xs : List Int) : fMaxA (.list (xs.map .int)) = (maxT xs).map PyData.int := o_max xs
theorem noL_all : ∀ xs : List Int, noLs (xs.map PyData.int) = true
  | [] => rfl
  | _ :: xs => noL_all xs
theorem noL_ints (xs : List Int) : noL (eT PyData.int xs) = true := noL_all xs
theorem setOk_o {ks : List Kn} {i : Nat} {e : α → PyData} {o : Option α} (h : kn ks i = some (kopt e o)) : setOk ks i = true := by
  unfold setOk
  rw [h]
  cases o <;> rfl
def tupT (xs : List α) : Option (List α) := if short xs.length then some xs else none
theorem c_tupT {ks : List Kn} {r : ME (List PyData)} {t : TM (List α)} {e : α → PyData} (h : RE ks r t (List.map e)) : RE ks (mTup r) (t.bind fun xs => TM.lift (tupT xs)) (eT e) := re_bind h fun xs => re_lift (by
  unfold tupT
  rw [List.length_map]
  by_cases q : short xs.length = true
  · rw [if_pos q, if_pos q]; rfl
  · rw [if_neg q, if_neg q]; rfl)
def repT1 (xs : List α) (k : Int) : Option (List α) := if k = 1 then some xs else repT xs k
theorem o_repT1 (e : α → PyData) (xs : List α) (k : Int) : fMulA (.tuple (xs.map e)) (.int k) = (repT1 xs k).map (eT e) := by
  unfold fMulA repT1
  dsimp only
  by_cases h : k = 1
  · rw [if_pos (decide_eq_true h), if_pos h]; rfl
  · rw [if_neg (fun w => h (of_decide_eq_true w)), if_neg h]; exact o_repT e xs k
/-- a row among others -/
theorem castA (e : α → PyData) (xs : List α) : ∀ ys, some (xs.map e) = some ys → eT eA ys = eT e xs := fun ys h => by
  cases h
  show PyData.tuple ((xs.map e).map eA) = PyData.tuple (xs.map e)
  congr 1
  exact List.map_id _
end
section
variable {α ρ : Type} {ks : List Kn} {P : ρ → Fl → Prop} {rest : MS} {a : ME PyData}
theorem s_mputC {i : Nat} {ix : ME PyData} {xs : List α} {ta : TM α} {k : Int} {e : α → PyData} {tr : List α → TM ρ} (hi : kn ks i = some (.v (.l (xs.map e)))) (h : RE ks a ta e) (hx : RV ks ix (.int k)) (hr : ∀ ys, RG (kset ks i (.v (.l (ys.map e)))) rest (tr ys) P) : RG ks (mSeq (mPut i ix a) rest) (ta.bind fun x => (TM.lift (putT xs k x)).bind tr) P := s_onL hi (s_exC h fun x => s_exV hx fun env ds hk o ds' q => by
  unfold putT at q
  cases hn : ixN xs.length k with
  | none => rw [hn] at q; cases q
  | some j =>
    rw [hn] at q
    have z := hr _ (env.set i (.l ((xs.set j x).map e))) ds (hk.set i _) o ds' q
    refine goAt (?_ : mSeq _ rest env ds = rest (env.set i (.l ((xs.set j x).map e))) ds) z
    refine mSeq_nx ?_
    dsimp only
    rw [List.length_map, hn, List.map_set])
end
end DL

/-! Dr: the draws, the boxes drawn. -/
namespace Lw
open PySem PySem.Spec L2 DL

@[simp] theorem fAdd_int (a b : Int) : fAdd (.int a) (.int b) = some (.int (a + b)) := rfl
@[simp] theorem fSub_int (a b : Int) : fSub (.int a) (.int b) = some (.int (a - b)) := rfl
theorem fMul_lit {a b : Int} (h : -(2 ^ 64) < b ∧ b < 2 ^ 64) : fMul (.int a) (.int b) = some (.int (a * b)) := by
  unfold fMul
  dsimp only
  rw [decide_eq_true h, Bool.or_true]
  rfl
theorem fMod_pos {a b : Int} (h : 0 < b) : fMod (.int a) (.int b) = some (.int (a % b)) := by
  unfold fMod
  dsimp only
  rw [decide_eq_true h]
  rfl
theorem fFdiv_pos {a b : Int} (h : 0 < b ∧ b < 1073741824) : fFdiv (.int a) (.int b) = some (.int (a / b)) := by
  unfold fFdiv
  dsimp only
  rw [decide_eq_true h]
  rfl
@[simp] theorem fEq_int (a b : Int) : fEq (.int a) (.int b) = some (.bool (a == b)) := rfl
@[simp] theorem fNe_int (a b : Int) : fNe (.int a) (.int b) = some (.bool (!(a == b))) := rfl
@[simp] theorem fLt_int (a b : Int) : fLt (.int a) (.int b) = some (.bool (decide (a < b))) := rfl
@[simp] theorem fLe_int (a b : Int) : fLe (.int a) (.int b) = some (.bool (decide (a ≤ b))) := rfl
@[simp] theorem fInt_int (a : Int) : fInt (.int a) = some (.int a) := rfl
@[simp] theorem fLen_list (a : List PyData) : fLen (.list a) = some (.int a.length) := rfl
@[simp] theorem fLen_tuple (a : List PyData) : fLen (.tuple a) = some (.int a.length) := rfl
@[simp] theorem fNeg_int (a : Int) : fNeg (.int a) = some (.int (-a)) := rfl
theorem fIx_list {xs : List PyData} {i : Int} {x : PyData} (h : 0 ≤ i) (hx : xs[i.toNat]? = some x) : fIx (.list xs) (.int i) = some x := by
  show atI xs i = some x
  have hl := (List.getElem?_eq_some_iff.mp hx).1
  unfold atI ixN
  rw [if_pos h, if_pos (by omega)]
  exact hx
theorem fIx_tuple {xs : List PyData} {i : Int} {x : PyData} (h : 0 ≤ i) (hx : xs[i.toNat]? = some x) : fIx (.tuple xs) (.int i) = some x := by
  show atI xs i = some x
  have hl := (List.getElem?_eq_some_iff.mp hx).1
  unfold atI ixN
  rw [if_pos h, if_pos (by omega)]
  exact hx
/-- the draw may go on -/
def DI : DS → Prop
  | some s => -1 ≤ s.place
  | none => False
theorem mDrw_ev {env : Ev} {i k : Nat} {s : DSt} {x : PyData} (h : env[i]? = some .drw) (hx : drGet s k = some x) : mDrw i k env (some s) = some (.ok x, some s) := by
  unfold mDrw
  rw [h]
  dsimp only
  rw [hx]
theorem mDrwSet_ev {env : Ev} {i k : Nat} {a : ME PyData} {ds : DS} {s s' : DSt} {j : Int} (h : env[i]? = some .drw) (ha : a env ds = some (.ok (.int j), some s)) (hs : drSet s k j = some s') : mDrwSet i k a env ds = some (.nx env, some s') := by
  unfold mDrwSet
  rw [exS_ev, ha]
  dsimp only
  rw [h]
  dsimp only
  rw [hs]
def tCur (s : DSt) : DSt :=
  if s.cur = 0 then
    let p := s.place + 1
    let c := if p < s.cells.length then s.cells.getD p.toNat 0 else s.cur
    if c = 0 then ⟨s.cells, p, (s.seed * 48271 + 11) % 2147483647, (s.seed * 48271 + 11) % 2147483647⟩ else ⟨s.cells, p, c, s.seed⟩
  else s
theorem take_run (s : DSt) (h : -1 ≤ s.place) {many : Int} (h0 : 0 < many) (h1 : many < 1073741824) : f__law_take [.drw, .d (.int many)] (some s) = some (.ok (.int ((tCur s).cur % many)), some { tCur s with cur := (tCur s).cur / many }) := by
  obtain ⟨cells, place, cur, seed⟩ := s
  dsimp only at h
  have fin : ∀ s : DSt, (mSeq (mSet 2 (mOp fMod (mUn fInt (mDrw 0 2)) (mV 1))) (mSeq (mDrwSet 0 2 (mOp fFdiv (mDrw 0 2) (mV 1))) (mRet (mV 2)))) [.drw, .d (.int many), .un] (some s) = some (.rt (.int (s.cur % many)), some { s with cur := s.cur / many }) := fun s => by
    rw [mSeq_nx (env' := [.drw, .d (.int many), .d (.int (s.cur % many))]) (ds' := some s)]
    · rw [mSeq_nx (mDrwSet_ev (env := [.drw, .d (.int many), .d (.int (s.cur % many))]) (ds := some s) (s := s) (j := s.cur / many) (s' := { s with cur := s.cur / many }) rfl (by
        rw [mOp_ev, mDrw_ev (x := .int s.cur) rfl rfl, rb_ok, mV_ev]
        show ME.lift (fFdiv (.int s.cur) (.int many)) [.drw, .d (.int many), .d (.int (s.cur % many))] _ = _
        rw [fFdiv_pos ⟨h0, h1⟩]
        rfl) rfl)]
      rfl
    · rw [mSet_ev, mOp_ev, mUn_ev, mDrw_ev (x := .int s.cur) rfl rfl, rb_ok, fInt_int, lift_ok, rb_ok, mV_ev]
      show (match ME.lift (fMod (.int s.cur) (.int many)) [.drw, .d (.int many), .un] (some s) with | some (.ok x, ds') => _ | some (.exc e, ds') => _ | none => _) = _
      rw [fMod_pos h0]
      rfl
  unfold f__law_take runB m__law_take
  show (match mSeq _ _ [.drw, .d (.int many), .un] _ with | some (.rt d, ds') => _ | some (.nx _, ds') => _ | some (.ex x _, ds') => _ | _ => _) = _
  rw [mSeq_nx (env' := [.drw, .d (.int many), .un]) (ds' := some (tCur ⟨cells, place, cur, seed⟩)), fin]
  rw [mIfS_ev, mTst_ev, mOp_ev, mDrw_ev (x := .int cur) rfl rfl, rb_ok, mC_ev, rb_ok, fEq_int, lift_ok, rb_ok, lift_ok]
  dsimp only
  unfold tCur
  dsimp only
  by_cases hc : cur = 0
  · subst hc
    rw [if_pos (show ((0 : Int) == 0) = true from rfl), if_pos (rfl : (0 : Int) = 0)]
    rw [mSeq_nx (mDrwSet_ev (s := ⟨cells, place, 0, seed⟩) (j := place + 1) (s' := ⟨cells, place + 1, 0, seed⟩) rfl (by rw [mOp_ev, mDrw_ev (x := .int place) rfl rfl]; rfl) rfl)]
    rw [mSeq_nx (env' := [.drw, .d (.int many), .un]) (ds' := some ⟨cells, place + 1, (if place + 1 < cells.length then cells.getD (place + 1).toNat 0 else 0), seed⟩)]
    · generalize (if place + 1 < (cells.length : Int) then cells.getD (place + 1).toNat 0 else 0) = c
      rw [mIfS_ev, mTst_ev, mOp_ev, mDrw_ev (x := .int c) rfl rfl, rb_ok, mC_ev, rb_ok, fEq_int, lift_ok, rb_ok, lift_ok]
      dsimp only
      by_cases hz : c = 0
      · subst hz
        rw [if_pos (show ((0 : Int) == 0) = true from rfl), if_pos (rfl : (0 : Int) = 0)]
        rw [mSeq_nx (mDrwSet_ev (s := ⟨cells, place + 1, 0, seed⟩) (j := (seed * 48271 + 11) % 2147483647) (s' := ⟨cells, place + 1, 0, (seed * 48271 + 11) % 2147483647⟩) rfl (by
          rw [mOp_ev, mUn_ev, mOp_ev, mOp_ev, mDrw_ev (x := .int seed) rfl rfl, rb_ok, mC_ev, rb_ok, fMul_lit (by decide), lift_ok, rb_ok, mC_ev, rb_ok, fAdd_int, lift_ok, rb_ok, fInt_int, lift_ok, rb_ok, mC_ev, rb_ok, fMod_pos (by decide), lift_ok]) rfl)]
        exact mDrwSet_ev rfl (mDrw_ev rfl rfl) rfl
      · rw [if_neg (by simpa using hz), if_neg hz]
        rfl
    · rw [mIfS_ev, mTst_ev, mOp_ev, mDrw_ev (x := .int (place + 1)) rfl rfl, rb_ok, mUn_ev, mDrw_ev (x := .list (cells.map .int)) rfl rfl, rb_ok, fLen_list, lift_ok, rb_ok, fLt_int, lift_ok, rb_ok, lift_ok, List.length_map]
      dsimp only
      by_cases hp : place + 1 < (cells.length : Int)
      · rw [if_pos (decide_eq_true hp), if_pos hp]
        have hl : (place + 1).toNat < cells.length := by omega
        refine mDrwSet_ev (s := ⟨cells, place + 1, 0, seed⟩) (j := cells.getD (place + 1).toNat 0) rfl ?_ rfl
        rw [mOp_ev, mDrw_ev (x := .list (cells.map .int)) rfl rfl, rb_ok, mDrw_ev (x := .int (place + 1)) rfl rfl, rb_ok, fIx_list (x := .int (cells.getD (place + 1).toNat 0)) (by omega) (by rw [List.getElem?_map, List.getElem?_eq_getElem hl, List.getD_eq_getElem?_getD, List.getElem?_eq_getElem hl]; rfl), lift_ok]
      · rw [if_neg (by rw [decide_eq_false hp]; exact Bool.false_ne_true), if_neg hp]
        rfl
  · rw [if_neg (by simpa using hc), if_neg hc]
    rfl
theorem tCur_place {s : DSt} (h : -1 ≤ s.place) : -1 ≤ (tCur s).place := by
  unfold tCur
  by_cases c : s.cur = 0
  · rw [if_pos c]
    dsimp only
    generalize (if s.place + 1 < (s.cells.length : Int) then s.cells.getD (s.place + 1).toNat 0 else s.cur) = z
    by_cases d : z = 0
    · rw [if_pos d]
      show -1 ≤ s.place + 1
      omega
    · rw [if_neg d]
      show -1 ≤ s.place + 1
      omega
  · rw [if_neg c]
    exact h
/-- a draw below many -/
theorem take_ok {ds : DS} (h : DI ds) {many : Int} (h0 : 0 < many) (h1 : many < 1073741824) : ∃ r ds', f__law_take [.drw, .d (.int many)] ds = some (.ok (.int r), ds') ∧ 0 ≤ r ∧ r < many ∧ DI ds' := by
  cases ds with
  | none => exact h.elim
  | some s => exact ⟨_, _, take_run s h h0 h1, Int.emod_nonneg _ (by omega), Int.emod_lt_of_pos _ h0, show -1 ≤ (tCur s).place from tCur_place h⟩
end Lw

/-! TD1: the draw, typed. -/
namespace Lw
open PySem PySem.Spec L2 DL

def t__law_take (many : Int) : TM Int := fun ds => match ds with
  | some s => if -1 ≤ s.place ∧ 0 < many ∧ many < 1073741824 then some (.ok ((tCur s).cur % many), some { tCur s with cur := (tCur s).cur / many }) else none
  | none => none
theorem r__law_take (many : Int) : RF f__law_take [.drw, .d (.int many)] (t__law_take many) PyData.int := fun ds o ds' q => by
  cases ds with
  | none => cases q
  | some s =>
    change (if -1 ≤ s.place ∧ 0 < many ∧ many < 1073741824 then _ else none) = some (o, ds') at q
    by_cases h : -1 ≤ s.place ∧ 0 < many ∧ many < 1073741824
    · rw [if_pos h] at q
      cases q
      exact take_run s h.1 h.2.1 h.2.2
    · rw [if_neg h] at q; cases q
theorem take_gives {many : Int} (h0 : 0 < many) (h1 : many < 1073741824) : Gives (t__law_take many) (fun r => 0 ≤ r ∧ r < many) DI := fun ds hd => by
  cases ds with
  | none => exact hd.elim
  | some s =>
    refine ⟨_, _, if_pos ⟨hd, h0, h1⟩, ?_, Int.emod_nonneg _ (by omega), Int.emod_lt_of_pos _ h0⟩
    show -1 ≤ (tCur s).place
    exact tCur_place hd
end Lw

/-! Tk53: the typed layer of the law's defs. -/
namespace Lw
open PySem PySem.Spec L2 DL

def t__law_odd_box  : TM PyData := (TM.tlet ([(eU ()), ((eT PyData.int) ([] : (List Int))), (PyData.int (5 : Int)), ((eL (e2 (e2 PyData.int PyData.int) (e2 PyData.int PyData.int))) [(((0 : Int), (0 : Int)), ((0 : Int), (0 : Int)))]), ((e1 (e1 (e2 PyData.int PyData.int))) ((0 : Int), (0 : Int))), ((e1 (e2 (e2 PyData.int PyData.int) (e2 PyData.int PyData.int))) (((1 : Int), (0 : Int)), ((0 : Int), (0 : Int)))), ((e1 (e2 (e2 PyData.int PyData.int) (e2 PyData.int PyData.int))) (((0 : Int), (2 : Int)), ((0 : Int), (0 : Int)))), ((e1 (e2 (e2 PyData.int PyData.bool) (e2 PyData.int PyData.int))) (((0 : Int), true), ((0 : Int), (0 : Int)))), ((e1 (e3 (e2 PyData.int PyData.int) (e2 PyData.int PyData.int) (e2 PyData.int PyData.int))) (((0 : Int), (0 : Int)), ((0 : Int), (0 : Int)), ((0 : Int), (0 : Int)))), ((e1 (e2 (e2 PyData.int PyData.int) (e2 PyData.int PyData.int))) (((-(1 : Int)), (0 : Int)), ((0 : Int), (0 : Int))))] : (List PyData)) fun x1 => (((((TM.lift (repT [(((0 : Int), (0 : Int)), ((0 : Int), (0 : Int)))] (7 : Int))).bind fun x => TM.pure ((eT (e2 (e2 PyData.int PyData.int) (e2 PyData.int PyData.int))) x)).bind fun c2 => TM.pure [((e1 (eL (e2 PyData.int PyData.int))) [((0 : Int), (0 : Int)), ((0 : Int), (0 : Int))]), ((e1 (e2 (e2 PyData.int PyData.int) (eL PyData.int))) (((0 : Int), (0 : Int)), [(0 : Int), (0 : Int)])), c2, ((e1 (e2 (e1 PyData.int) (e2 PyData.int PyData.int))) ((0 : Int), ((0 : Int), (0 : Int)))), ((e1 eU) ())]).bind fun c3 => (TM.lift (catT x1 c3))).bind fun c4 => ((t__law_take (15 : Int)).bind fun c5 => (TM.lift (atI c4 c5)))))
set_option maxHeartbeats 4000000 in
theorem r__law_odd_box  : RF f__law_odd_box [.drw] (t__law_odd_box ) eA := rf_run (s_letV (x := [(eU ()), ((eT PyData.int) ([] : (List Int))), (PyData.int (5 : Int)), ((eL (e2 (e2 PyData.int PyData.int) (e2 PyData.int PyData.int))) [(((0 : Int), (0 : Int)), ((0 : Int), (0 : Int)))]), ((e1 (e1 (e2 PyData.int PyData.int))) ((0 : Int), (0 : Int))), ((e1 (e2 (e2 PyData.int PyData.int) (e2 PyData.int PyData.int))) (((1 : Int), (0 : Int)), ((0 : Int), (0 : Int)))), ((e1 (e2 (e2 PyData.int PyData.int) (e2 PyData.int PyData.int))) (((0 : Int), (2 : Int)), ((0 : Int), (0 : Int)))), ((e1 (e2 (e2 PyData.int PyData.bool) (e2 PyData.int PyData.int))) (((0 : Int), true), ((0 : Int), (0 : Int)))), ((e1 (e3 (e2 PyData.int PyData.int) (e2 PyData.int PyData.int) (e2 PyData.int PyData.int))) (((0 : Int), (0 : Int)), ((0 : Int), (0 : Int)), ((0 : Int), (0 : Int)))), ((e1 (e2 (e2 PyData.int PyData.int) (e2 PyData.int PyData.int))) (((-(1 : Int)), (0 : Int)), ((0 : Int), (0 : Int))))]) (e := (eL eA)) (v_F (v_lst (v_cons v_c (v_cons (v_tup v_nil) (v_cons v_c (v_cons (v_F (v_lst (v_cons (v_tup (v_cons (v_tup (v_cons v_c (v_cons v_c v_nil))) (v_cons (v_tup (v_cons v_c (v_cons v_c v_nil))) v_nil))) v_nil))) (v_cons (v_tup (v_cons (v_tup (v_cons (v_tup (v_cons v_c (v_cons v_c v_nil))) v_nil)) v_nil)) (v_cons (v_tup (v_cons (v_tup (v_cons (v_tup (v_cons v_c (v_cons v_c v_nil))) (v_cons (v_tup (v_cons v_c (v_cons v_c v_nil))) v_nil))) v_nil)) (v_cons (v_tup (v_cons (v_tup (v_cons (v_tup (v_cons v_c (v_cons v_c v_nil))) (v_cons (v_tup (v_cons v_c (v_cons v_c v_nil))) v_nil))) v_nil)) (v_cons (v_tup (v_cons (v_tup (v_cons (v_tup (v_cons v_c (v_cons v_c v_nil))) (v_cons (v_tup (v_cons v_c (v_cons v_c v_nil))) v_nil))) v_nil)) (v_cons (v_tup (v_cons (v_tup (v_cons (v_tup (v_cons v_c (v_cons v_c v_nil))) (v_cons (v_tup (v_cons v_c (v_cons v_c v_nil))) (v_cons (v_tup (v_cons v_c (v_cons v_c v_nil))) v_nil)))) v_nil)) (v_cons (v_tup (v_cons (v_tup (v_cons (v_tup (v_cons (v_un v_c (o_neg (1 : Int))) (v_cons v_c v_nil))) (v_cons (v_tup (v_cons v_c (v_cons v_c v_nil))) v_nil))) v_nil)) v_nil)))))))))))) rfl fun x1 => by exact (s_end (s_retR (re_bind (rv_bind (v_v rfl) (re_bind (c_F (e' := (eL eA)) (k_cons (v_tup (v_cons (v_F (v_lst (v_cons (v_tup (v_cons v_c (v_cons v_c v_nil))) (v_cons (v_tup (v_cons v_c (v_cons v_c v_nil))) v_nil)))) v_nil)) (k_cons (v_tup (v_cons (v_tup (v_cons (v_tup (v_cons v_c (v_cons v_c v_nil))) (v_cons (v_F (v_lst (v_cons v_c (v_cons v_c v_nil)))) v_nil))) v_nil)) (k_consC (RE.mapE (eT (e2 (e2 PyData.int PyData.int) (e2 PyData.int PyData.int))) (rv_bind (v_tup (v_cons (v_tup (v_cons (v_tup (v_cons v_c (v_cons v_c v_nil))) (v_cons (v_tup (v_cons v_c (v_cons v_c v_nil))) v_nil))) v_nil)) (rv_bind v_c (re_lift (o_repT (e2 (e2 PyData.int PyData.int) (e2 PyData.int PyData.int)) [(((0 : Int), (0 : Int)), ((0 : Int), (0 : Int)))] (7 : Int))))) fun _ => rfl) fun c2 => (k_cons (v_tup (v_cons (v_tup (v_cons (v_tup (v_cons v_c v_nil)) (v_cons (v_tup (v_cons v_c (v_cons v_c v_nil))) v_nil))) v_nil)) (k_cons (v_tup (v_cons v_c v_nil)) (k_nil (k_lst (e := (List.map eA)) (p := [((e1 (eL (e2 PyData.int PyData.int))) [((0 : Int), (0 : Int)), ((0 : Int), (0 : Int))]), ((e1 (e2 (e2 PyData.int PyData.int) (eL PyData.int))) (((0 : Int), (0 : Int)), [(0 : Int), (0 : Int)])), c2, ((e1 (e2 (e1 PyData.int) (e2 PyData.int PyData.int))) ((0 : Int), ((0 : Int), (0 : Int)))), ((e1 eU) ())]))))))))) fun c3 => (re_lift (o_addL eA x1 c3)))) fun c4 => (re_bind (c_call (x_v rfl (x_d v_c (x_nil (x_fin (r__law_take (15 : Int))))))) fun c5 => (re_lift (o_ixL eA c4 c5)))))))
def t__law_order_c1  : ((List Int) × (List Int)) → TM Bool := fun (l2 : ((List Int) × (List Int))) => (TM.pure (!decide (l2.1 = ([] : (List Int)))))
def t__law_order_f2  : ((List Int) × (List Int)) → TM ((List Int) × (List Int)) := fun (l2 : ((List Int) × (List Int))) => ((t__law_take (l2.1.length : Int)).bind fun c5 => (TM.lift (popT l2.1 c5)).bind fun p6 => (TM.lift (appT l2.2 p6.1)).bind fun x3 => (fun x3 x4 => TM.pure (x4, x3)) x3 p6.2)
def t__law_order (a_many : Int) : TM (List Int) := ((TM.lift (rngL 0 a_many)).bind fun x1 => ((TM.whileT t__law_order_c1 t__law_order_f2 1000 (x1, ([] : (List Int)))).bind fun l2 => TM.pure l2.2))
set_option maxHeartbeats 4000000 in
theorem r__law_order (a_many : Int) : RF f__law_order [.drw, .d (PyData.int a_many)] (t__law_order a_many) (eL PyData.int) := rf_run (s_exC (c_rgL1V (v_v rfl)) fun x1 => by exact (s_exV (v_lst v_nil) (by exact (s_putS rfl rfl (by exact (s_while (k := (fun (l2 : ((List Int) × (List Int))) => [.v .drw, .v (.d (PyData.int a_many)), .v (.l (List.map PyData.int l2.1)), .v (.l (List.map PyData.int l2.2))])) (l0 := (x1, ([] : (List Int)))) (by exact (.cons .r (.cons .r (.cons .r (.cons .r .nil))))) (fun l2 => (RV.re (e := id) (x := (!decide (l2.1 = ([] : (List Int))))) (v_tst (v_op (v_vp rfl) (v_F (v_lst v_nil)) (o_ne (eqE_L eqE_int) l2.1 ([] : (List Int))))))) (fun l2 => by exact (s_end (s_appPop (tr := (fun x3 x4 => TM.pure (x4, x3))) rfl rfl (c_call (x_v rfl (x_d (v_un (v_vp rfl) (o_lenL PyData.int l2.1)) (x_nil (x_fin (r__law_take (l2.1.length : Int))))))) (by decide) fun x3 x4 => by exact (s_skip (l := (x4, x3)) (.cons .r (.cons .r (.cons .r (.cons .r .nil)))))))) (fun l2 => by exact (s_end (s_retL (r := l2.2) rfl (.inl rfl))))))))))
def t__law_box_f1 (x2 : Int) (x3 : Int) : (List ((Int × Int) × (Int × Int))) → Int → TM (List ((Int × Int) × (Int × Int))) := fun (l4 : (List ((Int × Int) × (Int × Int)))) (y5 : Int) => (((TM.lift (rngT 0 (2 : Int))).bind fun z9 => TM.compL (fun y6 => (TM.pure true)) (fun y6 => ((t__law_take x2).bind fun c7 => ((t__law_take (2 : Int)).bind fun c8 => TM.pure (c7, c8)))) z9).bind fun x10 => (((if (decide (x3 = (0 : Int))) then ((TM.compL (fun y12 => (TM.pure true)) (fun y12 => (((TM.lift (atI x10 (0 : Int))).bind fun c13 => TM.pure c13.2).bind fun c14 => TM.pure (y12.1, c14))) x10).bind fun x15 => TM.pure x15) else TM.pure x10) : TM (List (Int × Int))).bind fun l11 => ((TM.lift (lst2 l11)).bind fun c17 => (TM.lift (appT l4 c17)).bind fun x16 => TM.pure x16)))
def t__law_box (a_most : Int) : TM (List ((Int × Int) × (Int × Int))) := (((t__law_take a_most).bind fun c1 => TM.pure ((1 : Int) + c1)).bind fun x2 => ((t__law_take (4 : Int)).bind fun x3 => ((TM.lift (rngT 0 x2)).bind fun z35 => (TM.forT (t__law_box_f1 x2 x3) z35 ([] : (List ((Int × Int) × (Int × Int))))).bind fun l4 => (((if (decide (x3 = (1 : Int))) then (((t__law_order x2).bind fun c19 => ((t__law_order x2).bind fun c20 => TM.pure (c19, c20))).bind fun x21 => (((TM.lift (rngT 0 x2)).bind fun z33 => TM.compL (fun y22 => (TM.pure true)) (fun y22 => (((TM.lift (atI x21.1 y22)).bind fun c25 => ((((TM.lift (atI l4 y22)).bind fun c23 => TM.pure c23.1).bind fun c24 => TM.pure c24.2).bind fun c26 => TM.pure (c25, c26))).bind fun c31 => (((TM.lift (atI x21.2 y22)).bind fun c29 => ((((TM.lift (atI l4 y22)).bind fun c27 => TM.pure c27.2).bind fun c28 => TM.pure c28.2).bind fun c30 => TM.pure (c29, c30))).bind fun c32 => TM.pure (c31, c32)))) z33).bind fun x34 => TM.pure x34)) else TM.pure l4) : TM (List ((Int × Int) × (Int × Int)))).bind fun l18 => TM.pure l18))))
set_option maxHeartbeats 4000000 in
theorem r__law_box (a_most : Int) : RF f__law_box [.drw, .d (PyData.int a_most)] (t__law_box a_most) (eT (e2 (e2 PyData.int PyData.int) (e2 PyData.int PyData.int))) := rf_run (s_setC (rv_bind v_c (re_bind (c_call (x_v rfl (x_d (v_v rfl) (x_nil (x_fin (r__law_take a_most)))))) fun c1 => (re_liftP (o_add (1 : Int) c1)))) rfl fun x2 => by exact (s_setC (c_call (x_v rfl (x_d v_c (x_nil (x_fin (r__law_take (4 : Int))))))) rfl fun x3 => by exact (s_setLV (v_lst v_nil) rfl (by exact (s_for (ea := PyData.int) (k := (fun (l4 : (List ((Int × Int) × (Int × Int)))) => [.v .drw, .v (.d (PyData.int a_most)), .v (.d (PyData.int x2)), .v (.d (PyData.int x3)), .v (.l (List.map (e2 (e2 PyData.int PyData.int) (e2 PyData.int PyData.int)) l4)), .j, .j, .v .un, .v .un, .v .un, .v .un, .v .un, .v .un])) (l0 := ([] : (List ((Int × Int) × (Int × Int))))) (c_rng1V (v_v rfl)) (by exact (.cons .r (.cons .r (.cons .r (.cons .r (.cons .r (.cons .u (.cons .u (.cons .r (.cons .r (.cons .r (.cons .r (.cons .r (.cons .r .nil)))))))))))))) (fun l4 y5 => (tk_name rfl)) (fun l4 y5 => by exact (s_setC (c_F (e' := (eL (e2 PyData.int PyData.int))) (c_comp (ea := PyData.int) (p := fun y6 => (TM.pure true)) (g := fun y6 => ((t__law_take x2).bind fun c7 => ((t__law_take (2 : Int)).bind fun c8 => TM.pure (c7, c8)))) (e := (e2 PyData.int PyData.int)) (c_rng1V v_c) rfl (fun y6 => (tk_name rfl)) (fun y6 => (RV.re (e := id) (x := true) v_yes)) (fun y6 => (k_consC (c_call (x_v rfl (x_d (v_v rfl) (x_nil (x_fin (r__law_take x2)))))) fun c7 => (k_consC (c_call (x_v rfl (x_d v_c (x_nil (x_fin (r__law_take (2 : Int))))))) fun c8 => (k_nil (k_tup (e := (e2 PyData.int PyData.int)) (p := (c7, c8))))))))) rfl fun x10 => by exact (s_seq (k := (fun (l11 : (List (Int × Int))) => [.v .drw, .v (.d (PyData.int a_most)), .v (.d (PyData.int x2)), .v (.d (PyData.int x3)), .v (.l (List.map (e2 (e2 PyData.int PyData.int) (e2 PyData.int PyData.int)) l4)), .v (.d (PyData.int y5)), .v (.d ((eL (e2 PyData.int PyData.int)) l11)), .v .un, .v .un, .v .un, .v .un, .v .un, .v .un])) (by exact (s_end (s_ifV (v_tst (v_op (v_v rfl) v_c (o_eq eqE_int x3 (0 : Int)))) (by exact (s_setC (c_F (e' := (eL (e2 PyData.int PyData.int))) (c_compI (ea := (e2 PyData.int PyData.int)) (p := fun y12 => (TM.pure true)) (g := fun y12 => (((TM.lift (atI x10 (0 : Int))).bind fun c13 => TM.pure c13.2).bind fun c14 => TM.pure (y12.1, c14))) (e := (e2 PyData.int PyData.int)) (v_items (v_v rfl) rfl) rfl (fun y12 => (tk_tup (tks_cons (tk_name rfl) (tks_cons (tk_name rfl) tks_nil)))) (fun y12 => (RV.re (e := id) (x := true) v_yes)) (fun y12 => (k_cons (v_v rfl) (k_consC (re_bind (rv_bind (v_v rfl) (rv_bind v_c (re_lift (o_ixL (e2 PyData.int PyData.int) x10 (0 : Int))))) fun c13 => (rv_bind v_c (re_liftP rfl))) fun c14 => (k_nil (k_tup (e := (e2 PyData.int PyData.int)) (p := (y12.1, c14))))))))) rfl fun x15 => by exact (s_skip (l := x15) (.cons .r (.cons .r (.cons .r (.cons .r (.cons .r (.cons .r (.cons .r (.cons .r (.cons .r (.cons .r (.cons .r (.cons .r (.cons .r .nil)))))))))))))))) (by exact (s_skipS (s_skip (l := x10) (.cons .r (.cons .r (.cons .r (.cons .r (.cons .r (.cons .r (.cons .r (.cons .r (.cons .r (.cons .r (.cons .r (.cons .r (.cons .r .nil))))))))))))))))))) fun l11 => by exact (s_end (s_appC rfl (RE.castGV (g := lst2) (e := eT (e2 PyData.int PyData.int)) (v_un (v_v rfl) rfl) lst2_e) fun x16 => by exact (s_skip (l := x16) (.cons .r (.cons .r (.cons .r (.cons .r (.cons .r (.cons .d (.cons .d (.cons .r (.cons .r (.cons .r (.cons .r (.cons .r (.cons .r .nil))))))))))))))))))) (fun l4 => by exact (s_seq (k := (fun (l18 : (List ((Int × Int) × (Int × Int)))) => [.v .drw, .v (.d (PyData.int a_most)), .v (.d (PyData.int x2)), .v (.d (PyData.int x3)), .v (.l (List.map (e2 (e2 PyData.int PyData.int) (e2 PyData.int PyData.int)) l18)), .j, .j, .j, .j, .v .un, .v .un, .v .un, .v .un])) (by exact (s_end (s_ifV (v_tst (v_op (v_v rfl) v_c (o_eq eqE_int x3 (1 : Int)))) (by exact (s_assoc (s_asgC (k_consC (c_call (x_v rfl (x_d (v_v rfl) (x_nil (x_fin (r__law_order x2)))))) fun c19 => (k_consC (c_call (x_v rfl (x_d (v_v rfl) (x_nil (x_fin (r__law_order x2)))))) fun c20 => (k_nil (k_tup (e := (e2 (eL PyData.int) (eL PyData.int))) (p := (c19, c20)))))) (fun x21 => (tk_tup (tks_cons (tk_name rfl) (tks_cons (tk_name rfl) tks_nil)))) fun x21 => by exact (s_setLC (c_comp (ea := PyData.int) (p := fun y22 => (TM.pure true)) (g := fun y22 => (((TM.lift (atI x21.1 y22)).bind fun c25 => ((((TM.lift (atI l4 y22)).bind fun c23 => TM.pure c23.1).bind fun c24 => TM.pure c24.2).bind fun c26 => TM.pure (c25, c26))).bind fun c31 => (((TM.lift (atI x21.2 y22)).bind fun c29 => ((((TM.lift (atI l4 y22)).bind fun c27 => TM.pure c27.2).bind fun c28 => TM.pure c28.2).bind fun c30 => TM.pure (c29, c30))).bind fun c32 => TM.pure (c31, c32)))) (e := (e2 (e2 PyData.int PyData.int) (e2 PyData.int PyData.int))) (c_rng1V (v_v rfl)) rfl (fun y22 => (tk_name rfl)) (fun y22 => (RV.re (e := id) (x := true) v_yes)) (fun y22 => (k_consC (k_consC (rv_bind (v_v rfl) (rv_bind (v_v rfl) (re_lift (o_ixL PyData.int x21.1 y22)))) fun c25 => (k_consC (re_bind (re_bind (rv_bind (v_vp rfl) (rv_bind (v_v rfl) (re_lift (o_ixL (e2 (e2 PyData.int PyData.int) (e2 PyData.int PyData.int)) l4 y22)))) fun c23 => (rv_bind v_c (re_liftP rfl))) fun c24 => (rv_bind v_c (re_liftP rfl))) fun c26 => (k_nil (k_tup (e := (e2 PyData.int PyData.int)) (p := (c25, c26)))))) fun c31 => (k_consC (k_consC (rv_bind (v_v rfl) (rv_bind (v_v rfl) (re_lift (o_ixL PyData.int x21.2 y22)))) fun c29 => (k_consC (re_bind (re_bind (rv_bind (v_vp rfl) (rv_bind (v_v rfl) (re_lift (o_ixL (e2 (e2 PyData.int PyData.int) (e2 PyData.int PyData.int)) l4 y22)))) fun c27 => (rv_bind v_c (re_liftP rfl))) fun c28 => (rv_bind v_c (re_liftP rfl))) fun c30 => (k_nil (k_tup (e := (e2 PyData.int PyData.int)) (p := (c29, c30)))))) fun c32 => (k_nil (k_tup (e := (e2 (e2 PyData.int PyData.int) (e2 PyData.int PyData.int))) (p := (c31, c32)))))))) rfl fun x34 => by exact (s_skip (l := x34) (.cons .r (.cons .r (.cons .r (.cons .r (.cons .r (.cons .r (.cons .r (.cons .d (.cons .d (.cons .r (.cons .r (.cons .r (.cons .r .nil)))))))))))))))))) (by exact (s_skipS (s_skip (l := l4) (.cons .r (.cons .r (.cons .r (.cons .r (.cons .r (.cons .r (.cons .r (.cons .u (.cons .u (.cons .r (.cons .r (.cons .r (.cons .r .nil))))))))))))))))))) fun l18 => by exact (s_end (s_retV (r := l18) (v_un (v_vp rfl) rfl) (.inl rfl))))))))))
def t__law_partitions_f1  : (List (List Int)) → (List Int) → TM (List (List Int)) := fun (l3 : (List (List Int))) (y4 : (List Int)) => (((((((TM.lift (catT y4 [(-(1 : Int))])).bind fun c5 => (TM.lift (maxT c5))).bind fun c6 => TM.pure (c6 + (2 : Int))).bind fun j => TM.lift (rngT 0 j)).bind fun z8 => TM.compL (fun y7 => (TM.pure true)) (fun y7 => (TM.lift (catT y4 [y7]))) z8).bind fun c9 => (TM.lift (catT l3 c9))).bind fun x10 => TM.pure x10)
def t__law_partitions_f2  : (List (List Int)) → Int → TM (List (List Int)) := fun (l1 : (List (List Int))) (y2 : Int) => ((TM.forT t__law_partitions_f1 l1 ([] : (List (List Int)))).bind fun l3 => TM.pure l3)
def t__law_partitions (a_many : Int) : TM (List (List Int)) := ((TM.lift (rngT 0 a_many)).bind fun z11 => (TM.forT t__law_partitions_f2 z11 [([] : (List Int))]).bind fun l1 => TM.pure l1)
set_option maxHeartbeats 4000000 in
theorem r__law_partitions (a_many : Int) : RF f__law_partitions [.d (PyData.int a_many)] (t__law_partitions a_many) (eL (eT PyData.int)) := rf_run (s_setV (y := (eL (eT PyData.int)) [([] : (List Int))]) (v_F (v_lst (v_cons (v_tup v_nil) v_nil))) rfl (by exact (s_for (ea := PyData.int) (k := (fun (l1 : (List (List Int))) => [.v (.d (PyData.int a_many)), .v (.d ((eL (eT PyData.int)) l1)), .j, .j, .j, .v .un])) (l0 := [([] : (List Int))]) (c_rng1V (v_v rfl)) (by exact (.cons .r (.cons .r (.cons .u (.cons .u (.cons .u (.cons .r .nil))))))) (fun l1 y2 => (tk_name rfl)) (fun l1 y2 => by exact (s_setV (y := (eL (eT PyData.int)) ([] : (List (List Int)))) (v_F (v_lst v_nil)) rfl (by exact (s_forI (ea := (eT PyData.int)) (k := (fun (l3 : (List (List Int))) => [.v (.d (PyData.int a_many)), .v (.d ((eL (eT PyData.int)) l1)), .v (.d (PyData.int y2)), .v (.d ((eL (eT PyData.int)) l3)), .j, .v .un])) (l0 := ([] : (List (List Int)))) (v_items (v_v rfl) rfl) (by exact (.cons .r (.cons .r (.cons .r (.cons .r (.cons .r (.cons .r .nil))))))) (fun l3 y4 => (tk_name rfl)) (fun l3 y4 => by exact (s_end (s_setC (rv_bind (v_v rfl) (re_bind (c_F (e' := (eL (eT PyData.int))) (c_comp (ea := PyData.int) (p := fun y7 => (TM.pure true)) (g := fun y7 => (TM.lift (catT y4 [y7]))) (e := (eT PyData.int)) (c_rng1 (re_bind (re_bind (rv_bind (v_v rfl) (rv_bind (v_tup (v_cons (v_un v_c (o_neg (1 : Int))) v_nil)) (re_lift (o_addT PyData.int y4 [(-(1 : Int))])))) fun c5 => (re_lift (o_maxAT c5))) fun c6 => (rv_bind v_c (re_liftP (o_add c6 (2 : Int)))))) rfl (fun y7 => (tk_name rfl)) (fun y7 => (RV.re (e := id) (x := true) v_yes)) (fun y7 => (rv_bind (v_v rfl) (rv_bind (v_tup (v_cons (v_v rfl) v_nil)) (re_lift (o_addT PyData.int y4 [y7]))))))) fun c9 => (re_lift (o_addL (eT PyData.int) l3 c9)))) rfl fun x10 => by exact (s_skip (l := x10) (.cons .r (.cons .r (.cons .r (.cons .r (.cons .d (.cons .r .nil)))))))))) (fun l3 => by exact (s_end (s_setV (y := (eL (eT PyData.int)) l3) (v_v rfl) rfl (by exact (s_skip (l := l3) (.cons .r (.cons .r (.cons .d (.cons .d (.cons .r (.cons .r .nil))))))))))))))) (fun l1 => by exact (s_end (s_retV (r := l1) (v_v rfl) (.inl rfl)))))))
def t_is_whole (a_value : PyData) : TM Bool := ((TM.lift (isOf "int" a_value)).bind fun k2 => (if k2 then ((TM.lift (isOf "bool" a_value)).bind fun c1 => TM.pure (!c1)) else TM.pure false))
set_option maxHeartbeats 4000000 in
theorem r_is_whole (a_value : PyData) : RF f_is_whole [.d (eA a_value)] (t_is_whole a_value) PyData.bool := rf_run (s_end (s_retR (cc_andV (c_isiV (n := 0) (v_v rfl)) (re_bind (c_isiV (n := 1) (v_v rfl)) fun c1 => (re_liftP (o_notB c1))))))
def t_is_move (a_value : PyData) (a_many : Int) : TM Bool := ((((TM.lift (isOf "tuple" a_value)).bind fun k1 => TM.pure (!k1)).bind fun k8 => (if k8 then TM.pure true else (((TM.lift (lenA a_value)).bind fun c2 => TM.pure (!decide (c2 = (2 : Int)))).bind fun k7 => (if k7 then TM.pure true else ((((TM.lift (itemsOf a_value)).bind fun z4 => TM.compL (fun y3 => (TM.pure true)) (fun y3 => (t_is_whole y3)) z4).bind fun c5 => TM.pure (c5.all id)).bind fun k6 => TM.pure (!k6)))))).bind fun k16 => if k16 then TM.pure false else (((TM.pure (0 : Int)).bind fun c9 => ((TM.lift (fIx a_value (.int (0 : Int)))).bind fun d => TM.lift (asI d)).bind fun c10 => if (decide (c9 ≤ c10)) then (TM.pure a_many).bind fun c11 => TM.pure (decide (c10 < c11)) else TM.pure false).bind fun k15 => (if k15 then ((TM.pure (0 : Int)).bind fun c12 => ((TM.lift (fIx a_value (.int (1 : Int)))).bind fun d => TM.lift (asI d)).bind fun c13 => if (decide (c12 ≤ c13)) then (TM.pure (1 : Int)).bind fun c14 => TM.pure (decide (c13 ≤ c14)) else TM.pure false) else TM.pure false)))
set_option maxHeartbeats 4000000 in
theorem r_is_move (a_value : PyData) (a_many : Int) : RF f_is_move [.d (eA a_value), .d (PyData.int a_many)] (t_is_move a_value a_many) PyData.bool := rf_run (s_ifC (cc_or (c_not (c_tst (c_isiV (n := 2) (v_v rfl)))) (cc_or (c_tst (re_bind (rv_bind (v_v rfl) (re_lift (o_lenA a_value))) fun c2 => (rv_bind v_c (re_liftP (o_ne eqE_int c2 (2 : Int)))))) (c_not (c_tst (re_bind (c_F (e' := (eL PyData.bool)) (c_comp (ea := eA) (p := fun y3 => (TM.pure true)) (g := fun y3 => (t_is_whole y3)) (e := PyData.bool) (c_itemsA (v_v rfl)) rfl (fun y3 => (tk_name rfl)) (fun y3 => (RV.re (e := id) (x := true) v_yes)) (fun y3 => (c_call (x_d (v_v rfl) (x_nil (x_fin (r_is_whole y3)))))))) fun c5 => (re_liftP (o_all c5))))))) (by exact (s_retV (r := false) v_c (.inl rfl))) (by exact (s_skipS (s_end (s_retR (cc_andV (c_chain (p := fun c9 c10 => (decide (c9 ≤ c10))) (q := fun c10 c11 => (decide (c10 < c11))) (RV.re (e := PyData.int) (x := (0 : Int)) v_c) (RE.cast (g := asI) (rv_bind (v_v rfl) (rv_bind v_c (re_lift (o_idA (fIx a_value (.int (0 : Int))))))) fun _ _ h => (asI_ok h).symm) (fun c9 c10 => (o_le c9 c10)) (RV.re (e := PyData.int) (x := a_many) (v_v rfl)) (fun c10 c11 => (o_lt c10 c11))) (c_chain (p := fun c12 c13 => (decide (c12 ≤ c13))) (q := fun c13 c14 => (decide (c13 ≤ c14))) (RV.re (e := PyData.int) (x := (0 : Int)) v_c) (RE.cast (g := asI) (rv_bind (v_v rfl) (rv_bind v_c (re_lift (o_idA (fIx a_value (.int (1 : Int))))))) fun _ _ h => (asI_ok h).symm) (fun c12 c13 => (o_le c12 c13)) (RV.re (e := PyData.int) (x := (1 : Int)) v_c) (fun c13 c14 => (o_le c13 c14)))))))))
def t_is_box (a_value : PyData) : TM Bool := ((((TM.lift (isOf "tuple" a_value)).bind fun k1 => TM.pure (!k1)).bind fun k6 => (if k6 then TM.pure true else (((TM.pure (1 : Int)).bind fun c2 => (TM.lift (lenA a_value)).bind fun c3 => if (decide (c2 ≤ c3)) then (TM.pure (5 : Int)).bind fun c4 => TM.pure (decide (c3 ≤ c4)) else TM.pure false).bind fun k5 => TM.pure (!k5)))).bind fun k19 => if k19 then TM.pure false else (((((TM.lift (itemsOf a_value)).bind fun z10 => TM.compL (fun y7 => (TM.pure true)) (fun y7 => ((TM.lift (isOf "tuple" y7)).bind fun k9 => (if k9 then ((TM.lift (lenA y7)).bind fun c8 => TM.pure (decide (c8 = (2 : Int)))) else TM.pure false))) z10).bind fun c11 => TM.pure (c11.all id)).bind fun k12 => TM.pure (!k12)).bind fun k18 => if k18 then TM.pure false else (((TM.lift (itemsOf a_value)).bind fun z16 => comp2A (fun y13 => (TM.pure true)) (fun y13 => (TM.lift (itemsOf y13))) (fun y13 y14 => (TM.pure true)) (fun y13 y14 => ((TM.lift (lenA a_value)).bind fun c15 => (t_is_move y14 c15))) z16 []).bind fun c17 => TM.pure (c17.all id))))
set_option maxHeartbeats 4000000 in
theorem r_is_box (a_value : PyData) : RF f_is_box [.d (eA a_value)] (t_is_box a_value) PyData.bool := rf_run (s_ifC (cc_or (c_not (c_tst (c_isiV (n := 2) (v_v rfl)))) (c_not (c_tst (c_chain (p := fun c2 c3 => (decide (c2 ≤ c3))) (q := fun c3 c4 => (decide (c3 ≤ c4))) (RV.re (e := PyData.int) (x := (1 : Int)) v_c) (rv_bind (v_v rfl) (re_lift (o_lenA a_value))) (fun c2 c3 => (o_le c2 c3)) (RV.re (e := PyData.int) (x := (5 : Int)) v_c) (fun c3 c4 => (o_le c3 c4)))))) (by exact (s_retV (r := false) v_c (.inl rfl))) (by exact (s_skipS (s_ifC (c_not (c_tst (re_bind (c_F (e' := (eL PyData.bool)) (c_comp (ea := eA) (p := fun y7 => (TM.pure true)) (g := fun y7 => ((TM.lift (isOf "tuple" y7)).bind fun k9 => (if k9 then ((TM.lift (lenA y7)).bind fun c8 => TM.pure (decide (c8 = (2 : Int)))) else TM.pure false))) (e := PyData.bool) (c_itemsA (v_v rfl)) rfl (fun y7 => (tk_name rfl)) (fun y7 => (RV.re (e := id) (x := true) v_yes)) (fun y7 => (cc_andV (c_isiV (n := 2) (v_v rfl)) (re_bind (rv_bind (v_v rfl) (re_lift (o_lenA y7))) fun c8 => (rv_bind v_c (re_liftP (o_eq eqE_int c8 (2 : Int))))))))) fun c11 => (re_liftP (o_all c11))))) (by exact (s_retV (r := false) v_c (.inl rfl))) (by exact (s_skipS (s_end (s_retR (re_bind (c_F (e' := (eL PyData.bool)) (c_comp2 (p := (fun y13 => (TM.pure true))) (ti := (fun y13 => (TM.lift (itemsOf y13)))) (q := (fun y13 y14 => (TM.pure true))) (g := (fun y13 y14 => ((TM.lift (lenA a_value)).bind fun c15 => (t_is_move y14 c15)))) (ea := eA) (eb := eA) (e := PyData.bool) (c_itemsA (v_v rfl)) rfl (fun y13 => (tk_name rfl)) (fun y13 => (RV.re (e := id) (x := true) v_yes)) (fun y13 => (c_itemsA (v_v rfl))) (fun y13 => rfl) (fun y13 y14 => (tk_name rfl)) (fun y13 y14 => (RV.re (e := id) (x := true) v_yes)) (fun y13 y14 => (c_call (x_d (v_v rfl) (x_dC (rv_bind (v_v rfl) (re_lift (o_lenA a_value))) fun c15 => (x_nil (x_fin (r_is_move y14 c15))))))))) fun c17 => (re_liftP (o_all c17)))))))))))
def t_check_box (a_value : PyData) : TM Unit := (((t_is_box a_value).bind fun k1 => TM.pure (!k1)).bind fun k2 => if k2 then TM.raise .malformed else TM.pure ())
set_option maxHeartbeats 4000000 in
theorem r_check_box (a_value : PyData) : RF f_check_box [.d (eA a_value)] (t_check_box a_value) eU := rf_run (s_end (s_ifC (c_not (c_tst (c_call (x_d (v_v rfl) (x_nil (x_fin (r_is_box a_value))))))) (by exact s_raise) (by exact (s_skipS s_skipR))))
def t_all_partitions_f1  : (List (List Int)) → Int → TM (List (List Int)) := fun (l1 : (List (List Int))) (y2 : Int) => ((comp2A (fun y3 => (TM.pure true)) (fun y3 => (((TM.lift (setLenTT PyData.int y3)).bind fun c4 => TM.pure (c4 + (1 : Int))).bind fun j => TM.lift (rngT 0 j))) (fun y3 y5 => (TM.pure true)) (fun y3 y5 => (TM.lift (catT y3 [y5]))) l1 []).bind fun x6 => TM.pure x6)
def t_all_partitions (a_many : Int) : TM (List (List Int)) := ((TM.lift (rngT 0 a_many)).bind fun z7 => (TM.forT t_all_partitions_f1 z7 [([] : (List Int))]).bind fun l1 => TM.pure l1)
set_option maxHeartbeats 4000000 in
theorem r_all_partitions (a_many : Int) : RF f_all_partitions [.d (PyData.int a_many)] (t_all_partitions a_many) (eL (eT PyData.int)) := rf_run (s_setV (y := (eL (eT PyData.int)) [([] : (List Int))]) (v_F (v_lst (v_cons (v_tup v_nil) v_nil))) rfl (by exact (s_for (ea := PyData.int) (k := (fun (l1 : (List (List Int))) => [.v (.d (PyData.int a_many)), .v (.d ((eL (eT PyData.int)) l1)), .j, .v .un, .v .un])) (l0 := [([] : (List Int))]) (c_rng1V (v_v rfl)) (by exact (.cons .r (.cons .r (.cons .u (.cons .r (.cons .r .nil)))))) (fun l1 y2 => (tk_name rfl)) (fun l1 y2 => by exact (s_end (s_setC (c_F (e' := (eL (eT PyData.int))) (c_comp2I (p := (fun y3 => (TM.pure true))) (ti := (fun y3 => (((TM.lift (setLenTT PyData.int y3)).bind fun c4 => TM.pure (c4 + (1 : Int))).bind fun j => TM.lift (rngT 0 j)))) (q := (fun y3 y5 => (TM.pure true))) (g := (fun y3 y5 => (TM.lift (catT y3 [y5])))) (ea := (eT PyData.int)) (eb := PyData.int) (e := (eT PyData.int)) (v_items (v_v rfl) rfl) rfl (fun y3 => (tk_name rfl)) (fun y3 => (RV.re (e := id) (x := true) v_yes)) (fun y3 => (c_rng1 (re_bind (rv_bind (v_v rfl) (re_lift (o_setLenT eqE_int y3))) fun c4 => (rv_bind v_c (re_liftP (o_add c4 (1 : Int))))))) (fun y3 => rfl) (fun y3 y5 => (tk_name rfl)) (fun y3 y5 => (RV.re (e := id) (x := true) v_yes)) (fun y3 y5 => (rv_bind (v_v rfl) (rv_bind (v_tup (v_cons (v_v rfl) v_nil)) (re_lift (o_addT PyData.int y3 [y5]))))))) rfl fun x6 => by exact (s_skip (l := x6) (.cons .r (.cons .r (.cons .d (.cons .r (.cons .r .nil))))))))) (fun l1 => by exact (s_end (s_retV (r := l1) (v_v rfl) (.inl rfl)))))))
def t_does_keep_f1 (a_box : (List ((Int × Int) × (Int × Int)))) (a_value : (List Int)) (x1 : (List Int)) : Unit → Int → TM (Unit ⊕ Bool) := fun (l2 : Unit) (y3 : Int) => ((TM.compL (fun y4 => (TM.pure true)) (fun y4 => (((((TM.lift (atI a_box y4)).bind fun x => TM.pure [x.1, x.2]).bind fun c5 => (TM.lift (atI c5 y3))).bind fun c6 => TM.pure c6.1).bind fun c7 => (TM.lift (atI a_value c7)))) x1).bind fun x8 => ((((comp2A (fun y9 => (TM.pure true)) (fun y9 => (TM.pure x1)) (fun y9 y10 => ((TM.lift (atI a_value y9)).bind fun c11 => ((TM.lift (atI a_value y10)).bind fun c12 => TM.pure (decide (c11 = c12))))) (fun y9 y10 => ((TM.lift (atI x8 y9)).bind fun c13 => ((TM.lift (atI x8 y10)).bind fun c14 => TM.pure (decide (c13 = c14))))) x1 []).bind fun c15 => TM.pure (c15.all id)).bind fun k16 => TM.pure (!k16)).bind fun k17 => if k17 then TM.pure (Sum.inr false) else TM.pure (Sum.inl ())))
def t_does_keep (a_box : (List ((Int × Int) × (Int × Int)))) (a_value : (List Int)) : TM Bool := ((TM.lift (rngL 0 (a_box.length : Int))).bind fun x1 => (TM.bindB (TM.forB (t_does_keep_f1 a_box a_value x1) [0, 1] ()) (fun (l2 : Unit) => TM.pure true) (fun r => r)))
set_option maxHeartbeats 4000000 in
theorem r_does_keep (a_box : (List ((Int × Int) × (Int × Int)))) (a_value : (List Int)) : RF f_does_keep [.d ((eT (e2 (e2 PyData.int PyData.int) (e2 PyData.int PyData.int))) a_box), .d ((eT PyData.int) a_value)] (t_does_keep a_box a_value) PyData.bool := rf_run (s_setC (c_F (e' := (eL PyData.int)) (c_rgL1V (v_un (v_v rfl) (o_lenT (e2 (e2 PyData.int PyData.int) (e2 PyData.int PyData.int)) a_box)))) rfl fun x1 => by exact (s_forBI (e := PyData.bool) (g := fun r => r) (ea := PyData.int) (k := (fun (l2 : Unit) => [.v (.d ((eT (e2 (e2 PyData.int PyData.int) (e2 PyData.int PyData.int))) a_box)), .v (.d ((eT PyData.int) a_value)), .v (.d ((eL PyData.int) x1)), .j, .j, .v .un, .v .un, .v .un])) (l0 := ()) (v_items v_c rfl) (by exact (.cons .r (.cons .r (.cons .r (.cons .u (.cons .u (.cons .r (.cons .r (.cons .r .nil))))))))) (fun l2 y3 => (tk_name rfl)) (fun l2 y3 => by exact (s_setC (c_F (e' := (eL PyData.int)) (c_compI (ea := PyData.int) (p := fun y4 => (TM.pure true)) (g := fun y4 => (((((TM.lift (atI a_box y4)).bind fun x => TM.pure [x.1, x.2]).bind fun c5 => (TM.lift (atI c5 y3))).bind fun c6 => TM.pure c6.1).bind fun c7 => (TM.lift (atI a_value c7)))) (e := PyData.int) (v_items (v_v rfl) rfl) rfl (fun y4 => (tk_name rfl)) (fun y4 => (RV.re (e := id) (x := true) v_yes)) (fun y4 => (rv_bind (v_v rfl) (re_bind (re_bind (re_bind (RE.mapE (fun (x : ((Int × Int) × (Int × Int))) => [x.1, x.2]) (rv_bind (v_v rfl) (rv_bind (v_v rfl) (re_lift (o_ixT (e2 (e2 PyData.int PyData.int) (e2 PyData.int PyData.int)) a_box y4)))) fun _ => rfl) fun c5 => (rv_bind (v_v rfl) (re_lift (o_ixT (e2 PyData.int PyData.int) c5 y3)))) fun c6 => (rv_bind v_c (re_liftP rfl))) fun c7 => (re_lift (o_ixT PyData.int a_value c7))))))) rfl fun x8 => by exact (s_end (s_ifC (c_not (c_tst (re_bind (c_F (e' := (eL PyData.bool)) (c_comp2I (p := (fun y9 => (TM.pure true))) (ti := (fun y9 => (TM.pure x1))) (q := (fun y9 y10 => ((TM.lift (atI a_value y9)).bind fun c11 => ((TM.lift (atI a_value y10)).bind fun c12 => TM.pure (decide (c11 = c12)))))) (g := (fun y9 y10 => ((TM.lift (atI x8 y9)).bind fun c13 => ((TM.lift (atI x8 y10)).bind fun c14 => TM.pure (decide (c13 = c14)))))) (ea := PyData.int) (eb := PyData.int) (e := PyData.bool) (v_items (v_v rfl) rfl) rfl (fun y9 => (tk_name rfl)) (fun y9 => (RV.re (e := id) (x := true) v_yes)) (fun y9 => (RV.re (e := (List.map PyData.int)) (x := x1) (v_items (v_v rfl) rfl))) (fun y9 => rfl) (fun y9 y10 => (tk_name rfl)) (fun y9 y10 => (c_tst (re_bind (rv_bind (v_v rfl) (rv_bind (v_v rfl) (re_lift (o_ixT PyData.int a_value y9)))) fun c11 => (re_bind (rv_bind (v_v rfl) (rv_bind (v_v rfl) (re_lift (o_ixT PyData.int a_value y10)))) fun c12 => (re_liftP (o_eq eqE_int c11 c12)))))) (fun y9 y10 => (re_bind (rv_bind (v_v rfl) (rv_bind (v_v rfl) (re_lift (o_ixL PyData.int x8 y9)))) fun c13 => (re_bind (rv_bind (v_v rfl) (rv_bind (v_v rfl) (re_lift (o_ixL PyData.int x8 y10)))) fun c14 => (re_liftP (o_eq eqE_int c13 c14))))))) fun c15 => (re_liftP (o_all c15))))) (by exact (s_retV (r := Sum.inr false) v_c rfl)) (by exact (s_skipS (s_skipB (l := ()) (.cons .r (.cons .r (.cons .r (.cons .d (.cons .d (.cons .r (.cons .r (.cons .r .nil))))))))))))))) (fun l2 => by exact (s_end (s_retV (r := true) v_c (.inl rfl)))) (fun _ => .inl rfl)))
def t_found_kept (a_box : (List ((Int × Int) × (Int × Int)))) : TM (List (List Int)) := ((t_all_partitions (a_box.length : Int)).bind fun z2 => TM.compL (fun y1 => (t_does_keep a_box y1)) (fun y1 => (TM.pure y1)) z2)
set_option maxHeartbeats 4000000 in
theorem r_found_kept (a_box : (List ((Int × Int) × (Int × Int)))) : RF f_found_kept [.d ((eT (e2 (e2 PyData.int PyData.int) (e2 PyData.int PyData.int))) a_box)] (t_found_kept a_box) (eL (eT PyData.int)) := rf_run (s_end (s_retR (c_F (e' := (eL (eT PyData.int))) (c_comp (ea := (eT PyData.int)) (p := fun y1 => (t_does_keep a_box y1)) (g := fun y1 => (TM.pure y1)) (e := (eT PyData.int)) (c_items (e := List.map (eT PyData.int)) (c_call (x_d (v_un (v_v rfl) (o_lenT (e2 (e2 PyData.int PyData.int) (e2 PyData.int PyData.int)) a_box)) (x_nil (x_fin (r_all_partitions (a_box.length : Int)))))) fun _ => rfl) rfl (fun y1 => (tk_name rfl)) (fun y1 => (c_tst (c_call (x_d (v_v rfl) (x_d (v_v rfl) (x_nil (x_fin (r_does_keep a_box y1)))))))) (fun y1 => (RV.re (e := (eT PyData.int)) (x := y1) (v_v rfl)))))))
def t_kept_partitions (a_box : PyData) : TM (List (List Int)) := ((t_check_box a_box).bind fun u3 => (((TM.lift ((asT (as2 (as2 asI asI) (as2 asI asI))) a_box)).bind fun c1 => (t_found_kept c1)).bind fun c2 => TM.pure c2))
set_option maxHeartbeats 4000000 in
theorem r_kept_partitions (a_box : PyData) : RF f_kept_partitions [.d (eA a_box)] (t_kept_partitions a_box) (eT (eT PyData.int)) := rf_run (s_dropC (c_call (x_d (v_v rfl) (x_nil (x_fin (r_check_box a_box))))) fun u3 => by exact (s_end (s_retR (re_bind (c_call (x_dC (RE.castV (g := (asT (as2 (as2 asI asI) (as2 asI asI)))) (v_v rfl) (asT_e (as2_e (as2_e asI_e asI_e) (as2_e asI_e asI_e)))) fun c1 => (x_nil (x_fin (r_found_kept c1))))) fun c2 => (re_liftP rfl)))))
def t_splits_f1 (x1 : Int) (x6 : (List (List Int))) : (List ((List Int) × (List Int))) → (List Int) → TM (List ((List Int) × (List Int))) := fun (l7 : (List ((List Int) × (List Int)))) (y8 : (List Int)) => ((TM.compL (fun y9 => (if (HT.lexLt y8 y9) then (((TM.lift (zipT y8 y9)).bind fun c10 => (TM.lift (setLenT (e2 PyData.int PyData.int) c10))).bind fun c11 => TM.pure (decide (c11 = x1))) else TM.pure false)) (fun y9 => (TM.pure (y8, y9))) x6).bind fun c13 => (TM.lift (extT l7 c13)).bind fun x12 => TM.pure x12)
def t_splits (a_box : PyData) : TM (List ((List Int) × (List Int))) := ((t_check_box a_box).bind fun u14 => ((TM.lift (lenA a_box)).bind fun x1 => ((((TM.lift ((asT (as2 (as2 asI asI) (as2 asI asI))) a_box)).bind fun c2 => (t_found_kept c2)).bind fun z5 => TM.compL (fun y3 => ((TM.lift (setLenTT PyData.int y3)).bind fun c4 => TM.pure (decide (c4 < x1)))) (fun y3 => (TM.pure y3)) z5).bind fun x6 => ((TM.forT (t_splits_f1 x1 x6) x6 ([] : (List ((List Int) × (List Int))))).bind fun l7 => TM.pure l7))))
set_option maxHeartbeats 4000000 in
theorem r_splits (a_box : PyData) : RF f_splits [.d (eA a_box)] (t_splits a_box) (eT (e2 (eT PyData.int) (eT PyData.int))) := rf_run (s_dropC (c_call (x_d (v_v rfl) (x_nil (x_fin (r_check_box a_box))))) fun u14 => by exact (s_setC (rv_bind (v_v rfl) (re_lift (o_lenA a_box))) rfl fun x1 => by exact (s_setC (c_F (e' := (eL (eT PyData.int))) (c_comp (ea := (eT PyData.int)) (p := fun y3 => ((TM.lift (setLenTT PyData.int y3)).bind fun c4 => TM.pure (decide (c4 < x1)))) (g := fun y3 => (TM.pure y3)) (e := (eT PyData.int)) (c_items (e := List.map (eT PyData.int)) (c_call (x_dC (RE.castV (g := (asT (as2 (as2 asI asI) (as2 asI asI)))) (v_v rfl) (asT_e (as2_e (as2_e asI_e asI_e) (as2_e asI_e asI_e)))) fun c2 => (x_nil (x_fin (r_found_kept c2))))) fun _ => rfl) rfl (fun y3 => (tk_name rfl)) (fun y3 => (c_tst (re_bind (rv_bind (v_v rfl) (re_lift (o_setLenT eqE_int y3))) fun c4 => (rv_bind (v_v rfl) (re_liftP (o_lt c4 x1)))))) (fun y3 => (RV.re (e := (eT PyData.int)) (x := y3) (v_v rfl))))) rfl fun x6 => by exact (s_setLV (v_lst v_nil) rfl (by exact (s_forI (ea := (eT PyData.int)) (k := (fun (l7 : (List ((List Int) × (List Int)))) => [.v (.d (eA a_box)), .v (.d (PyData.int x1)), .v (.d ((eL (eT PyData.int)) x6)), .v (.l (List.map (e2 (eT PyData.int) (eT PyData.int)) l7)), .j, .v .un, .v .un])) (l0 := ([] : (List ((List Int) × (List Int))))) (v_items (v_v rfl) rfl) (by exact (.cons .r (.cons .r (.cons .r (.cons .r (.cons .u (.cons .r (.cons .r .nil)))))))) (fun l7 y8 => (tk_name rfl)) (fun l7 y8 => by exact (s_end (s_extC rfl (c_F (e' := (eL (e2 (eT PyData.int) (eT PyData.int)))) (c_compI (ea := (eT PyData.int)) (p := fun y9 => (if (HT.lexLt y8 y9) then (((TM.lift (zipT y8 y9)).bind fun c10 => (TM.lift (setLenT (e2 PyData.int PyData.int) c10))).bind fun c11 => TM.pure (decide (c11 = x1))) else TM.pure false)) (g := fun y9 => (TM.pure (y8, y9))) (e := (e2 (eT PyData.int) (eT PyData.int))) (v_items (v_v rfl) rfl) rfl (fun y9 => (tk_name rfl)) (fun y9 => (c_and (v_tst (v_op (v_v rfl) (v_v rfl) (o_ltR y8 y9))) (c_tst (re_bind (re_bind (c_F (e' := (eL (e2 PyData.int PyData.int))) (rv_bind (v_v rfl) (rv_bind (v_v rfl) (re_lift (o_zip PyData.int PyData.int y8 y9))))) fun c10 => (re_lift (o_setLenL (eqE_2 eqE_int eqE_int) c10))) fun c11 => (rv_bind (v_v rfl) (re_liftP (o_eq eqE_int c11 x1))))))) (fun y9 => (RV.re (e := (e2 (eT PyData.int) (eT PyData.int))) (x := (y8, y9)) (v_tup (v_cons (v_v rfl) (v_cons (v_v rfl) v_nil))))))) fun x12 => by exact (s_skip (l := x12) (.cons .r (.cons .r (.cons .r (.cons .r (.cons .d (.cons .r (.cons .r .nil))))))))))) (fun l7 => by exact (s_end (s_retV (r := l7) (v_un (v_vp rfl) rfl) (.inl rfl))))))))))
def t_numbered_f1  : (List Int) → Int → TM (List Int) := fun (l1 : (List Int)) (y2 : Int) => (if (!memT y2 l1) then ((TM.lift (appT l1 y2)).bind fun x3 => TM.pure x3) else TM.pure l1)
def t_numbered (a_labels : (List Int)) : TM (List Int) := ((TM.forT t_numbered_f1 a_labels ([] : (List Int))).bind fun l1 => ((TM.compL (fun y4 => (TM.pure true)) (fun y4 => (TM.lift (idxT l1 y4))) a_labels).bind fun c5 => TM.pure c5))
set_option maxHeartbeats 4000000 in
theorem r_numbered (a_labels : (List Int)) : RF f_numbered [.d ((eL PyData.int) a_labels)] (t_numbered a_labels) (eT PyData.int) := rf_run (s_setLV (v_lst v_nil) rfl (by exact (s_forI (ea := PyData.int) (k := (fun (l1 : (List Int)) => [.v (.d ((eL PyData.int) a_labels)), .v (.l (List.map PyData.int l1)), .j])) (l0 := ([] : (List Int))) (v_items (v_v rfl) rfl) (by exact (.cons .r (.cons .r (.cons .u .nil)))) (fun l1 y2 => (tk_name rfl)) (fun l1 y2 => by exact (s_end (s_ifV (v_tst (v_op (v_v rfl) (v_vp rfl) (o_ninL eqE_int y2 l1))) (by exact (s_appV (x := y2) (e := PyData.int) rfl (v_v rfl) rfl fun x3 => by exact (s_skip (l := x3) (.cons .r (.cons .r (.cons .d .nil)))))) (by exact (s_skipS (s_skip (l := l1) (.cons .r (.cons .r (.cons .d .nil))))))))) (fun l1 => by exact (s_end (s_retR (re_bind (c_F (e' := (eL PyData.int)) (c_compI (ea := PyData.int) (p := fun y4 => (TM.pure true)) (g := fun y4 => (TM.lift (idxT l1 y4))) (e := PyData.int) (v_items (v_v rfl) rfl) rfl (fun y4 => (tk_name rfl)) (fun y4 => (RV.re (e := id) (x := true) v_yes)) (fun y4 => (c_index (v_vp rfl) (v_v rfl) (o_index eqE_int _ _))))) fun c5 => (re_liftP rfl))))))))
def t_numbered_v2_f1  : (List (Int × Int)) → (Int × Int) → TM (List (Int × Int)) := fun (l1 : (List (Int × Int))) (y2 : (Int × Int)) => (if (!memT y2 l1) then ((TM.lift (appT l1 y2)).bind fun x3 => TM.pure x3) else TM.pure l1)
def t_numbered_v2 (a_labels : (List (Int × Int))) : TM (List Int) := ((TM.forT t_numbered_v2_f1 a_labels ([] : (List (Int × Int)))).bind fun l1 => ((TM.compL (fun y4 => (TM.pure true)) (fun y4 => (TM.lift (idxT l1 y4))) a_labels).bind fun c5 => TM.pure c5))
set_option maxHeartbeats 4000000 in
theorem r_numbered_v2 (a_labels : (List (Int × Int))) : RF f_numbered [.d ((eL (e2 PyData.int PyData.int)) a_labels)] (t_numbered_v2 a_labels) (eT PyData.int) := rf_run (s_setLV (v_lst v_nil) rfl (by exact (s_forI (ea := (e2 PyData.int PyData.int)) (k := (fun (l1 : (List (Int × Int))) => [.v (.d ((eL (e2 PyData.int PyData.int)) a_labels)), .v (.l (List.map (e2 PyData.int PyData.int) l1)), .j])) (l0 := ([] : (List (Int × Int)))) (v_items (v_v rfl) rfl) (by exact (.cons .r (.cons .r (.cons .u .nil)))) (fun l1 y2 => (tk_name rfl)) (fun l1 y2 => by exact (s_end (s_ifV (v_tst (v_op (v_v rfl) (v_vp rfl) (o_ninL (eqE_2 eqE_int eqE_int) y2 l1))) (by exact (s_appV (x := y2) (e := (e2 PyData.int PyData.int)) rfl (v_v rfl) rfl fun x3 => by exact (s_skip (l := x3) (.cons .r (.cons .r (.cons .d .nil)))))) (by exact (s_skipS (s_skip (l := l1) (.cons .r (.cons .r (.cons .d .nil))))))))) (fun l1 => by exact (s_end (s_retR (re_bind (c_F (e' := (eL PyData.int)) (c_compI (ea := (e2 PyData.int PyData.int)) (p := fun y4 => (TM.pure true)) (g := fun y4 => (TM.lift (idxT l1 y4))) (e := PyData.int) (v_items (v_v rfl) rfl) rfl (fun y4 => (tk_name rfl)) (fun y4 => (RV.re (e := id) (x := true) v_yes)) (fun y4 => (c_index (v_vp rfl) (v_v rfl) (o_index (eqE_2 eqE_int eqE_int) _ _))))) fun c5 => (re_liftP rfl))))))))
def t_numbered_v3_f1  : (List Int) → Int → TM (List Int) := fun (l1 : (List Int)) (y2 : Int) => (if (!memT y2 l1) then ((TM.lift (appT l1 y2)).bind fun x3 => TM.pure x3) else TM.pure l1)
def t_numbered_v3 (a_labels : (List Int)) : TM (List Int) := ((TM.forT t_numbered_v3_f1 a_labels ([] : (List Int))).bind fun l1 => ((TM.compL (fun y4 => (TM.pure true)) (fun y4 => (TM.lift (idxT l1 y4))) a_labels).bind fun c5 => TM.pure c5))
set_option maxHeartbeats 4000000 in
theorem r_numbered_v3 (a_labels : (List Int)) : RF f_numbered [.d ((eT PyData.int) a_labels)] (t_numbered_v3 a_labels) (eT PyData.int) := rf_run (s_setLV (v_lst v_nil) rfl (by exact (s_forI (ea := PyData.int) (k := (fun (l1 : (List Int)) => [.v (.d ((eT PyData.int) a_labels)), .v (.l (List.map PyData.int l1)), .j])) (l0 := ([] : (List Int))) (v_items (v_v rfl) rfl) (by exact (.cons .r (.cons .r (.cons .u .nil)))) (fun l1 y2 => (tk_name rfl)) (fun l1 y2 => by exact (s_end (s_ifV (v_tst (v_op (v_v rfl) (v_vp rfl) (o_ninL eqE_int y2 l1))) (by exact (s_appV (x := y2) (e := PyData.int) rfl (v_v rfl) rfl fun x3 => by exact (s_skip (l := x3) (.cons .r (.cons .r (.cons .d .nil)))))) (by exact (s_skipS (s_skip (l := l1) (.cons .r (.cons .r (.cons .d .nil))))))))) (fun l1 => by exact (s_end (s_retR (re_bind (c_F (e' := (eL PyData.int)) (c_compI (ea := PyData.int) (p := fun y4 => (TM.pure true)) (g := fun y4 => (TM.lift (idxT l1 y4))) (e := PyData.int) (v_items (v_v rfl) rfl) rfl (fun y4 => (tk_name rfl)) (fun y4 => (RV.re (e := id) (x := true) v_yes)) (fun y4 => (c_index (v_vp rfl) (v_v rfl) (o_index eqE_int _ _))))) fun c5 => (re_liftP rfl))))))))
def t_is_partition (a_box : PyData) (a_value : PyData) : TM Bool := ((((TM.lift (isOf "tuple" a_value)).bind fun k1 => TM.pure (!k1)).bind fun k9 => (if k9 then TM.pure true else (((TM.lift (lenA a_value)).bind fun c2 => ((TM.lift (lenA a_box)).bind fun c3 => TM.pure (!decide (c2 = c3)))).bind fun k8 => (if k8 then TM.pure true else ((((TM.lift (itemsOf a_value)).bind fun z5 => TM.compL (fun y4 => (TM.pure true)) (fun y4 => (t_is_whole y4)) z5).bind fun c6 => TM.pure (c6.all id)).bind fun k7 => TM.pure (!k7)))))).bind fun k12 => if k12 then TM.pure false else ((((TM.lift ((asT asI) a_value)).bind fun c10 => (t_numbered_v3 c10)).bind fun x => TM.pure ((eT PyData.int) x)).bind fun c11 => (TM.lift (eqA c11 a_value))))
set_option maxHeartbeats 4000000 in
theorem r_is_partition (a_box : PyData) (a_value : PyData) : RF f_is_partition [.d (eA a_box), .d (eA a_value)] (t_is_partition a_box a_value) PyData.bool := rf_run (s_ifC (cc_or (c_not (c_tst (c_isiV (n := 2) (v_v rfl)))) (cc_or (c_tst (re_bind (rv_bind (v_v rfl) (re_lift (o_lenA a_value))) fun c2 => (re_bind (rv_bind (v_v rfl) (re_lift (o_lenA a_box))) fun c3 => (re_liftP (o_ne eqE_int c2 c3))))) (c_not (c_tst (re_bind (c_F (e' := (eL PyData.bool)) (c_comp (ea := eA) (p := fun y4 => (TM.pure true)) (g := fun y4 => (t_is_whole y4)) (e := PyData.bool) (c_itemsA (v_v rfl)) rfl (fun y4 => (tk_name rfl)) (fun y4 => (RV.re (e := id) (x := true) v_yes)) (fun y4 => (c_call (x_d (v_v rfl) (x_nil (x_fin (r_is_whole y4)))))))) fun c6 => (re_liftP (o_all c6))))))) (by exact (s_retV (r := false) v_c (.inl rfl))) (by exact (s_skipS (s_end (s_retR (re_bind (RE.mapE (eT PyData.int) (c_call (x_dC (RE.castV (g := (asT asI)) (v_v rfl) (asT_e asI_e)) fun c10 => (x_nil (x_fin (r_numbered_v3 c10))))) fun _ => rfl) fun c11 => (rv_bind (v_v rfl) (re_lift (o_eqA c11 a_value)))))))))
def t_check_partitions (a_box : PyData) (a_one : PyData) (a_two : PyData) : TM Unit := ((t_check_box a_box).bind fun u5 => ((((t_is_partition a_box a_one).bind fun k1 => TM.pure (!k1)).bind fun k3 => (if k3 then TM.pure true else ((t_is_partition a_box a_two).bind fun k2 => TM.pure (!k2)))).bind fun k4 => if k4 then TM.raise .malformed else TM.pure ()))
set_option maxHeartbeats 4000000 in
theorem r_check_partitions (a_box : PyData) (a_one : PyData) (a_two : PyData) : RF f_check_partitions [.d (eA a_box), .d (eA a_one), .d (eA a_two)] (t_check_partitions a_box a_one a_two) eU := rf_run (s_dropC (c_call (x_d (v_v rfl) (x_nil (x_fin (r_check_box a_box))))) fun u5 => by exact (s_end (s_ifC (cc_or (c_not (c_tst (c_call (x_d (v_v rfl) (x_d (v_v rfl) (x_nil (x_fin (r_is_partition a_box a_one)))))))) (c_not (c_tst (c_call (x_d (v_v rfl) (x_d (v_v rfl) (x_nil (x_fin (r_is_partition a_box a_two))))))))) (by exact s_raise) (by exact (s_skipS s_skipR)))))
def t_common (a_box : PyData) (a_one : PyData) (a_two : PyData) : TM (List Int) := ((t_check_partitions a_box a_one a_two).bind fun u4 => (((TM.lift ((asT asI) a_one)).bind fun c1 => ((TM.lift ((asT asI) a_two)).bind fun c2 => (TM.lift (zipT c1 c2)))).bind fun c3 => (t_numbered_v2 c3)))
set_option maxHeartbeats 4000000 in
theorem r_common (a_box : PyData) (a_one : PyData) (a_two : PyData) : RF f_common [.d (eA a_box), .d (eA a_one), .d (eA a_two)] (t_common a_box a_one a_two) (eT PyData.int) := rf_run (s_dropC (c_call (x_d (v_v rfl) (x_d (v_v rfl) (x_d (v_v rfl) (x_nil (x_fin (r_check_partitions a_box a_one a_two))))))) fun u4 => by exact (s_end (s_retR (c_call (x_dC (c_F (e' := (eL (e2 PyData.int PyData.int))) (re_bind (RE.castV (g := (asT asI)) (v_v rfl) (asT_e asI_e)) fun c1 => (re_bind (RE.castV (g := (asT asI)) (v_v rfl) (asT_e asI_e)) fun c2 => (re_lift (o_zip PyData.int PyData.int c1 c2))))) fun c3 => (x_nil (x_fin (r_numbered_v2 c3))))))))
def t_together_f1 (a_one : PyData) (a_two : PyData) (y5 : Int) : (List Int) → Int → TM (List Int) := fun (l6 : (List Int)) (y7 : Int) => ((((TM.lift (fIx a_one (.int y5))).bind fun c8 => ((TM.lift (fIx a_one (.int y7))).bind fun c9 => (TM.lift (eqA c8 c9)))).bind fun k12 => (if k12 then TM.pure true else ((TM.lift (fIx a_two (.int y5))).bind fun c10 => ((TM.lift (fIx a_two (.int y7))).bind fun c11 => (TM.lift (eqA c10 c11)))))).bind fun k17 => if k17 then (((TM.lift (atI l6 y5)).bind fun c13 => ((TM.lift (atI l6 y7)).bind fun c14 => TM.pure (if c14 < c13 then c14 else c13))).bind fun c16 => (TM.lift (putT l6 y5 c16)).bind fun x15 => TM.pure x15) else TM.pure l6)
def t_together_f2 (a_one : PyData) (a_two : PyData) : (List Int) → Int → TM (List Int) := fun (l4 : (List Int)) (y5 : Int) => (((TM.lift (lenA a_one)).bind fun j => TM.lift (rngT 0 j)).bind fun z18 => (TM.forT (t_together_f1 a_one a_two y5) z18 l4).bind fun l6 => TM.pure l6)
def t_together_f3 (a_one : PyData) (a_two : PyData) : (List Int) → PyData → TM (List Int) := fun (l2 : (List Int)) (y3 : PyData) => (((TM.lift (lenA a_one)).bind fun j => TM.lift (rngT 0 j)).bind fun z19 => (TM.forT (t_together_f2 a_one a_two) z19 l2).bind fun l4 => TM.pure l4)
def t_together (a_box : PyData) (a_one : PyData) (a_two : PyData) : TM (List Int) := ((t_check_partitions a_box a_one a_two).bind fun u21 => (((TM.lift (lenA a_one)).bind fun j => TM.lift (rngL 0 j)).bind fun x1 => ((TM.lift (itemsOf a_one)).bind fun z20 => (TM.forT (t_together_f3 a_one a_two) z20 x1).bind fun l2 => (t_numbered l2))))
set_option maxHeartbeats 4000000 in
theorem r_together (a_box : PyData) (a_one : PyData) (a_two : PyData) : RF f_together [.d (eA a_box), .d (eA a_one), .d (eA a_two)] (t_together a_box a_one a_two) (eT PyData.int) := rf_run (s_dropC (c_call (x_d (v_v rfl) (x_d (v_v rfl) (x_d (v_v rfl) (x_nil (x_fin (r_check_partitions a_box a_one a_two))))))) fun u21 => by exact (s_setLC (c_rgL1 (rv_bind (v_v rfl) (re_lift (o_lenA a_one)))) rfl fun x1 => by exact (s_for (ea := eA) (k := (fun (l2 : (List Int)) => [.v (.d (eA a_box)), .v (.d (eA a_one)), .v (.d (eA a_two)), .v (.l (List.map PyData.int l2)), .j, .j, .j])) (l0 := x1) (c_itemsA (v_v rfl)) (by exact (.cons .r (.cons .r (.cons .r (.cons .r (.cons .u (.cons .u (.cons .u .nil)))))))) (fun l2 y3 => (tk_name rfl)) (fun l2 y3 => by exact (s_end (s_for (ea := PyData.int) (k := (fun (l4 : (List Int)) => [.v (.d (eA a_box)), .v (.d (eA a_one)), .v (.d (eA a_two)), .v (.l (List.map PyData.int l4)), .v (.d (eA y3)), .j, .j])) (l0 := l2) (c_rng1 (rv_bind (v_v rfl) (re_lift (o_lenA a_one)))) (by exact (.cons .r (.cons .r (.cons .r (.cons .r (.cons .r (.cons .r (.cons .r .nil)))))))) (fun l4 y5 => (tk_name rfl)) (fun l4 y5 => by exact (s_end (s_for (ea := PyData.int) (k := (fun (l6 : (List Int)) => [.v (.d (eA a_box)), .v (.d (eA a_one)), .v (.d (eA a_two)), .v (.l (List.map PyData.int l6)), .v (.d (eA y3)), .v (.d (PyData.int y5)), .j])) (l0 := l4) (c_rng1 (rv_bind (v_v rfl) (re_lift (o_lenA a_one)))) (by exact (.cons .r (.cons .r (.cons .r (.cons .r (.cons .r (.cons .r (.cons .r .nil)))))))) (fun l6 y7 => (tk_name rfl)) (fun l6 y7 => by exact (s_end (s_ifC (cc_or (c_tst (re_bind (rv_bind (v_v rfl) (rv_bind (v_v rfl) (re_lift (o_idA (fIx a_one (.int y5)))))) fun c8 => (re_bind (rv_bind (v_v rfl) (rv_bind (v_v rfl) (re_lift (o_idA (fIx a_one (.int y7)))))) fun c9 => (re_lift (o_eqA c8 c9))))) (c_tst (re_bind (rv_bind (v_v rfl) (rv_bind (v_v rfl) (re_lift (o_idA (fIx a_two (.int y5)))))) fun c10 => (re_bind (rv_bind (v_v rfl) (rv_bind (v_v rfl) (re_lift (o_idA (fIx a_two (.int y7)))))) fun c11 => (re_lift (o_eqA c10 c11)))))) (by exact (s_mputC (e := PyData.int) rfl (re_bind (rv_bind (v_vp rfl) (rv_bind (v_v rfl) (re_lift (o_ixL PyData.int l6 y5)))) fun c13 => (re_bind (rv_bind (v_vp rfl) (rv_bind (v_v rfl) (re_lift (o_ixL PyData.int l6 y7)))) fun c14 => (re_liftP (o_min2 c13 c14)))) (v_v rfl) fun x15 => by exact (s_skip (l := x15) (.cons .r (.cons .r (.cons .r (.cons .r (.cons .r (.cons .r (.cons .d .nil)))))))))) (by exact (s_skipS (s_skip (l := l6) (.cons .r (.cons .r (.cons .r (.cons .r (.cons .r (.cons .r (.cons .d .nil))))))))))))) (fun l6 => by exact (s_skip (l := l6) (.cons .r (.cons .r (.cons .r (.cons .r (.cons .r (.cons .d (.cons .r .nil)))))))))))) (fun l4 => by exact (s_skip (l := l4) (.cons .r (.cons .r (.cons .r (.cons .r (.cons .d (.cons .r (.cons .r .nil)))))))))))) (fun l2 => by exact (s_end (s_retR (c_callP (x_d (v_vp rfl) (x_nil (x_finP (r_numbered l2) fun _ => (noL_ints _)))))))))))
def t_is_kept (a_box : PyData) (a_value : PyData) : TM Bool := ((t_check_box a_box).bind fun u4 => ((t_is_partition a_box a_value).bind fun k3 => (if k3 then ((TM.lift ((asT (as2 (as2 asI asI) (as2 asI asI))) a_box)).bind fun c1 => ((TM.lift ((asT asI) a_value)).bind fun c2 => (t_does_keep c1 c2))) else TM.pure false)))
set_option maxHeartbeats 4000000 in
theorem r_is_kept (a_box : PyData) (a_value : PyData) : RF f_is_kept [.d (eA a_box), .d (eA a_value)] (t_is_kept a_box a_value) PyData.bool := rf_run (s_dropC (c_call (x_d (v_v rfl) (x_nil (x_fin (r_check_box a_box))))) fun u4 => by exact (s_end (s_retR (cc_andV (c_call (x_d (v_v rfl) (x_d (v_v rfl) (x_nil (x_fin (r_is_partition a_box a_value)))))) (c_call (x_dC (RE.castV (g := (asT (as2 (as2 asI asI) (as2 asI asI)))) (v_v rfl) (asT_e (as2_e (as2_e asI_e asI_e) (as2_e asI_e asI_e)))) fun c1 => (x_dC (RE.castV (g := (asT asI)) (v_v rfl) (asT_e asI_e)) fun c2 => (x_nil (x_fin (r_does_keep c1 c2))))))))))
def t__law_told (a_which : Int) (a_box : PyData) (a_one : PyData) (a_two : PyData) : TM PyData := (TM.tryT (fun _ => true) (if (decide (a_which = (0 : Int))) then ((t_kept_partitions a_box).bind fun x => TM.pure ((eT (eT PyData.int)) x)) else (if (decide (a_which = (1 : Int))) then ((t_splits a_box).bind fun x => TM.pure ((eT (e2 (eT PyData.int) (eT PyData.int))) x)) else (if (decide (a_which = (2 : Int))) then ((t_common a_box a_one a_two).bind fun x => TM.pure ((eT PyData.int) x)) else (if (decide (a_which = (3 : Int))) then ((t_together a_box a_one a_two).bind fun x => TM.pure ((eT PyData.int) x)) else ((t_is_kept a_box a_one).bind fun x => TM.pure (PyData.bool x)))))) (TM.pure (PyData.str ("<malformed>" : Str))))
set_option maxHeartbeats 4000000 in
theorem r__law_told (a_which : Int) (a_box : PyData) (a_one : PyData) (a_two : PyData) : RF f__law_told [.d (PyData.int a_which), .d (eA a_box), .d (eA a_one), .d (eA a_two)] (t__law_told a_which a_box a_one a_two) eA := rf_run (s_end (s_end' (s_try (d := eA (PyData.str ("<malformed>" : Str))) (by exact (s_ifV (v_tst (v_op (v_v rfl) v_c (o_eq eqE_int a_which (0 : Int)))) (by exact (s_retR (RE.mapE (eT (eT PyData.int)) (c_call (x_d (v_v rfl) (x_nil (x_fin (r_kept_partitions a_box))))) fun _ => rfl))) (by exact (s_skipS (s_ifV (v_tst (v_op (v_v rfl) v_c (o_eq eqE_int a_which (1 : Int)))) (by exact (s_retR (RE.mapE (eT (e2 (eT PyData.int) (eT PyData.int))) (c_call (x_d (v_v rfl) (x_nil (x_fin (r_splits a_box))))) fun _ => rfl))) (by exact (s_skipS (s_ifV (v_tst (v_op (v_v rfl) v_c (o_eq eqE_int a_which (2 : Int)))) (by exact (s_retR (RE.mapE (eT PyData.int) (c_call (x_d (v_v rfl) (x_d (v_v rfl) (x_d (v_v rfl) (x_nil (x_fin (r_common a_box a_one a_two))))))) fun _ => rfl))) (by exact (s_skipS (s_end (s_retR (c_if (v_tst (v_op (v_v rfl) v_c (o_eq eqE_int a_which (3 : Int)))) (RE.mapE (eT PyData.int) (c_call (x_d (v_v rfl) (x_d (v_v rfl) (x_d (v_v rfl) (x_nil (x_fin (r_together a_box a_one a_two))))))) fun _ => rfl) (RE.mapE PyData.bool (c_call (x_d (v_v rfl) (x_d (v_v rfl) (x_nil (x_fin (r_is_kept a_box a_one)))))) fun _ => rfl)))))))))))))) (fun _ _ => rfl) (.inl rfl) PR.nx)))
def t__law_keeps_f1 (a_box : (List ((Int × Int) × (Int × Int)))) (a_value : (List Int)) (y2 : Int) : Unit → Int → TM (Unit ⊕ Bool) := fun (l3 : Unit) (y4 : Int) => ((((TM.lift (atI a_value y2)).bind fun c5 => ((TM.lift (atI a_value y4)).bind fun c6 => TM.pure (decide (c5 = c6)))).bind fun k18 => (if k18 then (((TM.lift (rngT 0 (2 : Int))).bind fun z16 => TM.compL (fun y7 => (TM.pure true)) (fun y7 => ((((((TM.lift (atI a_box y2)).bind fun x => TM.pure [x.1, x.2]).bind fun c8 => (TM.lift (atI c8 y7))).bind fun c9 => TM.pure c9.1).bind fun c10 => (TM.lift (atI a_value c10))).bind fun c14 => ((((((TM.lift (atI a_box y4)).bind fun x => TM.pure [x.1, x.2]).bind fun c11 => (TM.lift (atI c11 y7))).bind fun c12 => TM.pure c12.1).bind fun c13 => (TM.lift (atI a_value c13))).bind fun c15 => TM.pure (!decide (c14 = c15))))) z16).bind fun c17 => TM.pure (c17.any id)) else TM.pure false)).bind fun k19 => if k19 then TM.pure (Sum.inr false) else TM.pure (Sum.inl ()))
def t__law_keeps_f2 (a_box : (List ((Int × Int) × (Int × Int)))) (a_value : (List Int)) : Unit → Int → TM (Unit ⊕ Bool) := fun (l1 : Unit) (y2 : Int) => ((TM.lift (rngT 0 (a_box.length : Int))).bind fun z20 => TM.bindB (TM.forB (t__law_keeps_f1 a_box a_value y2) z20 ()) (fun (l3 : Unit) => TM.pure (Sum.inl ())) (fun r => (Sum.inr r)))
def t__law_keeps (a_box : (List ((Int × Int) × (Int × Int)))) (a_value : (List Int)) : TM Bool := ((TM.lift (rngT 0 (a_box.length : Int))).bind fun z21 => TM.bindB (TM.forB (t__law_keeps_f2 a_box a_value) z21 ()) (fun (l1 : Unit) => TM.pure true) (fun r => r))
set_option maxHeartbeats 4000000 in
theorem r__law_keeps (a_box : (List ((Int × Int) × (Int × Int)))) (a_value : (List Int)) : RF f__law_keeps [.d ((eT (e2 (e2 PyData.int PyData.int) (e2 PyData.int PyData.int))) a_box), .d ((eT PyData.int) a_value)] (t__law_keeps a_box a_value) PyData.bool := rf_run (s_forB (e := PyData.bool) (g := fun r => r) (ea := PyData.int) (k := (fun (l1 : Unit) => [.v (.d ((eT (e2 (e2 PyData.int PyData.int) (e2 PyData.int PyData.int))) a_box)), .v (.d ((eT PyData.int) a_value)), .j, .j, .v .un])) (l0 := ()) (c_rng1V (v_un (v_v rfl) (o_lenT (e2 (e2 PyData.int PyData.int) (e2 PyData.int PyData.int)) a_box))) (by exact (.cons .r (.cons .r (.cons .u (.cons .u (.cons .r .nil)))))) (fun l1 y2 => (tk_name rfl)) (fun l1 y2 => by exact (s_end (s_forB (e := PyData.bool) (g := fun r => (Sum.inr r)) (ea := PyData.int) (k := (fun (l3 : Unit) => [.v (.d ((eT (e2 (e2 PyData.int PyData.int) (e2 PyData.int PyData.int))) a_box)), .v (.d ((eT PyData.int) a_value)), .v (.d (PyData.int y2)), .j, .v .un])) (l0 := ()) (c_rng1V (v_un (v_v rfl) (o_lenT (e2 (e2 PyData.int PyData.int) (e2 PyData.int PyData.int)) a_box))) (by exact (.cons .r (.cons .r (.cons .r (.cons .r (.cons .r .nil)))))) (fun l3 y4 => (tk_name rfl)) (fun l3 y4 => by exact (s_end (s_ifC (cc_and (c_tst (re_bind (rv_bind (v_v rfl) (rv_bind (v_v rfl) (re_lift (o_ixT PyData.int a_value y2)))) fun c5 => (re_bind (rv_bind (v_v rfl) (rv_bind (v_v rfl) (re_lift (o_ixT PyData.int a_value y4)))) fun c6 => (re_liftP (o_eq eqE_int c5 c6))))) (c_tst (re_bind (c_F (e' := (eL PyData.bool)) (c_comp (ea := PyData.int) (p := fun y7 => (TM.pure true)) (g := fun y7 => ((((((TM.lift (atI a_box y2)).bind fun x => TM.pure [x.1, x.2]).bind fun c8 => (TM.lift (atI c8 y7))).bind fun c9 => TM.pure c9.1).bind fun c10 => (TM.lift (atI a_value c10))).bind fun c14 => ((((((TM.lift (atI a_box y4)).bind fun x => TM.pure [x.1, x.2]).bind fun c11 => (TM.lift (atI c11 y7))).bind fun c12 => TM.pure c12.1).bind fun c13 => (TM.lift (atI a_value c13))).bind fun c15 => TM.pure (!decide (c14 = c15))))) (e := PyData.bool) (c_rng1V v_c) rfl (fun y7 => (tk_name rfl)) (fun y7 => (RV.re (e := id) (x := true) v_yes)) (fun y7 => (re_bind (rv_bind (v_v rfl) (re_bind (re_bind (re_bind (RE.mapE (fun (x : ((Int × Int) × (Int × Int))) => [x.1, x.2]) (rv_bind (v_v rfl) (rv_bind (v_v rfl) (re_lift (o_ixT (e2 (e2 PyData.int PyData.int) (e2 PyData.int PyData.int)) a_box y2)))) fun _ => rfl) fun c8 => (rv_bind (v_v rfl) (re_lift (o_ixT (e2 PyData.int PyData.int) c8 y7)))) fun c9 => (rv_bind v_c (re_liftP rfl))) fun c10 => (re_lift (o_ixT PyData.int a_value c10)))) fun c14 => (re_bind (rv_bind (v_v rfl) (re_bind (re_bind (re_bind (RE.mapE (fun (x : ((Int × Int) × (Int × Int))) => [x.1, x.2]) (rv_bind (v_v rfl) (rv_bind (v_v rfl) (re_lift (o_ixT (e2 (e2 PyData.int PyData.int) (e2 PyData.int PyData.int)) a_box y4)))) fun _ => rfl) fun c11 => (rv_bind (v_v rfl) (re_lift (o_ixT (e2 PyData.int PyData.int) c11 y7)))) fun c12 => (rv_bind v_c (re_liftP rfl))) fun c13 => (re_lift (o_ixT PyData.int a_value c13)))) fun c15 => (re_liftP (o_ne eqE_int c14 c15))))))) fun c17 => (re_liftP (o_any c17))))) (by exact (s_retV (r := Sum.inr false) v_c rfl)) (by exact (s_skipS (s_skipB (l := ()) (.cons .r (.cons .r (.cons .r (.cons .d (.cons .r .nil))))))))))) (fun l3 => by exact (s_skipB (l := ()) (.cons .r (.cons .r (.cons .d (.cons .r (.cons .r .nil))))))) (fun _ => rfl)))) (fun l1 => by exact (s_end (s_retV (r := true) v_c (.inl rfl)))) (fun _ => .inl rfl))
def t__law_numbered_f1  : ((List Int) × (List Int)) → Int → TM ((List Int) × (List Int)) := fun (l1 : ((List Int) × (List Int))) (y2 : Int) => ((TM.lift (catT l1.2 (if (!memT y2 l1.2) then [y2] else ([] : (List Int))))).bind fun x3 => ((TM.lift (idxT x3 y2)).bind fun c5 => (TM.lift (appT l1.1 c5)).bind fun x4 => TM.pure (x4, x3)))
def t__law_numbered (a_labels : (List Int)) : TM (List Int) := ((TM.forT t__law_numbered_f1 a_labels (([] : (List Int)), ([] : (List Int)))).bind fun l1 => TM.pure l1.1)
set_option maxHeartbeats 4000000 in
theorem r__law_numbered (a_labels : (List Int)) : RF f__law_numbered [.d ((eL PyData.int) a_labels)] (t__law_numbered a_labels) (eT PyData.int) := rf_run (s_exV (v_lst v_nil) (by exact (s_exV (v_F (v_lst v_nil)) (by exact (s_putS rfl rfl (by exact (s_forI (ea := PyData.int) (k := (fun (l1 : ((List Int) × (List Int))) => [.v (.d ((eL PyData.int) a_labels)), .v (.l (List.map PyData.int l1.1)), .v (.d ((eL PyData.int) l1.2)), .j])) (l0 := (([] : (List Int)), ([] : (List Int)))) (v_items (v_v rfl) rfl) (by exact (.cons .r (.cons .r (.cons .r (.cons .u .nil))))) (fun l1 y2 => (tk_name rfl)) (fun l1 y2 => by exact (s_setC (rv_bind (v_v rfl) (rv_bind (v_if (e := (eL PyData.int)) (x := [y2]) (y := ([] : (List Int))) (v_tst (v_op (v_v rfl) (v_v rfl) (o_ninL eqE_int y2 l1.2))) (v_F (v_lst (v_cons (v_v rfl) v_nil))) (v_F (v_lst v_nil))) (re_lift (o_addL PyData.int l1.2 (if (!memT y2 l1.2) then [y2] else ([] : (List Int))))))) rfl fun x3 => by exact (s_end (s_appC rfl (c_index (v_v rfl) (v_v rfl) (o_index eqE_int _ _)) fun x4 => by exact (s_skip (l := (x4, x3)) (.cons .r (.cons .r (.cons .r (.cons .d .nil))))))))) (fun l1 => by exact (s_end (s_retV (r := l1.1) (v_un (v_vp rfl) rfl) (.inl rfl)))))))))))
def t__law_numbered_v2_f1  : ((List Int) × (List (Int × Int))) → (Int × Int) → TM ((List Int) × (List (Int × Int))) := fun (l1 : ((List Int) × (List (Int × Int)))) (y2 : (Int × Int)) => ((TM.lift (catT l1.2 (if (!memT y2 l1.2) then [y2] else ([] : (List (Int × Int)))))).bind fun x3 => ((TM.lift (idxT x3 y2)).bind fun c5 => (TM.lift (appT l1.1 c5)).bind fun x4 => TM.pure (x4, x3)))
def t__law_numbered_v2 (a_labels : (List (Int × Int))) : TM (List Int) := ((TM.forT t__law_numbered_v2_f1 a_labels (([] : (List Int)), ([] : (List (Int × Int))))).bind fun l1 => TM.pure l1.1)
set_option maxHeartbeats 4000000 in
theorem r__law_numbered_v2 (a_labels : (List (Int × Int))) : RF f__law_numbered [.d ((eL (e2 PyData.int PyData.int)) a_labels)] (t__law_numbered_v2 a_labels) (eT PyData.int) := rf_run (s_exV (v_lst v_nil) (by exact (s_exV (v_F (v_lst v_nil)) (by exact (s_putS rfl rfl (by exact (s_forI (ea := (e2 PyData.int PyData.int)) (k := (fun (l1 : ((List Int) × (List (Int × Int)))) => [.v (.d ((eL (e2 PyData.int PyData.int)) a_labels)), .v (.l (List.map PyData.int l1.1)), .v (.d ((eL (e2 PyData.int PyData.int)) l1.2)), .j])) (l0 := (([] : (List Int)), ([] : (List (Int × Int))))) (v_items (v_v rfl) rfl) (by exact (.cons .r (.cons .r (.cons .r (.cons .u .nil))))) (fun l1 y2 => (tk_name rfl)) (fun l1 y2 => by exact (s_setC (rv_bind (v_v rfl) (rv_bind (v_if (e := (eL (e2 PyData.int PyData.int))) (x := [y2]) (y := ([] : (List (Int × Int)))) (v_tst (v_op (v_v rfl) (v_v rfl) (o_ninL (eqE_2 eqE_int eqE_int) y2 l1.2))) (v_F (v_lst (v_cons (v_v rfl) v_nil))) (v_F (v_lst v_nil))) (re_lift (o_addL (e2 PyData.int PyData.int) l1.2 (if (!memT y2 l1.2) then [y2] else ([] : (List (Int × Int)))))))) rfl fun x3 => by exact (s_end (s_appC rfl (c_index (v_v rfl) (v_v rfl) (o_index (eqE_2 eqE_int eqE_int) _ _)) fun x4 => by exact (s_skip (l := (x4, x3)) (.cons .r (.cons .r (.cons .r (.cons .d .nil))))))))) (fun l1 => by exact (s_end (s_retV (r := l1.1) (v_un (v_vp rfl) rfl) (.inl rfl)))))))))))
def t__law_together_f1 (a_two : (List Int)) (y4 : Int) : (List Int) → Int → TM (List Int) := fun (l5 : (List Int)) (y6 : Int) => ((((TM.lift (atI a_two y4)).bind fun c7 => ((TM.lift (atI a_two y6)).bind fun c8 => TM.pure (decide (c7 = c8)))).bind fun k11 => (if k11 then TM.pure true else ((TM.lift (atI l5 y4)).bind fun c9 => ((TM.lift (atI l5 y6)).bind fun c10 => TM.pure (decide (c9 = c10)))))).bind fun k21 => if k21 then ((((TM.lift (atI l5 y4)).bind fun c12 => ((TM.lift (atI l5 y6)).bind fun c13 => TM.pure (if c13 < c12 then c13 else c12))).bind fun c16 => (((TM.lift (atI l5 y4)).bind fun c14 => ((TM.lift (atI l5 y6)).bind fun c15 => TM.pure (if c15 > c14 then c15 else c14))).bind fun c17 => TM.pure (c16, c17))).bind fun x18 => ((TM.compV (fun y19 => true) (fun y19 => (if (decide (y19 = x18.2)) then x18.1 else y19)) l5).bind fun x20 => TM.pure x20)) else TM.pure l5)
def t__law_together_f2 (a_one : (List Int)) (a_two : (List Int)) : (List Int) → Int → TM (List Int) := fun (l3 : (List Int)) (y4 : Int) => ((TM.lift (rngT 0 (a_one.length : Int))).bind fun z22 => (TM.forT (t__law_together_f1 a_two y4) z22 l3).bind fun l5 => TM.pure l5)
def t__law_together_f3 (a_one : (List Int)) (a_two : (List Int)) : (List Int) → Int → TM (List Int) := fun (l1 : (List Int)) (y2 : Int) => ((TM.lift (rngT 0 (a_one.length : Int))).bind fun z23 => (TM.forT (t__law_together_f2 a_one a_two) z23 l1).bind fun l3 => TM.pure l3)
def t__law_together (a_one : (List Int)) (a_two : (List Int)) : TM (List Int) := ((TM.forT (t__law_together_f3 a_one a_two) a_one a_one).bind fun l1 => (t__law_numbered l1))
set_option maxHeartbeats 4000000 in
theorem r__law_together (a_one : (List Int)) (a_two : (List Int)) : RF f__law_together [.d ((eT PyData.int) a_one), .d ((eT PyData.int) a_two)] (t__law_together a_one a_two) (eT PyData.int) := rf_run (s_setV (y := (eL PyData.int) a_one) (v_F (v_unF (v_v rfl) rfl)) rfl (by exact (s_forI (ea := PyData.int) (k := (fun (l1 : (List Int)) => [.v (.d ((eT PyData.int) a_one)), .v (.d ((eT PyData.int) a_two)), .v (.d ((eL PyData.int) l1)), .j, .j, .j, .j, .j, .v .un])) (l0 := a_one) (v_items (v_v rfl) rfl) (by exact (.cons .r (.cons .r (.cons .r (.cons .u (.cons .u (.cons .u (.cons .u (.cons .u (.cons .r .nil)))))))))) (fun l1 y2 => (tk_name rfl)) (fun l1 y2 => by exact (s_end (s_for (ea := PyData.int) (k := (fun (l3 : (List Int)) => [.v (.d ((eT PyData.int) a_one)), .v (.d ((eT PyData.int) a_two)), .v (.d ((eL PyData.int) l3)), .v (.d (PyData.int y2)), .j, .j, .j, .j, .v .un])) (l0 := l1) (c_rng1V (v_un (v_v rfl) (o_lenT PyData.int a_one))) (by exact (.cons .r (.cons .r (.cons .r (.cons .r (.cons .r (.cons .r (.cons .r (.cons .r (.cons .r .nil)))))))))) (fun l3 y4 => (tk_name rfl)) (fun l3 y4 => by exact (s_end (s_for (ea := PyData.int) (k := (fun (l5 : (List Int)) => [.v (.d ((eT PyData.int) a_one)), .v (.d ((eT PyData.int) a_two)), .v (.d ((eL PyData.int) l5)), .v (.d (PyData.int y2)), .v (.d (PyData.int y4)), .j, .j, .j, .v .un])) (l0 := l3) (c_rng1V (v_un (v_v rfl) (o_lenT PyData.int a_one))) (by exact (.cons .r (.cons .r (.cons .r (.cons .r (.cons .r (.cons .r (.cons .r (.cons .r (.cons .r .nil)))))))))) (fun l5 y6 => (tk_name rfl)) (fun l5 y6 => by exact (s_end (s_ifC (cc_or (c_tst (re_bind (rv_bind (v_v rfl) (rv_bind (v_v rfl) (re_lift (o_ixT PyData.int a_two y4)))) fun c7 => (re_bind (rv_bind (v_v rfl) (rv_bind (v_v rfl) (re_lift (o_ixT PyData.int a_two y6)))) fun c8 => (re_liftP (o_eq eqE_int c7 c8))))) (c_tst (re_bind (rv_bind (v_v rfl) (rv_bind (v_v rfl) (re_lift (o_ixL PyData.int l5 y4)))) fun c9 => (re_bind (rv_bind (v_v rfl) (rv_bind (v_v rfl) (re_lift (o_ixL PyData.int l5 y6)))) fun c10 => (re_liftP (o_eq eqE_int c9 c10)))))) (by exact (s_assoc (s_asgC (k_consC (re_bind (rv_bind (v_v rfl) (rv_bind (v_v rfl) (re_lift (o_ixL PyData.int l5 y4)))) fun c12 => (re_bind (rv_bind (v_v rfl) (rv_bind (v_v rfl) (re_lift (o_ixL PyData.int l5 y6)))) fun c13 => (re_liftP (o_min2 c12 c13)))) fun c16 => (k_consC (re_bind (rv_bind (v_v rfl) (rv_bind (v_v rfl) (re_lift (o_ixL PyData.int l5 y4)))) fun c14 => (re_bind (rv_bind (v_v rfl) (rv_bind (v_v rfl) (re_lift (o_ixL PyData.int l5 y6)))) fun c15 => (re_liftP (o_max2 c14 c15)))) fun c17 => (k_nil (k_tup (e := (e2 PyData.int PyData.int)) (p := (c16, c17)))))) (fun x18 => (tk_tup (tks_cons (tk_name rfl) (tks_cons (tk_name rfl) tks_nil)))) fun x18 => by exact (s_setC (c_F (e' := (eL PyData.int)) (c_compVI (ea := PyData.int) (p := fun y19 => true) (g := fun y19 => (if (decide (y19 = x18.2)) then x18.1 else y19)) (e := PyData.int) (v_items (v_v rfl) rfl) rfl (fun y19 => (tk_name rfl)) (fun y19 => v_yes) (fun y19 => (v_if (e := PyData.int) (x := x18.1) (y := y19) (v_tst (v_op (v_v rfl) (v_v rfl) (o_eq eqE_int y19 x18.2))) (v_v rfl) (v_v rfl))))) rfl fun x20 => by exact (s_skip (l := x20) (.cons .r (.cons .r (.cons .r (.cons .r (.cons .r (.cons .d (.cons .d (.cons .d (.cons .r .nil)))))))))))))) (by exact (s_skipS (s_skip (l := l5) (.cons .r (.cons .r (.cons .r (.cons .r (.cons .r (.cons .d (.cons .r (.cons .r (.cons .r .nil))))))))))))))) (fun l5 => by exact (s_skip (l := l5) (.cons .r (.cons .r (.cons .r (.cons .r (.cons .d (.cons .r (.cons .r (.cons .r (.cons .r .nil)))))))))))))) (fun l3 => by exact (s_skip (l := l3) (.cons .r (.cons .r (.cons .r (.cons .d (.cons .r (.cons .r (.cons .r (.cons .r (.cons .r .nil)))))))))))))) (fun l1 => by exact (s_end (s_retR (c_call (x_d (v_v rfl) (x_nil (x_fin (r__law_numbered l1)))))))))))
def t__law_says (a_value : PyData) (a_due : Bool) : TM Bool := ((TM.lift (isOf "bool" a_value)).bind fun k1 => (if k1 then (TM.lift (eqA a_value (PyData.bool a_due))) else TM.pure false))
set_option maxHeartbeats 4000000 in
theorem r__law_says (a_value : PyData) (a_due : Bool) : RF f__law_says [.d (eA a_value), .d (PyData.bool a_due)] (t__law_says a_value a_due) PyData.bool := rf_run (s_end (s_retR (cc_andV (c_isiV (n := 1) (v_v rfl)) (rv_bind (v_v rfl) (rv_bind (v_v rfl) (re_lift (o_eqA a_value (PyData.bool a_due))))))))
def t_law_f1 (x3 : (List ((Int × Int) × (Int × Int)))) (x6 : (List (List Int))) : Unit → PyData → TM (Unit ⊕ Bool) := fun (l55 : Unit) (y56 : PyData) => (((TM.lift (isOf "tuple" y56)).bind fun k62 => (if k62 then ((TM.lift (inA y56 ((eL (eT PyData.int)) x6))).bind fun k61 => (if k61 then ((((TM.lift (itemsOf y56)).bind fun z58 => TM.compL (fun y57 => (TM.pure true)) (fun y57 => (TM.lift (isOf "bool" y57))) z58).bind fun c59 => TM.pure (c59.any id)).bind fun c60 => TM.pure (!c60)) else TM.pure false)) else TM.pure false)).bind fun x63 => (((((t_is_kept ((eT (e2 (e2 PyData.int PyData.int) (e2 PyData.int PyData.int))) x3) y56).bind fun x => TM.pure (PyData.bool x)).bind fun c64 => (t__law_says c64 x63)).bind fun k65 => TM.pure (!k65)).bind fun k66 => if k66 then TM.pure (Sum.inr false) else TM.pure (Sum.inl ())))
def t_law_f2 (x3 : (List ((Int × Int) × (Int × Int)))) (x4 : (List (List Int))) (x6 : (List (List Int))) : (Option (List Int)) → Int → TM ((Option (List Int)) ⊕ Bool) := fun (l32 : (Option (List Int))) (y33 : Int) => ((((t__law_take (2 : Int)).bind fun c34 => TM.pure (decide (c34 = (0 : Int)))).bind fun k35 => if k35 then (TM.pure x6) else (TM.pure x4)).bind fun x36 => ((((t__law_take (x36.length : Int)).bind fun c37 => (TM.lift (atI x36 c37))).bind fun c39 => (((t__law_take (x36.length : Int)).bind fun c38 => (TM.lift (atI x36 c38))).bind fun c40 => TM.pure (c39, c40))).bind fun x41 => ((t_common ((eT (e2 (e2 PyData.int PyData.int) (e2 PyData.int PyData.int))) x3) ((eT PyData.int) x41.1) ((eT PyData.int) x41.2)).bind fun x42 => ((t_together ((eT (e2 (e2 PyData.int PyData.int) (e2 PyData.int PyData.int))) x3) ((eT PyData.int) x41.1) ((eT PyData.int) x41.2)).bind fun x43 => (((((TM.lift (zipT x41.1 x41.2)).bind fun c44 => (t__law_numbered_v2 c44)).bind fun c45 => TM.pure (!decide (x42 = c45))).bind fun k47 => (if k47 then TM.pure true else ((t__law_together x41.1 x41.2).bind fun c46 => TM.pure (!decide (x43 = c46))))).bind fun k68 => if k68 then TM.pure (Sum.inr false) else (if ((memT x41.1 x6) && ((memT x41.2 x6) && ((!memT x42 x6) || (!memT x43 x6)))) then TM.pure (Sum.inr false) else ((((TM.lift (catT x41.1 [(0 : Int)])).bind fun x => TM.pure ((eT PyData.int) x)).bind fun c51 => ((((TM.lift (some ((cutL x41.1 (some (1 : Int)) none).map PyData.int))).bind fun c48 => (TM.lift (catT [PyData.bool true] c48))).bind fun x => TM.pure ((eT eA) x)).bind fun c52 => (((TM.lift (repT1 [(1 : Int)] (x3.length : Int))).bind fun x => TM.pure ((eT PyData.int) x)).bind fun c53 => ((((TM.compV (fun y49 => true) (fun y49 => (y49 + (1 : Int))) x41.1).bind fun c50 => TM.pure c50).bind fun x => TM.pure ((eT PyData.int) x)).bind fun c54 => TM.pure [((eT PyData.int) x41.1), ((eT PyData.int) x41.2), ((eL PyData.int) x41.1), ((eT PyData.int) (cutL x41.1 (some (1 : Int)) none)), c51, c52, c53, (eU ()), c54])))).bind fun z67 => TM.bindB (TM.forB (t_law_f1 x3 x6) z67 ()) (fun (l55 : Unit) => TM.pure (Sum.inl (some x41.1))) (fun r => (Sum.inr r)))))))))
def t_law_f3 (x3 : (List ((Int × Int) × (Int × Int)))) (x6 : (List (List Int))) : ((List ((List Int) × (List Int))) × (Option (List Int))) → (List Int) → TM ((List ((List Int) × (List Int))) × (Option (List Int))) := fun (l12 : ((List ((List Int) × (List Int))) × (Option (List Int)))) (y13 : (List Int)) => (((TM.compL (fun y14 => (if (HT.lexLt y13 y14) then ((((TM.lift (zipT y13 y14)).bind fun c15 => (t__law_numbered_v2 c15)).bind fun c17 => (((TM.lift (rngL 0 (x3.length : Int))).bind fun xs => TM.lift (tupT xs)).bind fun c18 => TM.pure (decide (c17 = c18)))).bind fun k24 => (if k24 then ((((TM.lift (maxT y13)).bind fun c19 => TM.pure (c19 + (1 : Int))).bind fun c20 => TM.pure (decide (c20 < (x3.length : Int)))).bind fun k23 => (if k23 then (((TM.lift (maxT y14)).bind fun c21 => TM.pure (c21 + (1 : Int))).bind fun c22 => TM.pure (decide (c22 < (x3.length : Int)))) else TM.pure false)) else TM.pure false)) else TM.pure false)) (fun y14 => (TM.pure (y13, y14))) x6).bind fun c25 => (TM.lift (catT l12.1 c25))).bind fun x26 => TM.pure (x26, (some y13)))
def t_law_f4  : ((Option (List ((Int × Int) × (Int × Int)))) × (Option Int) × (Option (List Int))) → Int → TM (((Option (List ((Int × Int) × (Int × Int)))) × (Option Int) × (Option (List Int))) ⊕ Bool) := fun (l1 : ((Option (List ((Int × Int) × (Int × Int)))) × (Option Int) × (Option (List Int)))) (y2 : Int) => ((t__law_box (5 : Int)).bind fun x3 => ((t__law_partitions (x3.length : Int)).bind fun x4 => ((TM.compL (fun y5 => (t__law_keeps x3 y5)) (fun y5 => (TM.pure y5)) x4).bind fun x6 => (((((t_kept_partitions ((eT (e2 (e2 PyData.int PyData.int) (e2 PyData.int PyData.int))) x3)).bind fun c7 => (TM.lift (reprT ((eT (eT PyData.int)) c7)))).bind fun x => TM.pure (PyData.str x)).bind fun c10 => (((((TM.lift (srtT (eT PyData.int) x6)).bind fun c8 => TM.pure c8).bind fun c9 => (TM.lift (reprT ((eT (eT PyData.int)) c9)))).bind fun x => TM.pure (PyData.str x)).bind fun c11 => (TM.lift (neA c10 c11)))).bind fun k71 => if k71 then TM.pure (Sum.inr false) else ((TM.forT (t_law_f3 x3 x6) x6 (([] : (List ((List Int) × (List Int)))), l1.2.2)).bind fun l12 => (((((t_splits ((eT (e2 (e2 PyData.int PyData.int) (e2 PyData.int PyData.int))) x3)).bind fun c27 => (TM.lift (reprT ((eT (e2 (eT PyData.int) (eT PyData.int))) c27)))).bind fun x => TM.pure (PyData.str x)).bind fun c30 => (((((TM.lift (srtT (e2 (eT PyData.int) (eT PyData.int)) l12.1)).bind fun c28 => TM.pure c28).bind fun c29 => (TM.lift (reprT ((eT (e2 (eT PyData.int) (eT PyData.int))) c29)))).bind fun x => TM.pure (PyData.str x)).bind fun c31 => (TM.lift (neA c30 c31)))).bind fun k70 => if k70 then TM.pure (Sum.inr false) else ((TM.lift (rngT 0 (4 : Int))).bind fun z69 => TM.bindB (TM.forB (t_law_f2 x3 x4 x6) z69 l12.2) (fun (l32 : (Option (List Int))) => TM.pure (Sum.inl ((some x3), (some (x3.length : Int)), l32))) (fun r => (Sum.inr r)))))))))
def m_law_rest : MS :=
  (mSeq (mFor (mRng1 (mC (.int 3))) (tName 2) (mSeq (mSet 3 (mCall (chk 2 f__law_box) (axV 1 (axD (mC (.int 5)) axNil))))
  (mSeq (mSet 4 (mUn fLen (mV 3)))
  (mSeq (mSet 5 (mCall (chk 1 f__law_partitions) (axD (mV 4) axNil)))
  (mSeq (mSet 6 (mF (mComp [14] (mItems (mV 5)) (tName 14) (mTst (mCall (chk 2 f__law_keeps) (axD (mV 3) (axD (mV 14) axNil)))) (mV 14))))
  (mSeq (mIfS (mTst (mOp fNe (mUn fRepr (mCall (chk 1 f_kept_partitions) (axD (mV 3) axNil))) (mUn fRepr (mUn fTuple (mF (mUnF fSort (mV 6))))))) (mRet (mC (.bool false))) mSkip)
  (mSeq (mSet 7 (mF (mLst mNil)))
  (mSeq (mFor (mItems (mV 6)) (tName 8) (mSet 7 (mOp fAdd (mV 7) (mF (mComp [11] (mItems (mV 6)) (tName 11) (mAnd (mTst (mOp fLtA (mV 8) (mV 11))) (mAnd (mTst (mOp fEq (mCall (chk 1 f__law_numbered) (axD (mF (mOpF fZip (mV 8) (mV 11))) axNil)) (mTup (mRgL1 (mV 4))))) (mAnd (mTst (mOp fLt (mOp fAdd (mUn fMaxA (mV 8)) (mC (.int 1))) (mV 4))) (mTst (mOp fLt (mOp fAdd (mUn fMaxA (mV 11)) (mC (.int 1))) (mV 4)))))) (mTup (mCons (mV 8) (mCons (mV 11) mNil))))))))
  (mSeq (mIfS (mTst (mOp fNe (mUn fRepr (mCall (chk 1 f_splits) (axD (mV 3) axNil))) (mUn fRepr (mUn fTuple (mF (mUnF fSort (mV 7))))))) (mRet (mC (.bool false))) mSkip)
  (mFor (mRng1 (mC (.int 4))) (tName 9) (mSeq (mSet 10 (mIf (mTst (mOp fEq (mCall (chk 2 f__law_take) (axV 1 (axD (mC (.int 2)) axNil))) (mC (.int 0)))) (mV 6) (mV 5)))
  (mSeq (mAsg (tTup 2 (tConsT (tName 8) (tConsT (tName 11) tNilT))) (mTup (mCons (mOp fIx (mV 10) (mCall (chk 2 f__law_take) (axV 1 (axD (mUn fLen (mV 10)) axNil)))) (mCons (mOp fIx (mV 10) (mCall (chk 2 f__law_take) (axV 1 (axD (mUn fLen (mV 10)) axNil)))) mNil))))
  (mSeq (mParDD 12 13 (mCall (chk 3 f_common) (axD (mV 3) (axD (mV 8) (axD (mV 11) axNil)))) (mCall (chk 3 f_together) (axD (mV 3) (axD (mV 8) (axD (mV 11) axNil)))))
  (mSeq (mIfS (mOr (mTst (mOp fNe (mV 12) (mCall (chk 1 f__law_numbered) (axD (mF (mOpF fZip (mV 8) (mV 11))) axNil)))) (mTst (mOp fNe (mV 13) (mCall (chk 2 f__law_together) (axD (mV 8) (axD (mV 11) axNil)))))) (mRet (mC (.bool false))) mSkip)
  (mSeq (mIfS (mAnd (mTst (mOp fIn (mV 8) (mV 6))) (mAnd (mTst (mOp fIn (mV 11) (mV 6))) (mOr (mTst (mOp fNotIn (mV 12) (mV 6))) (mTst (mOp fNotIn (mV 13) (mV 6)))))) (mRet (mC (.bool false))) mSkip)
  (mFor (mItems (mF (mLst (mCons (mV 8) (mCons (mV 11) (mCons (mF (mUnF fList (mV 8))) (mCons (mSlice (mV 8) (mPart (mC (.int 1))) mNoPart) (mCons (mOp fAdd (mV 8) (mTup (mCons (mC (.int 0)) mNil))) (mCons (mOp fAdd (mTup (mCons (mC (.bool true)) mNil)) (mSlice (mV 8) (mPart (mC (.int 1))) mNoPart)) (mCons (mOp fMulA (mTup (mCons (mC (.int 1)) mNil)) (mV 4)) (mCons (mC .none) (mCons (mUn fTuple (mF (mComp [19] (mItems (mV 8)) (tName 19) mYes (mOp fAdd (mV 19) (mC (.int 1)))))) mNil)))))))))))) (tName 14) (mSeq (mSet 15 (mAndV (mIsi 2 (mV 14)) (mAndV (mOp fIn (mV 14) (mV 6)) (mUn fNot (mUn fAny (mF (mComp [19] (mItems (mV 14)) (tName 19) mYes (mIsi 1 (mV 19)))))))))
  (mIfS (mNot (mTst (mCall (chk 2 f__law_says) (axD (mCall (chk 2 f_is_kept) (axD (mV 3) (axD (mV 14) axNil))) (axD (mV 15) axNil))))) (mRet (mC (.bool false))) mSkip))))))))))))))))))
  (mSeq (mSet 16 (mCall (chk 1 f__law_odd_box) (axV 1 axNil)))
  (mSeq (mSet 17 (mOp fIx (mF (mLst (mCons (mC .none) (mCons (mF (mUnF fList (mV 8))) (mCons (mOp fAdd (mV 8) (mTup (mCons (mC (.int 0)) mNil))) (mCons (mOp fMulA (mTup (mCons (mC (.int 1)) mNil)) (mV 4)) (mCons (mOp fAdd (mTup (mCons (mC (.bool true)) mNil)) (mSlice (mV 8) (mPart (mC (.int 1))) mNoPart)) (mCons (mC (.int 5)) mNil)))))))) (mCall (chk 2 f__law_take) (axV 1 (axD (mC (.int 6)) axNil)))))
  (mSeq (mSet 18 (mOp fAdd (mF (mComp [20] (mRng1 (mC (.int 5))) (tName 20) mYes (mCall (chk 4 f__law_told) (axD (mV 20) (axD (mV 16) (axD (mTup (mCons (mC (.int 0)) mNil)) (axD (mTup (mCons (mC (.int 0)) mNil)) axNil))))))) (mF (mComp [20] (mItems (mTup (mCons (mC (.int 2)) (mCons (mC (.int 3)) mNil)))) (tName 20) mYes (mCall (chk 4 f__law_told) (axD (mV 20) (axD (mV 3) (axD (mV 17) (axD (mV 8) axNil)))))))))
  (mRet (mOp fEq (mOp fAdd (mV 18) (mF (mComp [20] (mItems (mTup (mCons (mC (.int 2)) (mCons (mC (.int 3)) mNil)))) (tName 20) mYes (mCall (chk 4 f__law_told) (axD (mV 20) (axD (mV 3) (axD (mV 8) (axD (mV 17) axNil)))))))) (mOp fMul (mF (mLst (mCons (mC (.str "<malformed>")) mNil))) (mC (.int 9)))))))))
def t_law : TM Bool := ((TM.lift (rngT 0 (3 : Int))).bind fun z93 => TM.bindB (TM.forB t_law_f4 z93 (none, none, none)) (fun (l1 : ((Option (List ((Int × Int) × (Int × Int)))) × (Option Int) × (Option (List Int)))) => (t__law_odd_box.bind fun x72 => ((TM.lift l1.2.1).bind fun v73 => ((TM.lift l1.2.2).bind fun v74 => (((((TM.lift (catT v74 [(0 : Int)])).bind fun x => TM.pure ((eT PyData.int) x)).bind fun c76 => (((TM.lift (repT1 [(1 : Int)] v73)).bind fun x => TM.pure ((eT PyData.int) x)).bind fun c77 => ((((TM.lift (some ((cutL v74 (some (1 : Int)) none).map PyData.int))).bind fun c75 => (TM.lift (catT [PyData.bool true] c75))).bind fun x => TM.pure ((eT eA) x)).bind fun c78 => TM.pure [(eU ()), ((eL PyData.int) v74), c76, c77, c78, (PyData.int (5 : Int))]))).bind fun c79 => ((t__law_take (6 : Int)).bind fun c80 => (TM.lift (atI c79 c80)))).bind fun x81 => ((TM.lift l1.1).bind fun v82 => ((((TM.lift (rngT 0 (5 : Int))).bind fun z84 => TM.compL (fun y83 => (TM.pure true)) (fun y83 => (t__law_told y83 x72 ((e1 PyData.int) (0 : Int)) ((e1 PyData.int) (0 : Int)))) z84).bind fun c86 => ((TM.compL (fun y85 => (TM.pure true)) (fun y85 => (t__law_told y85 ((eT (e2 (e2 PyData.int PyData.int) (e2 PyData.int PyData.int))) v82) x81 ((eT PyData.int) v74))) [((2 : Int), (3 : Int)).1, ((2 : Int), (3 : Int)).2]).bind fun c87 => (TM.lift (catT c86 c87)))).bind fun x88 => ((((TM.compL (fun y89 => (TM.pure true)) (fun y89 => (t__law_told y89 ((eT (e2 (e2 PyData.int PyData.int) (e2 PyData.int PyData.int))) v82) ((eT PyData.int) v74) x81)) [((2 : Int), (3 : Int)).1, ((2 : Int), (3 : Int)).2]).bind fun c90 => (TM.lift (catT x88 c90))).bind fun x => TM.pure ((eL eA) x)).bind fun c91 => (((TM.lift (repL [("<malformed>" : Str)] (9 : Int))).bind fun x => TM.pure ((eL PyData.str) x)).bind fun c92 => (TM.lift (eqA c91 c92))))))))))) (fun r => r))
set_option maxHeartbeats 4000000 in
theorem r_law (ns : List Int) : RG (.v (.scr ns) :: .v .drw :: List.replicate 19 (.v .un)) m_law_rest t_law (PR PyData.bool) := (s_forB (e := PyData.bool) (g := fun r => r) (ea := PyData.int) (k := (fun (l1 : ((Option (List ((Int × Int) × (Int × Int)))) × (Option Int) × (Option (List Int)))) => [.v (.scr ns), .v .drw, .j, (kopt (eT (e2 (e2 PyData.int PyData.int) (e2 PyData.int PyData.int))) l1.1), (kopt PyData.int l1.2.1), .j, .j, .j, (kopt (eT PyData.int) l1.2.2), .j, .j, .j, .j, .j, .j, .j, .v .un, .v .un, .v .un, .v .un, .v .un])) (l0 := (none, none, none)) (c_rng1V v_c) (by exact (.cons .r (.cons .r (.cons .u (.cons .r (.cons .r (.cons .u (.cons .u (.cons .u (.cons .r (.cons .u (.cons .u (.cons .u (.cons .u (.cons .u (.cons .u (.cons .u (.cons .r (.cons .r (.cons .r (.cons .r (.cons .r .nil)))))))))))))))))))))) (fun l1 y2 => (tk_name rfl)) (fun l1 y2 => by exact (s_setC (c_call (x_v rfl (x_d v_c (x_nil (x_fin (r__law_box (5 : Int))))))) (setOk_o (e := (eT (e2 (e2 PyData.int PyData.int) (e2 PyData.int PyData.int)))) (o := l1.1) rfl) fun x3 => by exact (s_setV (y := PyData.int (x3.length : Int)) (v_un (v_v rfl) (o_lenT (e2 (e2 PyData.int PyData.int) (e2 PyData.int PyData.int)) x3)) (setOk_o (e := PyData.int) (o := l1.2.1) rfl) (by exact (s_setC (c_call (x_d (v_v rfl) (x_nil (x_fin (r__law_partitions (x3.length : Int)))))) rfl fun x4 => by exact (s_setC (c_F (e' := (eL (eT PyData.int))) (c_compI (ea := (eT PyData.int)) (p := fun y5 => (t__law_keeps x3 y5)) (g := fun y5 => (TM.pure y5)) (e := (eT PyData.int)) (v_items (v_v rfl) rfl) rfl (fun y5 => (tk_name rfl)) (fun y5 => (c_tst (c_call (x_d (v_v rfl) (x_d (v_v rfl) (x_nil (x_fin (r__law_keeps x3 y5)))))))) (fun y5 => (RV.re (e := (eT PyData.int)) (x := y5) (v_v rfl))))) rfl fun x6 => by exact (s_ifC (c_tst (re_bind (RE.mapE PyData.str (re_bind (c_call (x_d (v_v rfl) (x_nil (x_fin (r_kept_partitions ((eT (e2 (e2 PyData.int PyData.int) (e2 PyData.int PyData.int))) x3)))))) fun c7 => (re_lift (o_repr ((eT (eT PyData.int)) c7)))) fun _ => rfl) fun c10 => (re_bind (RE.mapE PyData.str (re_bind (re_bind (c_F (e' := (eL (eT PyData.int))) (rv_bind (v_v rfl) (re_lift (o_sort (eT PyData.int) x6)))) fun c8 => (re_liftP rfl)) fun c9 => (re_lift (o_repr ((eT (eT PyData.int)) c9)))) fun _ => rfl) fun c11 => (re_lift (o_neA c10 c11))))) (by exact (s_retV (r := Sum.inr false) v_c rfl)) (by exact (s_skipS (s_setV (y := (eL (e2 (eT PyData.int) (eT PyData.int))) ([] : (List ((List Int) × (List Int))))) (v_F (v_lst v_nil)) rfl (by exact (s_forI (ea := (eT PyData.int)) (k := (fun (l12 : ((List ((List Int) × (List Int))) × (Option (List Int)))) => [.v (.scr ns), .v .drw, .v (.d (PyData.int y2)), .v (.d ((eT (e2 (e2 PyData.int PyData.int) (e2 PyData.int PyData.int))) x3)), .v (.d (PyData.int (x3.length : Int))), .v (.d ((eL (eT PyData.int)) x4)), .v (.d ((eL (eT PyData.int)) x6)), .v (.d ((eL (e2 (eT PyData.int) (eT PyData.int))) l12.1)), (kopt (eT PyData.int) l12.2), .j, .j, .j, .j, .j, .j, .j, .v .un, .v .un, .v .un, .v .un, .v .un])) (l0 := (([] : (List ((List Int) × (List Int)))), l1.2.2)) (v_items (v_v rfl) rfl) (by exact (.cons .r (.cons .r (.cons .r (.cons .r (.cons .r (.cons .r (.cons .r (.cons .r (.cons .r (.cons .r (.cons .r (.cons .r (.cons .r (.cons .r (.cons .r (.cons .r (.cons .r (.cons .r (.cons .r (.cons .r (.cons .r .nil)))))))))))))))))))))) (fun l12 y13 => (tk_name (setOk_o (e := (eT PyData.int)) (o := l12.2) rfl))) (fun l12 y13 => by exact (s_end (s_setC (rv_bind (v_v rfl) (re_bind (c_F (e' := (eL (e2 (eT PyData.int) (eT PyData.int)))) (c_compI (ea := (eT PyData.int)) (p := fun y14 => (if (HT.lexLt y13 y14) then ((((TM.lift (zipT y13 y14)).bind fun c15 => (t__law_numbered_v2 c15)).bind fun c17 => (((TM.lift (rngL 0 (x3.length : Int))).bind fun xs => TM.lift (tupT xs)).bind fun c18 => TM.pure (decide (c17 = c18)))).bind fun k24 => (if k24 then ((((TM.lift (maxT y13)).bind fun c19 => TM.pure (c19 + (1 : Int))).bind fun c20 => TM.pure (decide (c20 < (x3.length : Int)))).bind fun k23 => (if k23 then (((TM.lift (maxT y14)).bind fun c21 => TM.pure (c21 + (1 : Int))).bind fun c22 => TM.pure (decide (c22 < (x3.length : Int)))) else TM.pure false)) else TM.pure false)) else TM.pure false)) (g := fun y14 => (TM.pure (y13, y14))) (e := (e2 (eT PyData.int) (eT PyData.int))) (v_items (v_v rfl) rfl) rfl (fun y14 => (tk_name rfl)) (fun y14 => (c_and (v_tst (v_op (v_v rfl) (v_v rfl) (o_ltR y13 y14))) (cc_and (c_tst (re_bind (c_call (x_dC (c_F (e' := (eL (e2 PyData.int PyData.int))) (rv_bind (v_v rfl) (rv_bind (v_v rfl) (re_lift (o_zip PyData.int PyData.int y13 y14))))) fun c15 => (x_nil (x_fin (r__law_numbered_v2 c15))))) fun c17 => (re_bind (c_tupT (c_rgL1V (v_v rfl))) fun c18 => (re_liftP (o_eq (eqE_T eqE_int) c17 c18))))) (cc_and (c_tst (re_bind (re_bind (rv_bind (v_v rfl) (re_lift (o_maxAT y13))) fun c19 => (rv_bind v_c (re_liftP (o_add c19 (1 : Int))))) fun c20 => (rv_bind (v_v rfl) (re_liftP (o_lt c20 (x3.length : Int)))))) (c_tst (re_bind (re_bind (rv_bind (v_v rfl) (re_lift (o_maxAT y14))) fun c21 => (rv_bind v_c (re_liftP (o_add c21 (1 : Int))))) fun c22 => (rv_bind (v_v rfl) (re_liftP (o_lt c22 (x3.length : Int)))))))))) (fun y14 => (RV.re (e := (e2 (eT PyData.int) (eT PyData.int))) (x := (y13, y14)) (v_tup (v_cons (v_v rfl) (v_cons (v_v rfl) v_nil))))))) fun c25 => (re_lift (o_addL (e2 (eT PyData.int) (eT PyData.int)) l12.1 c25)))) rfl fun x26 => by exact (s_skip (l := (x26, (some y13))) (.cons .r (.cons .r (.cons .r (.cons .r (.cons .r (.cons .r (.cons .r (.cons .r (.cons .r (.cons .r (.cons .r (.cons .r (.cons .r (.cons .r (.cons .r (.cons .r (.cons .r (.cons .r (.cons .r (.cons .r (.cons .r .nil))))))))))))))))))))))))) (fun l12 => by exact (s_ifC (c_tst (re_bind (RE.mapE PyData.str (re_bind (c_call (x_d (v_v rfl) (x_nil (x_fin (r_splits ((eT (e2 (e2 PyData.int PyData.int) (e2 PyData.int PyData.int))) x3)))))) fun c27 => (re_lift (o_repr ((eT (e2 (eT PyData.int) (eT PyData.int))) c27)))) fun _ => rfl) fun c30 => (re_bind (RE.mapE PyData.str (re_bind (re_bind (c_F (e' := (eL (e2 (eT PyData.int) (eT PyData.int)))) (rv_bind (v_v rfl) (re_lift (o_sort (e2 (eT PyData.int) (eT PyData.int)) l12.1)))) fun c28 => (re_liftP rfl)) fun c29 => (re_lift (o_repr ((eT (e2 (eT PyData.int) (eT PyData.int))) c29)))) fun _ => rfl) fun c31 => (re_lift (o_neA c30 c31))))) (by exact (s_retV (r := Sum.inr false) v_c rfl)) (by exact (s_skipS (s_end (s_forB (e := PyData.bool) (g := fun r => (Sum.inr r)) (ea := PyData.int) (k := (fun (l32 : (Option (List Int))) => [.v (.scr ns), .v .drw, .v (.d (PyData.int y2)), .v (.d ((eT (e2 (e2 PyData.int PyData.int) (e2 PyData.int PyData.int))) x3)), .v (.d (PyData.int (x3.length : Int))), .v (.d ((eL (eT PyData.int)) x4)), .v (.d ((eL (eT PyData.int)) x6)), .v (.d ((eL (e2 (eT PyData.int) (eT PyData.int))) l12.1)), (kopt (eT PyData.int) l32), .j, .j, .j, .j, .j, .j, .j, .v .un, .v .un, .v .un, .v .un, .v .un])) (l0 := l12.2) (c_rng1V v_c) (by exact (.cons .r (.cons .r (.cons .r (.cons .r (.cons .r (.cons .r (.cons .r (.cons .r (.cons .r (.cons .r (.cons .r (.cons .r (.cons .r (.cons .r (.cons .r (.cons .r (.cons .r (.cons .r (.cons .r (.cons .r (.cons .r .nil)))))))))))))))))))))) (fun l32 y33 => (tk_name rfl)) (fun l32 y33 => by exact (s_setC (cc_if (c_tst (re_bind (c_call (x_v rfl (x_d v_c (x_nil (x_fin (r__law_take (2 : Int))))))) fun c34 => (rv_bind v_c (re_liftP (o_eq eqE_int c34 (0 : Int)))))) (RV.re (e := (eL (eT PyData.int))) (x := x6) (v_v rfl)) (RV.re (e := (eL (eT PyData.int))) (x := x4) (v_v rfl))) rfl fun x36 => by exact (s_asgC (k_consC (rv_bind (v_v rfl) (re_bind (c_call (x_v rfl (x_d (v_un (v_v rfl) (o_lenL (eT PyData.int) x36)) (x_nil (x_fin (r__law_take (x36.length : Int))))))) fun c37 => (re_lift (o_ixL (eT PyData.int) x36 c37)))) fun c39 => (k_consC (rv_bind (v_v rfl) (re_bind (c_call (x_v rfl (x_d (v_un (v_v rfl) (o_lenL (eT PyData.int) x36)) (x_nil (x_fin (r__law_take (x36.length : Int))))))) fun c38 => (re_lift (o_ixL (eT PyData.int) x36 c38)))) fun c40 => (k_nil (k_tup (e := (e2 (eT PyData.int) (eT PyData.int))) (p := (c39, c40)))))) (fun x41 => (tk_tup (tks_cons (tk_name (setOk_o (e := (eT PyData.int)) (o := l32) rfl)) (tks_cons (tk_name rfl) tks_nil)))) fun x41 => by exact (s_exC (c_call (x_d (v_v rfl) (x_d (v_v rfl) (x_d (v_v rfl) (x_nil (x_fin (r_common ((eT (e2 (e2 PyData.int PyData.int) (e2 PyData.int PyData.int))) x3) ((eT PyData.int) x41.1) ((eT PyData.int) x41.2)))))))) fun x42 => by exact (s_exC (c_call (x_d (v_v rfl) (x_d (v_v rfl) (x_d (v_v rfl) (x_nil (x_fin (r_together ((eT (e2 (e2 PyData.int PyData.int) (e2 PyData.int PyData.int))) x3) ((eT PyData.int) x41.1) ((eT PyData.int) x41.2)))))))) fun x43 => by exact (s_putS rfl rfl (by exact (s_ifC (cc_or (c_tst (rv_bind (v_v rfl) (re_bind (c_call (x_dC (c_F (e' := (eL (e2 PyData.int PyData.int))) (rv_bind (v_v rfl) (rv_bind (v_v rfl) (re_lift (o_zip PyData.int PyData.int x41.1 x41.2))))) fun c44 => (x_nil (x_fin (r__law_numbered_v2 c44))))) fun c45 => (re_liftP (o_ne (eqE_T eqE_int) x42 c45))))) (c_tst (rv_bind (v_v rfl) (re_bind (c_call (x_d (v_v rfl) (x_d (v_v rfl) (x_nil (x_fin (r__law_together x41.1 x41.2)))))) fun c46 => (re_liftP (o_ne (eqE_T eqE_int) x43 c46)))))) (by exact (s_retV (r := Sum.inr false) v_c rfl)) (by exact (s_skipS (s_ifV (v_and (v_tst (v_op (v_v rfl) (v_v rfl) (o_inL (eqE_T eqE_int) x41.1 x6))) (v_and (v_tst (v_op (v_v rfl) (v_v rfl) (o_inL (eqE_T eqE_int) x41.2 x6))) (v_or (v_tst (v_op (v_v rfl) (v_v rfl) (o_ninL (eqE_T eqE_int) x42 x6))) (v_tst (v_op (v_v rfl) (v_v rfl) (o_ninL (eqE_T eqE_int) x43 x6)))))) (by exact (s_retV (r := Sum.inr false) v_c rfl)) (by exact (s_skipS (s_end (s_forB (e := PyData.bool) (g := fun r => (Sum.inr r)) (ea := eA) (k := (fun (l55 : Unit) => [.v (.scr ns), .v .drw, .v (.d (PyData.int y2)), .v (.d ((eT (e2 (e2 PyData.int PyData.int) (e2 PyData.int PyData.int))) x3)), .v (.d (PyData.int (x3.length : Int))), .v (.d ((eL (eT PyData.int)) x4)), .v (.d ((eL (eT PyData.int)) x6)), .v (.d ((eL (e2 (eT PyData.int) (eT PyData.int))) l12.1)), .v (.d ((eT PyData.int) x41.1)), .v (.d (PyData.int y33)), .v (.d ((eL (eT PyData.int)) x36)), .v (.d ((eT PyData.int) x41.2)), .v (.d ((eT PyData.int) x42)), .v (.d ((eT PyData.int) x43)), .j, .j, .v .un, .v .un, .v .un, .v .un, .v .un])) (l0 := ()) (c_items (e := List.map eA) (c_F (e' := (eL eA)) (k_cons (v_v rfl) (k_cons (v_v rfl) (k_cons (v_F (v_unF (v_v rfl) rfl)) (k_cons (v_slice (v_v rfl) (v_part v_c) v_noPart (o_slT PyData.int _ _ _)) (k_consC (RE.mapE (eT PyData.int) (rv_bind (v_v rfl) (rv_bind (v_tup (v_cons v_c v_nil)) (re_lift (o_addT PyData.int x41.1 [(0 : Int)])))) fun _ => rfl) fun c51 => (k_consC (RE.mapE (eT eA) (rv_bind (v_tup (v_cons v_c v_nil)) (re_bind (RE.castGV (g := fun x => some (x.map PyData.int)) (e := eT PyData.int) (e' := eT eA) (v_slice (v_v rfl) (v_part v_c) v_noPart (o_slT PyData.int _ _ _)) (castA PyData.int)) fun c48 => (re_lift (o_addT eA [PyData.bool true] c48)))) fun _ => rfl) fun c52 => (k_consC (RE.mapE (eT PyData.int) (rv_bind (v_tup (v_cons v_c v_nil)) (rv_bind (v_v rfl) (re_lift (o_repT1 PyData.int [(1 : Int)] (x3.length : Int))))) fun _ => rfl) fun c53 => (k_cons v_c (k_consC (RE.mapE (eT PyData.int) (re_bind (c_F (e' := (eL PyData.int)) (c_compVI (ea := PyData.int) (p := fun y49 => true) (g := fun y49 => (y49 + (1 : Int))) (e := PyData.int) (v_items (v_v rfl) rfl) rfl (fun y49 => (tk_name rfl)) (fun y49 => v_yes) (fun y49 => (v_op (v_v rfl) v_c (o_add y49 (1 : Int)))))) fun c50 => (re_liftP rfl)) fun _ => rfl) fun c54 => (k_nil (k_lst (e := (List.map eA)) (p := [((eT PyData.int) x41.1), ((eT PyData.int) x41.2), ((eL PyData.int) x41.1), ((eT PyData.int) (cutL x41.1 (some (1 : Int)) none)), c51, c52, c53, (eU ()), c54]))))))))))))) fun _ => rfl) (by exact (.cons .r (.cons .r (.cons .r (.cons .r (.cons .r (.cons .r (.cons .r (.cons .r (.cons .r (.cons .r (.cons .r (.cons .r (.cons .r (.cons .r (.cons .r (.cons .r (.cons .r (.cons .r (.cons .r (.cons .r (.cons .r .nil)))))))))))))))))))))) (fun l55 y56 => (tk_name rfl)) (fun l55 y56 => by exact (s_setC (cc_andV (c_isiV (n := 2) (v_v rfl)) (cc_andV (rv_bind (v_v rfl) (rv_bind (v_v rfl) (re_lift (o_inA y56 ((eL (eT PyData.int)) x6))))) (re_bind (re_bind (c_F (e' := (eL PyData.bool)) (c_comp (ea := eA) (p := fun y57 => (TM.pure true)) (g := fun y57 => (TM.lift (isOf "bool" y57))) (e := PyData.bool) (c_itemsA (v_v rfl)) rfl (fun y57 => (tk_name rfl)) (fun y57 => (RV.re (e := id) (x := true) v_yes)) (fun y57 => (c_isiV (n := 1) (v_v rfl))))) fun c59 => (re_liftP (o_any c59))) fun c60 => (re_liftP (o_notB c60))))) rfl fun x63 => by exact (s_end (s_ifC (c_not (c_tst (c_call (x_dC (RE.mapE PyData.bool (c_call (x_d (v_v rfl) (x_d (v_v rfl) (x_nil (x_fin (r_is_kept ((eT (e2 (e2 PyData.int PyData.int) (e2 PyData.int PyData.int))) x3) y56)))))) fun _ => rfl) fun c64 => (x_d (v_v rfl) (x_nil (x_fin (r__law_says c64 x63)))))))) (by exact (s_retV (r := Sum.inr false) v_c rfl)) (by exact (s_skipS (s_skipB (l := ()) (.cons .r (.cons .r (.cons .r (.cons .r (.cons .r (.cons .r (.cons .r (.cons .r (.cons .r (.cons .r (.cons .r (.cons .r (.cons .r (.cons .r (.cons .d (.cons .d (.cons .r (.cons .r (.cons .r (.cons .r (.cons .r .nil)))))))))))))))))))))))))))) (fun l55 => by exact (s_skipB (l := (some x41.1)) (.cons .r (.cons .r (.cons .r (.cons .r (.cons .r (.cons .r (.cons .r (.cons .r (.cons .r (.cons .d (.cons .d (.cons .d (.cons .d (.cons .d (.cons .r (.cons .r (.cons .r (.cons .r (.cons .r (.cons .r (.cons .r .nil))))))))))))))))))))))) (fun _ => rfl)))))))))))))))) (fun l32 => by exact (s_skipB (l := ((some x3), (some (x3.length : Int)), l32)) (.cons .r (.cons .r (.cons .d (.cons .r (.cons .r (.cons .d (.cons .d (.cons .d (.cons .r (.cons .r (.cons .r (.cons .r (.cons .r (.cons .r (.cons .r (.cons .r (.cons .r (.cons .r (.cons .r (.cons .r (.cons .r .nil))))))))))))))))))))))) (fun _ => rfl))))))))))))))))))) (fun l1 => by exact (s_setC (c_call (x_v rfl (x_nil (x_fin r__law_odd_box)))) rfl fun x72 => by exact (s_unopt 4 (e := PyData.int) rfl fun v73 => (s_unopt 8 (e := (eT PyData.int)) rfl fun v74 => (s_setC (re_bind (c_F (e' := (eL eA)) (k_cons v_c (k_cons (v_F (v_unF (v_v rfl) rfl)) (k_consC (RE.mapE (eT PyData.int) (rv_bind (v_v rfl) (rv_bind (v_tup (v_cons v_c v_nil)) (re_lift (o_addT PyData.int v74 [(0 : Int)])))) fun _ => rfl) fun c76 => (k_consC (RE.mapE (eT PyData.int) (rv_bind (v_tup (v_cons v_c v_nil)) (rv_bind (v_v rfl) (re_lift (o_repT1 PyData.int [(1 : Int)] v73)))) fun _ => rfl) fun c77 => (k_consC (RE.mapE (eT eA) (rv_bind (v_tup (v_cons v_c v_nil)) (re_bind (RE.castGV (g := fun x => some (x.map PyData.int)) (e := eT PyData.int) (e' := eT eA) (v_slice (v_v rfl) (v_part v_c) v_noPart (o_slT PyData.int _ _ _)) (castA PyData.int)) fun c75 => (re_lift (o_addT eA [PyData.bool true] c75)))) fun _ => rfl) fun c78 => (k_cons v_c (k_nil (k_lst (e := (List.map eA)) (p := [(eU ()), ((eL PyData.int) v74), c76, c77, c78, (PyData.int (5 : Int))])))))))))) fun c79 => (re_bind (c_call (x_v rfl (x_d v_c (x_nil (x_fin (r__law_take (6 : Int))))))) fun c80 => (re_lift (o_ixL eA c79 c80)))) rfl fun x81 => by exact (s_unopt 3 (e := (eT (e2 (e2 PyData.int PyData.int) (e2 PyData.int PyData.int)))) rfl fun v82 => (s_setC (re_bind (c_F (e' := (eL eA)) (c_comp (ea := PyData.int) (p := fun y83 => (TM.pure true)) (g := fun y83 => (t__law_told y83 x72 ((e1 PyData.int) (0 : Int)) ((e1 PyData.int) (0 : Int)))) (e := eA) (c_rng1V v_c) rfl (fun y83 => (tk_name rfl)) (fun y83 => (RV.re (e := id) (x := true) v_yes)) (fun y83 => (c_call (x_d (v_v rfl) (x_d (v_v rfl) (x_d (v_tup (v_cons v_c v_nil)) (x_d (v_tup (v_cons v_c v_nil)) (x_nil (x_fin (r__law_told y83 x72 ((e1 PyData.int) (0 : Int)) ((e1 PyData.int) (0 : Int))))))))))))) fun c86 => (re_bind (c_F (e' := (eL eA)) (c_compI (ea := PyData.int) (p := fun y85 => (TM.pure true)) (g := fun y85 => (t__law_told y85 ((eT (e2 (e2 PyData.int PyData.int) (e2 PyData.int PyData.int))) v82) x81 ((eT PyData.int) v74))) (e := eA) (v_items (v_tup (v_cons v_c (v_cons v_c v_nil))) rfl) rfl (fun y85 => (tk_name rfl)) (fun y85 => (RV.re (e := id) (x := true) v_yes)) (fun y85 => (c_call (x_d (v_v rfl) (x_d (v_v rfl) (x_d (v_v rfl) (x_d (v_v rfl) (x_nil (x_fin (r__law_told y85 ((eT (e2 (e2 PyData.int PyData.int) (e2 PyData.int PyData.int))) v82) x81 ((eT PyData.int) v74)))))))))))) fun c87 => (re_lift (o_addL eA c86 c87)))) rfl fun x88 => by exact (s_end (s_retR (re_bind (RE.mapE (eL eA) (rv_bind (v_v rfl) (re_bind (c_F (e' := (eL eA)) (c_compI (ea := PyData.int) (p := fun y89 => (TM.pure true)) (g := fun y89 => (t__law_told y89 ((eT (e2 (e2 PyData.int PyData.int) (e2 PyData.int PyData.int))) v82) ((eT PyData.int) v74) x81)) (e := eA) (v_items (v_tup (v_cons v_c (v_cons v_c v_nil))) rfl) rfl (fun y89 => (tk_name rfl)) (fun y89 => (RV.re (e := id) (x := true) v_yes)) (fun y89 => (c_call (x_d (v_v rfl) (x_d (v_v rfl) (x_d (v_v rfl) (x_d (v_v rfl) (x_nil (x_fin (r__law_told y89 ((eT (e2 (e2 PyData.int PyData.int) (e2 PyData.int PyData.int))) v82) ((eT PyData.int) v74) x81))))))))))) fun c90 => (re_lift (o_addL eA x88 c90)))) fun _ => rfl) fun c91 => (re_bind (RE.mapE (eL PyData.str) (rv_bind (v_F (v_lst (v_cons v_c v_nil))) (rv_bind v_c (re_lift (o_repL PyData.str [("<malformed>" : Str)] (9 : Int))))) fun _ => rfl) fun c92 => (re_lift (o_eqA c91 c92))))))))))))) (fun _ => .inl rfl))
theorem law_rest : m_law = mDraw 1 (mCallF (chk 1 f__law_draw) (axV 0 axNil)) m_law_rest := rfl
end Lw

/-! PB1: boxes, walks, rows: plain mathematics. -/
namespace Lw
open PySem PySem.Spec L2 DL

/-- a state's two moves: where to and what is put out -/
abbrev Row := (Int × Int) × (Int × Int)
def okMv (n : Int) (m : Int × Int) : Prop := (0 ≤ m.1 ∧ m.1 < n) ∧ 0 ≤ m.2 ∧ m.2 < 2
def okRow (n : Int) (r : Row) : Prop := okMv n r.1 ∧ okMv n r.2
/-! ### the walk of a row -/
def rowAt (b : List Row) (s : Int) : Row := b.getD s.toNat ((0, 0), (0, 0))
def mv (b : List Row) (s x : Int) : Int × Int := if x = 0 then (rowAt b s).1 else (rowAt b s).2
def wkO (b : List Row) : Int → List Int → List Int
  | _, [] => []
  | s, x :: r => (mv b s x).2 :: wkO b (mv b s x).1 r
def wkS (b : List Row) : Int → List Int → Int
  | s, [] => s
  | s, x :: r => wkS b (mv b s x).1 r
def Bin (r : List Int) : Prop := ∀ x ∈ r, x = 0 ∨ x = 1
structure BoxOk (b : List Row) : Prop where
  one : 1 ≤ b.length
  five : b.length ≤ 5
  rows : ∀ r ∈ b, okRow b.length r
section
variable {b : List Row}
theorem wkO_add (x : Int) : ∀ (r : List Int) (s : Int), wkO b s (r ++ [x]) = wkO b s r ++ [(mv b (wkS b s r) x).2]
  | [], _ => rfl
  | y :: r, s => by
    show (mv b s y).2 :: wkO b (mv b s y).1 (r ++ [x]) = _
    rw [wkO_add x r]
    rfl
theorem wkS_add (x : Int) : ∀ (r : List Int) (s : Int), wkS b s (r ++ [x]) = (mv b (wkS b s r) x).1
  | [], _ => rfl
  | y :: r, s => by
    show wkS b (mv b s y).1 (r ++ [x]) = _
    rw [wkS_add x r]
    rfl
theorem wkO_len : ∀ (r : List Int) (s : Int), (wkO b s r).length = r.length
  | [], _ => rfl
  | y :: r, s => by
    show (wkO b _ r).length + 1 = r.length + 1
    rw [wkO_len r]
theorem BoxOk.row (B : BoxOk b) {s : Int} (h : 0 ≤ s ∧ s < (b.length : Int)) : okRow b.length (rowAt b s) := by
  have hl : s.toNat < b.length := by omega
  unfold rowAt
  rw [List.getD_eq_getElem?_getD, List.getElem?_eq_getElem hl]
  exact B.rows _ (List.getElem_mem hl)
theorem BoxOk.mv (B : BoxOk b) {s x : Int} (h : 0 ≤ s ∧ s < (b.length : Int)) : okMv b.length (mv b s x) := by
  unfold Lw.mv
  split
  · exact (B.row h).1
  · exact (B.row h).2
theorem BoxOk.wkS (B : BoxOk b) : ∀ (r : List Int) (s : Int), 0 ≤ s ∧ s < (b.length : Int) → 0 ≤ wkS b s r ∧ wkS b s r < (b.length : Int)
  | [], _, h => h
  | x :: r, s, h => B.wkS r _ (B.mv h).1
theorem BoxOk.wkO (B : BoxOk b) : ∀ (r : List Int) (s : Int), 0 ≤ s ∧ s < (b.length : Int) → Bin (wkO b s r)
  | [], _, _ => fun x h => nomatch h
  | x :: r, s, h => fun y hy => by
    rcases List.mem_cons.mp hy with e | e
    · have q := (B.mv (x := x) h).2
      rw [e]
      omega
    · exact B.wkO r _ (B.mv h).1 y e
end
/-! ### rows -/
def allR : Nat → List (List Int)
  | 0 => [[]]
  | n + 1 => (allR n).flatMap fun r => [r ++ [0], r ++ [1]]
theorem allR_len : ∀ n, (allR n).length = 2 ^ n
  | 0 => rfl
  | n + 1 => by
    show ((allR n).flatMap _).length = _
    rw [List.length_flatMap]
    have : ((allR n).map fun r => [r ++ [(0 : Int)], r ++ [1]].length) = (allR n).map fun _ => 2 := rfl
    rw [this, Nat.pow_succ, ← allR_len n]
    induction allR n with
    | nil => rfl
    | cons y r ih =>
      rw [List.map_cons, List.sum_cons, ih, List.length_cons]
      omega
theorem allR_mem : ∀ (n : Nat) (r : List Int), r.length = n → Bin r → r ∈ allR n
  | 0, r, h, _ => by
    rw [List.length_eq_zero_iff.mp h]
    exact List.mem_cons_self
  | n + 1, r, h, hb => by
    have ne : r ≠ [] := fun e => by rw [e] at h; cases h
    have e := List.dropLast_concat_getLast ne
    have hm := allR_mem n r.dropLast (by rw [List.length_dropLast]; omega) fun x hx => hb x (List.dropLast_subset _ hx)
    refine List.mem_flatMap.mpr ⟨_, hm, ?_⟩
    rcases hb _ (List.getLast_mem ne) with q | q
    · rw [q] at e; rw [← e]; simp
    · rw [q] at e; rw [← e]; simp
theorem allR_ok : ∀ n : Nat, ∀ r ∈ allR n, r.length = n ∧ Bin r
  | 0, r, h => by
    rw [List.mem_singleton.mp h]
    exact ⟨rfl, fun _ q => nomatch q⟩
  | n + 1, r, h => by
    obtain ⟨s, hs, q⟩ := List.mem_flatMap.mp h
    obtain ⟨h1, h2⟩ := allR_ok n s hs
    rcases List.mem_cons.mp q with e | q
    · rw [e, List.length_append, h1]
      refine ⟨rfl, fun x hx => ?_⟩
      rcases List.mem_append.mp hx with w | w
      · exact h2 x w
      · exact .inl (List.mem_singleton.mp w)
    · rw [List.mem_singleton.mp q, List.length_append, h1]
      refine ⟨rfl, fun x hx => ?_⟩
      rcases List.mem_append.mp hx with w | w
      · exact h2 x w
      · exact .inr (List.mem_singleton.mp w)
theorem allR_nd {n : Nat} (h : n ≤ 7) : (allR n).Nodup := by
  have : ∀ n : Nat, n ≤ 7 → (allR n).Nodup := by decide +kernel
  exact this n h
end Lw

/-! TB1: boxes, drawn and checked, typed. -/
namespace Lw
open PySem PySem.Spec L2 DL

abbrev eBx (b : List Row) : PyData := eT (e2 (e2 PyData.int PyData.int) (e2 PyData.int PyData.int)) b
theorem pt (p : Prop) [Decidable p] (h : p) : decide p = true := decide_eq_true h
theorem pf (p : Prop) [Decidable p] (h : ¬ p) : decide p = false := decide_eq_false h
section
variable {b : List Row}
theorem is_move_t {n : Int} {m : Int × Int} (h : okMv n m) : t_is_move (e2 PyData.int PyData.int m) n = TM.pure true := by
  obtain ⟨a, c⟩ := m
  obtain ⟨⟨h1, h2⟩, h3, h4⟩ := h
  dsimp only at h1 h2 h3 h4
  have e : t_is_move (e2 PyData.int PyData.int (a, c)) n = (if decide (0 ≤ a) = true then TM.pure (decide (a < n)) else TM.pure false).bind fun k15 => if k15 = true then (if decide (0 ≤ c) = true then TM.pure (decide (c ≤ 1)) else TM.pure false) else TM.pure false := by with_unfolding_all rfl
  rw [e, if_pos (decide_eq_true h1), decide_eq_true h2, TM.pure_bind, if_pos rfl, if_pos (decide_eq_true h3), decide_eq_true (by omega : c ≤ 1)]
theorem BoxOk.len (B : BoxOk b) : b.length ≤ 16777216 := by have := B.five; omega
theorem is_box_t (B : BoxOk b) : t_is_box (eBx b) = TM.pure true := by
  have h1 := B.one
  have h5 := B.five
  have c1 : TM.compL (fun _ => TM.pure true) (fun y7 => ((TM.lift (isOf "tuple" y7)).bind fun k9 => (if k9 then ((TM.lift (lenA y7)).bind fun c8 => TM.pure (decide (c8 = (2 : Int)))) else TM.pure false))) (b.map (e2 (e2 PyData.int PyData.int) (e2 PyData.int PyData.int))) = TM.pure ((b.map (e2 (e2 PyData.int PyData.int) (e2 PyData.int PyData.int))).map fun _ => true) :=
    TM.compL_map (by rw [List.length_map]; exact B.len) fun x hx => by
      obtain ⟨r, _, rfl⟩ := List.mem_map.mp hx
      rfl
  have c2 : comp2A (fun _ => TM.pure true) (fun y13 => TM.lift (itemsOf y13)) (fun _ _ => TM.pure true) (fun _ y14 => t_is_move y14 (b.length : Int)) (b.map (e2 (e2 PyData.int PyData.int) (e2 PyData.int PyData.int))) [] = TM.pure (([] : List Bool) ++ ((b.map (e2 (e2 PyData.int PyData.int) (e2 PyData.int PyData.int))).filter fun _ => true).flatMap fun y => (((itemsOf y).getD []).filter fun _ => true).map fun _ => true) := by
    refine comp2A_pure (p' := fun _ => true) (mi' := fun y => (itemsOf y).getD []) (q' := fun _ _ => true) (g' := fun _ _ => true) (b := 2) _ _ (fun x hx => ⟨rfl, fun _ => ?_⟩) (by rw [List.length_map, List.length_nil]; omega)
    obtain ⟨r, hr, rfl⟩ := List.mem_map.mp hx
    refine ⟨rfl, Nat.le_refl _, fun y hy => ⟨rfl, fun _ => ?_⟩⟩
    have q := B.rows r hr
    rcases List.mem_cons.mp hy with e | e
    · rw [e]; exact is_move_t q.1
    · rw [List.mem_singleton.mp e]; exact is_move_t q.2
  have hl : lenA (eBx b) = some (b.length : Int) := by
    show some (((b.map _).length : Nat) : Int) = _
    rw [List.length_map]
  have hi : itemsOf (eBx b) = some (b.map (e2 (e2 PyData.int PyData.int) (e2 PyData.int PyData.int))) := rfl
  unfold t_is_box
  rw [hl, hi, show isOf "tuple" (eBx b) = some true from rfl]
  simp only [TM.lift_some, TM.pure_bind]
  rw [c1, c2]
  simp only [TM.pure_bind, List.nil_append]
  have a1 : (((b.map (e2 (e2 PyData.int PyData.int) (e2 PyData.int PyData.int))).map fun _ => true).all id) = true := by
    rw [List.all_map]; exact List.all_eq_true.mpr fun _ _ => rfl
  have a2 : ∀ l : List PyData, ((l.flatMap fun y => (((itemsOf y).getD []).filter fun _ => true).map fun _ => true).all id) = true := fun l => List.all_eq_true.mpr fun x hx => by
    obtain ⟨y, _, hy⟩ := List.mem_flatMap.mp hx
    obtain ⟨z, _, hz⟩ := List.mem_map.mp hy
    rw [← hz]; rfl
  rw [a1, a2, decide_eq_true (by omega : (1 : Int) ≤ b.length), decide_eq_true (by omega : (b.length : Int) ≤ 5)]
  rfl
theorem check_box_t (B : BoxOk b) : t_check_box (eBx b) = TM.pure () := by
  unfold t_check_box
  rw [is_box_t B]
  rfl
theorem atI_row (B : BoxOk b) {s : Int} (hs : 0 ≤ s ∧ s < (b.length : Int)) : atI b s = some (rowAt b s) := atI_nat hs.1 (by
  have hl : s.toNat < b.length := by omega
  unfold rowAt
  rw [List.getD_eq_getElem?_getD, List.getElem?_eq_getElem hl]
  rfl)
theorem atI_mv (r : Row) {x : Int} (h : x = 0 ∨ x = 1) : atI [r.1, r.2] x = some (if x = 0 then r.1 else r.2) := by
  rcases h with rfl | rfl <;> rfl
end
/-! ### drawn -/
theorem rngT_n {n : Nat} (h : n ≤ 1000000) : rngT 0 (n : Int) = some ((List.range n).map fun (k : Nat) => (k : Int)) := by
  unfold rngT
  rw [if_pos (by omega)]
  simp
theorem rngT_i {i : Int} (h0 : 0 ≤ i) (h : i ≤ 1000000) : rngT 0 i = some ((List.range i.toNat).map fun (k : Nat) => (k : Int)) := by
  have := rngT_n (n := i.toNat) (by omega)
  rw [show ((i.toNat : Nat) : Int) = i by omega] at this
  exact this
theorem rngL_n {n : Nat} (h : n ≤ 1000000) : rngL 0 (n : Int) = some ((List.range n).map fun (k : Nat) => (k : Int)) := by
  unfold rngL
  rw [if_pos (by omega)]
  simp
theorem rngL_i {i : Int} (h0 : 0 ≤ i) (h : i ≤ 1000000) : rngL 0 i = some ((List.range i.toNat).map fun (k : Nat) => (k : Int)) := by
  have := rngL_n (n := i.toNat) (by omega)
  rw [show ((i.toNat : Nat) : Int) = i by omega] at this
  exact this
theorem gives_while {L : Type} {c : L → TM Bool} {f : L → TM L} {I : DS → Prop} {J Q : L → Prop} (μ : L → Nat) (h : ∀ l, J l → (c l = TM.pure false ∧ Q l) ∨ (c l = TM.pure true ∧ Gives (f l) (fun l' => μ l' < μ l ∧ J l') I)) : ∀ (n : Nat) (l : L), μ l < n → J l → Gives (TM.whileT c f n l) Q I
  | 0, _, hk, _ => absurd hk (Nat.not_lt_zero _)
  | n + 1, l, hk, hJ => by
    unfold TM.whileT
    rcases h l hJ with ⟨h1, h2⟩ | ⟨h1, h2⟩
    · rw [h1, TM.pure_bind]; exact Gives.pure h2
    · rw [h1, TM.pure_bind, if_pos rfl]
      exact Gives.bind h2 fun l' hl' => gives_while μ h n l' (by omega) hl'.2
theorem order_gives {n : Int} (h0 : 0 ≤ n) (h1 : n ≤ 100) : Gives (t__law_order n) (fun xs => (xs.length : Int) = n ∧ ∀ x ∈ xs, 0 ≤ x ∧ x < n) DI := by
  unfold t__law_order
  rw [rngL_i h0 (by omega), TM.lift_some, TM.pure_bind]
  refine Gives.bind (P := fun l => l.1 = [] ∧ ((l.1.length + l.2.length : Nat) : Int) = n ∧ ∀ x, x ∈ l.1 ∨ x ∈ l.2 → 0 ≤ x ∧ x < n) (gives_while (J := fun l => ((l.1.length + l.2.length : Nat) : Int) = n ∧ ∀ x, x ∈ l.1 ∨ x ∈ l.2 → 0 ≤ x ∧ x < n) (fun l => l.1.length) (fun l hl => ?_) 1000 _ ?_ ⟨?_, fun x hx => ?_⟩) fun l hl => Gives.pure ⟨?_, fun x hx => hl.2.2 x (.inr hx)⟩
  · obtain ⟨l1, l2⟩ := l
    obtain ⟨j1, j2⟩ := hl
    unfold t__law_order_c1 t__law_order_f2
    dsimp only at j1 j2 ⊢
    cases l1 with
    | nil => exact .inl ⟨rfl, rfl, j1, j2⟩
    | cons a r =>
      refine .inr ⟨by rw [decide_eq_false (List.cons_ne_nil a r)]; rfl, Gives.bind (take_gives (by rw [List.length_cons]; omega) (by omega)) fun j hj => ?_⟩
      have jl : j.toNat < (a :: r).length := by omega
      have hp : popT (a :: r) j = some ((a :: r)[j.toNat], (a :: r).eraseIdx j.toNat) := by
        unfold popT
        rw [if_pos (by omega), List.getElem?_eq_getElem jl]
        rfl
      rw [hp, TM.lift_some, TM.pure_bind, appT_ok (by omega), TM.lift_some, TM.pure_bind]
      refine Gives.pure ⟨?_, ?_, fun x hx => ?_⟩
      · show ((a :: r).eraseIdx j.toNat).length < _
        rw [List.length_eraseIdx, if_pos jl]
        exact Nat.sub_lt (by omega) (by decide)
      · show ((((a :: r).eraseIdx j.toNat).length + (l2 ++ [(a :: r)[j.toNat]]).length : Nat) : Int) = n
        rw [List.length_eraseIdx, if_pos jl, List.length_append, List.length_singleton]
        rw [List.length_cons] at jl j1 ⊢
        omega
      · rcases hx with hx | hx
        · exact j2 x (.inl (List.mem_of_mem_eraseIdx hx))
        · rcases List.mem_append.mp hx with hx | hx
          · exact j2 x (.inr hx)
          · rw [List.mem_singleton.mp hx]
            exact j2 _ (.inl (List.getElem_mem jl))
  · rw [List.length_map, List.length_range]; omega
  · rw [List.length_map, List.length_range]; show ((n.toNat + 0 : Nat) : Int) = n; omega
  · rcases hx with hx | hx
    · obtain ⟨k, hk, rfl⟩ := List.mem_map.mp hx
      have := List.mem_range.mp hk
      omega
    · cases hx
  · have h := hl.2.1
    rw [hl.1] at h
    simpa using h
theorem paired_len {α β : Type} {P : α → β → Prop} : ∀ {xs : List α} {ys : List β}, Paired P xs ys → ys.length = xs.length
  | _, _, .nil => rfl
  | _, _, .cons _ t => congrArg Nat.succ (paired_len t)
theorem paired_mem {α β : Type} {P : α → β → Prop} : ∀ {xs : List α} {ys : List β}, Paired P xs ys → ∀ y ∈ ys, ∃ x ∈ xs, P x y
  | _, _, .nil, _, h => nomatch h
  | _, _, .cons a t, y, h => by
    rcases List.mem_cons.mp h with rfl | h
    · exact ⟨_, List.mem_cons_self, a⟩
    · obtain ⟨x, h1, h2⟩ := paired_mem t y h
      exact ⟨x, List.mem_cons_of_mem _ h1, h2⟩
theorem box_gives {most : Int} (hm : 0 < most ∧ most ≤ 5) : Gives (t__law_box most) (fun b => BoxOk b ∧ (b.length : Int) ≤ most) DI := by
  unfold t__law_box
  refine Gives.bind (Gives.bind (take_gives hm.1 (by omega)) fun c hc => Gives.pure (P := fun n => 1 ≤ n ∧ n ≤ most) (by omega)) fun n hn => Gives.bind (take_gives (by decide) (by decide)) fun kind _ => ?_
  rw [rngT_i (by omega) (by omega), TM.lift_some, TM.pure_bind]
  refine Gives.bind (P := fun l => (l.length : Int) = n ∧ ∀ r ∈ l, okRow n r) (Gives.imp (Gives.for (J := fun i l => l.length = i ∧ ∀ r ∈ l, okRow n r) _ 0 [] (fun i x l hx hl => ?_) ⟨rfl, fun _ h => nomatch h⟩) fun l hl => ⟨?_, hl.2⟩) fun l hl => Gives.bind (P := fun b => BoxOk b ∧ (b.length : Int) ≤ most) ?_ fun b hb => Gives.pure hb
  · have hil : i < n.toNat := by
      have := (List.getElem?_eq_some_iff.mp hx).1
      rwa [List.length_map, List.length_range] at this
    rw [Nat.zero_add] at hl ⊢
    unfold t__law_box_f1
    rw [show rngT 0 2 = some [0, 1] from by kernel_rfl, TM.lift_some, TM.pure_bind]
    refine Gives.bind (Gives.compL (P := fun _ m => okMv n m) (by decide) fun z _ => Gives.bind (take_gives (by omega) (by omega)) fun p hp => Gives.bind (take_gives (by decide) (by decide)) fun q hq => Gives.pure ⟨hp, hq⟩) fun ms hms => ?_
    have hms' : ∃ m1 m2, ms = [m1, m2] ∧ okMv n m1 ∧ okMv n m2 := by
      cases hms with
      | cons a t =>
        cases t with
        | cons a' t =>
          cases t
          exact ⟨_, _, rfl, a, a'⟩
    obtain ⟨m1, m2, rfl, g1, g2⟩ := hms'
    refine Gives.bind (P := fun l => ∃ m2', l = [m1, m2'] ∧ okMv n m2') ?_ fun l' hl' => ?_
    · by_cases hk : kind = 0
      · rw [if_pos (decide_eq_true hk)]
        exact Gives.of_eq (t' := TM.pure [(m1.1, m1.2), (m2.1, m1.2)]) (by with_unfolding_all rfl) (Gives.pure ⟨(m2.1, m1.2), rfl, g2.1, g1.2⟩)
      · rw [if_neg (by rw [decide_eq_false hk]; exact Bool.false_ne_true)]
        exact Gives.pure ⟨m2, rfl, g2⟩
    · obtain ⟨m2', rfl, g3⟩ := hl'
      rw [show lst2 [m1, m2'] = some (m1, m2') from rfl, TM.lift_some, TM.pure_bind, appT_ok (by omega), TM.lift_some, TM.pure_bind]
      refine Gives.pure ⟨by rw [List.length_append, hl.1]; rfl, fun r hr => ?_⟩
      rcases List.mem_append.mp hr with hr | hr
      · exact hl.2 r hr
      · rw [List.mem_singleton.mp hr]; exact ⟨g1, g3⟩
  · have h := hl.1
    rw [h, Nat.zero_add, List.length_map, List.length_range]
    omega
  · by_cases hk : kind = 1
    · rw [if_pos (decide_eq_true hk)]
      refine Gives.bind (P := fun p => ((p.1.length : Int) = n ∧ ∀ x ∈ p.1, 0 ≤ x ∧ x < n) ∧ (p.2.length : Int) = n ∧ ∀ x ∈ p.2, 0 ≤ x ∧ x < n) (Gives.bind (order_gives (by omega) (by omega)) fun o1 ho1 => Gives.bind (order_gives (by omega) (by omega)) fun o2 ho2 => Gives.pure ⟨ho1, ho2⟩) fun p hp => ?_
      obtain ⟨one, two⟩ := p
      obtain ⟨⟨a1, a2⟩, c1, c2⟩ := hp
      dsimp only at a1 a2 c1 c2 ⊢
      rw [TM.pure_bind]
      have hat : ∀ {xs : List Int} {k : Nat}, (xs.length : Int) = n → k < n.toNat → ∃ v, atI xs (k : Int) = some v ∧ v ∈ xs := fun {xs k} e hk' => by
        have hlt : k < xs.length := by omega
        exact ⟨xs[k], atI_nat (by omega) (by rw [show ((k : Int)).toNat = k by omega, List.getElem?_eq_getElem hlt]), List.getElem_mem hlt⟩
      refine Gives.bind (P := fun b => BoxOk b ∧ (b.length : Int) ≤ most) (Gives.imp (Gives.compL (P := fun _ r => okRow n r) (by rw [List.length_map, List.length_range]; omega) fun y hy => ?_) fun ys hys => ?_) fun x hx => Gives.pure hx
      · obtain ⟨k, hk', rfl⟩ := List.mem_map.mp hy
        have hk' := List.mem_range.mp hk'
        obtain ⟨v1, e1, m1⟩ := hat a1 hk'
        obtain ⟨v2, e2, m2⟩ := hat c1 hk'
        have hlt : k < l.length := by omega
        have el : atI l (k : Int) = some l[k] := atI_nat (by omega) (by rw [show ((k : Int)).toNat = k by omega, List.getElem?_eq_getElem hlt])
        rw [e1, e2, el]
        have q := hl.2 l[k] (List.getElem_mem hlt)
        exact Gives.of_eq (t' := TM.pure ((v1, l[k].1.2), (v2, l[k].2.2))) rfl (Gives.pure ⟨⟨a2 v1 m1, q.1.2⟩, c2 v2 m2, q.2.2⟩)
      · have e := paired_len hys
        rw [List.length_map, List.length_range] at e
        refine ⟨⟨by omega, by omega, fun r hr => ?_⟩, by omega⟩
        obtain ⟨x, _, h⟩ := paired_mem hys r hr
        rw [show (ys.length : Int) = n by omega]
        exact h
    · rw [if_neg (by rw [decide_eq_false hk]; exact Bool.false_ne_true)]
      refine Gives.pure ⟨⟨by omega, by omega, fun r hr => ?_⟩, by omega⟩
      rw [hl.1]
      exact hl.2 r hr
end Lw

/-! TD2: the script's draw; the law's own def. -/
namespace Lw
open PySem PySem.Spec L2 DL

theorem canLay_ints : ∀ xs : List Int, PyData.canLayAll0 (xs.map .int) = true
  | [] => rfl
  | x :: r => by
    show (true && PyData.canLayAll0 (r.map .int)) = true
    rw [canLay_ints r]; rfl
theorem shaped_ints (xs : List Int) : SeqAt.shaped (.list (xs.map .int)) = true ∧ SeqAt.shaped (.tuple (xs.map .int)) = true := by
  have e := PySem.W.depth_ints xs
  have c := canLay_ints xs
  refine ⟨?_, ?_⟩
  · unfold SeqAt.shaped
    rw [show (PyData.list (xs.map .int)).canLay0 = true from c, show (PyData.list (xs.map .int)).depth = PyData.depthAll (xs.map .int) + 1 by first | rfl | simp [PyData.depth] | (simp [PyData.depth]; omega), e]
    rfl
  · unfold SeqAt.shaped
    rw [show (PyData.tuple (xs.map .int)).canLay0 = true from c, show (PyData.tuple (xs.map .int)).depth = PyData.depthAll (xs.map .int) + 1 by first | rfl | simp [PyData.depth] | (simp [PyData.depth]; omega), e]
    rfl
/-- the script's draw -/
theorem draw_ok (ns : List Int) (hn : ns.length ≤ 63) : ∃ (cs : List Int) (seed : Int), f__law_draw [.scr ns] none = some (.ok (.list [.list (cs.map .int), .int (-1), .int 0, .int seed]), none) := by
  have h := for_inv (t := tName 2) (body := mSet 1 (mOp fMod (mUn fInt (mOp fAdd (mOp fAdd (mOp fMul (mV 1) (mC (.int 48271))) (mOp fMod (mUn fAbs (mUn fInt (mV 2))) (mC (.int 65521)))) (mC (.int 1)))) (mC (.int 2147483647))))
    (I := fun _ env ds => ds = none ∧ ∃ (z : Int) (x : Sl), (x = .un ∨ ∃ d, x = .d d) ∧ env = [.scr ns, .d (.int z), x]) (ns.map .int) 0 [.scr ns, .d (.int 7), .un] none (fun i x env ds hx ⟨e1, z, y, hy, e2⟩ => by
      subst e1 e2
      rw [List.getElem?_map] at hx
      obtain ⟨n, _, rfl⟩ := Option.map_eq_some_iff.mp hx
      refine ⟨[.scr ns, .d (.int z), .d (.int n)], [.scr ns, .d (.int (((z * 48271) + (if n < 0 then -n else n) % 65521 + 1) % 2147483647)), .d (.int n)], none, by rcases hy with rfl | ⟨d, rfl⟩ <;> rfl, ?_, rfl, _, _, .inr ⟨_, rfl⟩, rfl⟩
      exact gSet (gOp (gUn (gOp (gOp (gOp rfl rfl (fMul_lit (by decide))) (gOp rfl rfl (fMod_pos (by decide))) rfl) rfl rfl) rfl) rfl (fMod_pos (by decide))) rfl) ⟨rfl, 7, .un, .inl rfl, rfl⟩
  obtain ⟨env', ds', h1, rfl, z, y, hy, rfl⟩ := h
  refine ⟨ns.map fun n => if n < 0 then -n else n, z, ?_⟩
  have hc : mComp [2] (mScr 0) (tName 2) mYes (mUn fAbs (mUn fInt (mV 2))) [.scr ns, .d (.int z), y] none = some (.ok ((ns.filter fun _ => true).map fun n => .int (if n < 0 then -n else n)), none) :=
    comp_ev (env1 := [.scr ns, .d (.int z), .un]) (e := .int) (fun _ => true) (fun n => .int (if n < 0 then -n else n)) rfl (by rcases hy with rfl | ⟨d, rfl⟩ <;> rfl) (fun x _ => ⟨_, rfl, rfl, fun _ => rfl⟩) (by omega)
  have hf : ns.filter (fun _ => true) = ns := List.filter_eq_self.mpr fun _ _ => rfl
  rw [hf] at hc
  refine gRunRt (gSeq (env' := [.scr ns, .d (.int 7), .un]) rfl (gSeq (gFor rfl h1) ?_))
  rw [mRetF_ev, mLst_ev, mCons_ev, mF_ev, hc, List.map_map]
  rfl
theorem law_fin {rest : MS} {t : TM Bool} {n : Nat} {ns : List Int} (hn : ns.length ≤ 63) (hr : RG (.v (.scr ns) :: .v .drw :: List.replicate n (.v .un)) rest t (PR PyData.bool)) (hg : Gives t (fun k => k = true) DI) : runB (n + 2) 1 false (mDraw 1 (mCallF (chk 1 f__law_draw) (axV 0 axNil)) rest) [.scr ns] none = some (.ok (.bool true), none) := by
  obtain ⟨cs, seed, hd⟩ := draw_ok ns hn
  have h1 : mCallF (chk 1 f__law_draw) (axV 0 axNil) ([Sl.scr ns] ++ List.replicate (n + 2 - 1) Sl.un) none = some (.ok [.list (cs.map .int), .int (-1), .int 0, .int seed], none) := by
    rw [mCallF_ev]
    show (Rz.bind (some (.ok [Sl.scr ns], none)) _) = _
    rw [rb_ok, chk_ev, if_pos (show [Sl.scr ns].length = 1 from rfl), hd]
    rfl
  have h2 : mkDraw [.list (cs.map .int), .int (-1), .int 0, .int seed] = some ⟨cs, -1, 0, seed⟩ := by
    unfold mkDraw
    dsimp only
    rw [ints_map]
    rfl
  obtain ⟨k, ds', g1, g2, rfl⟩ := hg (some ⟨cs, -1, 0, seed⟩) (by show (-1 : Int) ≤ -1; decide)
  have ek : (Kn.v (.scr ns) :: Kn.v .drw :: List.replicate n (Kn.v .un)) = (Sl.scr ns :: Sl.drw :: List.replicate n Sl.un).map Kn.v := by
    rw [List.map_cons, List.map_cons, List.map_replicate]
  obtain ⟨fl, q1, q2⟩ := hr (Sl.scr ns :: Sl.drw :: List.replicate n Sl.un) (some ⟨cs, -1, 0, seed⟩) (by rw [ek]; exact KnR.self _) _ _ g1
  have hp : put 1 .drw ([Sl.scr ns] ++ List.replicate (n + 2 - 1) Sl.un) = some (Sl.scr ns :: Sl.drw :: List.replicate n Sl.un) := by
    rw [show n + 2 - 1 = n + 1 by omega, List.replicate_succ]
    rfl
  have hm : mDraw 1 (mCallF (chk 1 f__law_draw) (axV 0 axNil)) rest ([Sl.scr ns] ++ List.replicate (n + 2 - 1) Sl.un) none = some (.rt (.bool true), none) := by
    unfold mDraw
    rw [h1]
    dsimp only
    rw [h2]
    dsimp only
    rw [hp]
    dsimp only
    rw [q1]
    rcases q2 with rfl | ⟨env', rfl, h⟩
    · rfl
    · cases h
  unfold runB
  rw [hm]
theorem Gives.bindB {L R ρ : Type} {t : TM (L ⊕ R)} {tl : L → TM ρ} {g : R → ρ} {P : L → Prop} {Q : ρ → Prop} {I : DS → Prop} (h : Gives t (fun o => ∃ l, o = .inl l ∧ P l) I) (hl : ∀ l, P l → Gives (tl l) Q I) : Gives (t.bindB tl g) Q I := by
  unfold TM.bindB
  refine Gives.bind h fun o ⟨l, e, hp⟩ => ?_
  subst e
  exact hl l hp
end Lw

/-! T53a: numbering, partitions: plain mathematics. -/
namespace Lw
open PySem PySem.Spec L2 DL

section
variable {α : Type} [DecidableEq α]
def ddF (l : List α) (y : α) : List α := if y ∈ l then l else l ++ [y]
/-- the unlike ones, in order -/
def nms (xs : List α) : List α := xs.foldl ddF []
theorem nms_app (xs : List α) (y : α) : nms (xs ++ [y]) = ddF (nms xs) y := by
  unfold nms
  rw [List.foldl_append]
  rfl
theorem ddF_old {l : List α} {x y : α} (h : x ∈ l) : x ∈ ddF l y := by
  unfold ddF
  split
  · exact h
  · exact List.mem_append_left _ h
theorem ddF_new (l : List α) (y : α) : y ∈ ddF l y := by
  unfold ddF
  split
  · assumption
  · exact List.mem_append_right _ (List.mem_singleton.mpr rfl)
theorem fold_old {x : α} : ∀ (xs l : List α), x ∈ l → x ∈ xs.foldl ddF l
  | [], _, h => h
  | y :: r, l, h => fold_old r _ (ddF_old h)
theorem fold_mem {x : α} : ∀ (xs l : List α), x ∈ xs → x ∈ xs.foldl ddF l
  | y :: r, l, h => by
    rcases List.mem_cons.mp h with e | h
    · exact fold_old r _ (by rw [e]; exact ddF_new l y)
    · exact fold_mem r _ h
theorem nms_mem {x : α} {xs : List α} (h : x ∈ xs) : x ∈ nms xs := fold_mem xs [] h
theorem fold_sub {x : α} : ∀ (xs l : List α), x ∈ xs.foldl ddF l → x ∈ l ∨ x ∈ xs
  | [], _, h => .inl h
  | y :: r, l, h => by
    rcases fold_sub r _ h with q | q
    · unfold ddF at q
      split at q
      · exact .inl q
      · rcases List.mem_append.mp q with q | q
        · exact .inl q
        · exact .inr (by rw [List.mem_singleton.mp q]; exact List.mem_cons_self)
    · exact .inr (List.mem_cons_of_mem _ q)
theorem nms_iff {x : α} {xs : List α} : x ∈ nms xs ↔ x ∈ xs := ⟨fun h => (fold_sub xs [] h).elim (fun q => nomatch q) id, nms_mem⟩
theorem ddF_pre (l : List α) (y : α) : ∃ t, ddF l y = l ++ t := by
  unfold ddF
  split
  · exact ⟨[], by rw [List.append_nil]⟩
  · exact ⟨_, rfl⟩
theorem idx_old {l : List α} {x y : α} (h : x ∈ l) : (ddF l y).idxOf x = l.idxOf x := by
  obtain ⟨t, e⟩ := ddF_pre l y
  rw [e, List.idxOf_append, if_pos h]
def num (xs : List α) : List Int := xs.map fun y => ((nms xs).idxOf y : Int)
theorem num_len (xs : List α) : (num xs).length = xs.length := List.length_map _
theorem num_app (xs : List α) (y : α) : num (xs ++ [y]) = num xs ++ [((nms (xs ++ [y])).idxOf y : Int)] := by
  unfold num
  rw [List.map_append, List.map_singleton]
  congr 1
  refine List.map_congr_left fun x hx => ?_
  rw [nms_app, idx_old (nms_mem hx)]
theorem rev_ind {P : List α → Prop} (h0 : P []) (h1 : ∀ xs y, P xs → P (xs ++ [y])) : ∀ xs, P xs := fun xs => by
  have : ∀ ys : List α, P ys.reverse := fun ys => by
    induction ys with
    | nil => exact h0
    | cons y r ih => rw [List.reverse_cons]; exact h1 _ y ih
  have q := this xs.reverse
  rw [List.reverse_reverse] at q
  exact q
theorem idx_inj {l : List α} {x y : α} (hx : x ∈ l) (hy : y ∈ l) (e : l.idxOf x = l.idxOf y) : x = y := by
  have h1 := List.idxOf_lt_length_of_mem hx
  have h2 := List.idxOf_lt_length_of_mem hy
  have e1 : l[l.idxOf x]? = some x := by rw [List.getElem?_eq_getElem h1, List.getElem_idxOf h1]
  have e2 : l[l.idxOf y]? = some y := by rw [List.getElem?_eq_getElem h2, List.getElem_idxOf h2]
  rw [e, e2] at e1
  exact (Option.some.inj e1).symm
theorem num_at {xs : List α} {i : Nat} {x : α} (h : xs[i]? = some x) : (num xs)[i]? = some ((nms xs).idxOf x : Int) := by
  unfold num
  rw [List.getElem?_map, h]
  rfl
theorem num_same {xs : List α} {i j : Nat} (hi : i < xs.length) (hj : j < xs.length) : (num xs)[i]? = (num xs)[j]? ↔ xs[i]? = xs[j]? := by
  have e1 := List.getElem?_eq_getElem hi
  have e2 := List.getElem?_eq_getElem hj
  rw [num_at e1, num_at e2, e1, e2]
  refine ⟨fun h => ?_, fun h => by rw [Option.some.inj h]⟩
  have q : (nms xs).idxOf xs[i] = (nms xs).idxOf xs[j] := by have := Option.some.inj h; omega
  rw [idx_inj (nms_mem (List.getElem_mem hi)) (nms_mem (List.getElem_mem hj)) q]
end
/-! ### all partitions -/
def mxF (m : Nat) (x : Int) : Nat := if x.toNat + 1 > m then x.toNat + 1 else m
def mxL (r : List Int) : Nat := r.foldl mxF 0
def Pt : Nat → List (List Int)
  | 0 => [[]]
  | n + 1 => (Pt n).flatMap fun r => (List.range (mxL r + 1)).map fun (k : Nat) => r ++ [(k : Int)]
theorem mxL_app (r : List Int) (x : Int) : mxL (r ++ [x]) = mxF (mxL r) x := by
  unfold mxL
  rw [List.foldl_append]
  rfl
theorem Pt_len : ∀ (n : Nat), ∀ p ∈ Pt n, p.length = n
  | 0, p, h => by rw [List.mem_singleton.mp h]; rfl
  | n + 1, p, h => by
    obtain ⟨r, hr, q⟩ := List.mem_flatMap.mp h
    obtain ⟨k, _, rfl⟩ := List.mem_map.mp q
    rw [List.length_append, Pt_len n r hr]
    rfl
section
variable {α : Type} [DecidableEq α]
theorem num_mx (xs : List α) : mxL (num xs) = (nms xs).length ∧ num xs ∈ Pt xs.length := by
  refine rev_ind (P := fun xs => mxL (num xs) = (nms xs).length ∧ num xs ∈ Pt xs.length) ⟨rfl, List.mem_singleton.mpr rfl⟩ (fun xs y ⟨h1, h2⟩ => ?_) xs
  rw [num_app, mxL_app, h1, nms_app, List.length_append]
  have hk : (ddF (nms xs) y).idxOf y ≤ (nms xs).length ∧ mxF (nms xs).length ((ddF (nms xs) y).idxOf y : Int) = (ddF (nms xs) y).length := by
    unfold mxF
    by_cases h : y ∈ nms xs
    · have e : ddF (nms xs) y = nms xs := if_pos h
      rw [e]
      have := List.idxOf_lt_length_of_mem h
      refine ⟨by omega, if_neg (by omega)⟩
    · have e : ddF (nms xs) y = nms xs ++ [y] := if_neg h
      have e2 : (nms xs ++ [y]).idxOf y = (nms xs).length := by
        rw [List.idxOf_append, if_neg h]
        simp
      rw [e, e2, List.length_append]
      refine ⟨Nat.le_refl _, ?_⟩
      show (if ((nms xs).length : Int).toNat + 1 > (nms xs).length then ((nms xs).length : Int).toNat + 1 else _) = _
      rw [if_pos (by omega)]
      simp
  refine ⟨hk.2, List.mem_flatMap.mpr ⟨num xs, h2, List.mem_map.mpr ⟨_, List.mem_range.mpr ?_, rfl⟩⟩⟩
  rw [h1]
  exact Nat.lt_succ_of_le hk.1
/-- the same ones are alike -/
def Pat {β : Type} (xs : List α) (ys : List β) : Prop := xs.length = ys.length ∧ ∀ i j, i < xs.length → j < xs.length → (xs[i]? = xs[j]? ↔ ys[i]? = ys[j]?)
theorem idx_new {xs : List α} {x : α} (h : x ∉ xs) : (nms (xs ++ [x])).idxOf x = mxL (num xs) := by
  have h' : x ∉ nms xs := fun q => h (nms_iff.mp q)
  rw [nms_app, show ddF (nms xs) x = nms xs ++ [x] from if_neg h', List.idxOf_append, if_neg h', (num_mx xs).1]
  simp
theorem idx_in {xs : List α} {i : Nat} {x : α} (h : xs[i]? = some x) : (num xs)[i]? = some ((nms (xs ++ [x])).idxOf x : Int) := by
  rw [num_at h, nms_app, idx_old (nms_mem (List.mem_of_getElem? h))]
theorem num_pat {β : Type} [DecidableEq β] (xs : List α) : ∀ (ys : List β), Pat xs ys → num xs = num ys := by
  refine rev_ind (P := fun xs => ∀ (ys : List β), Pat xs ys → num xs = num ys) (fun ys h => ?_) (fun xs x ih ys h => ?_) xs
  · rw [List.length_eq_zero_iff.mp h.1.symm]; rfl
  · have ny : ys ≠ [] := fun z => by rw [z, Pat, List.length_append] at h; cases h.1
    obtain ⟨zs, y, rfl⟩ : ∃ zs y, ys = zs ++ [y] := ⟨_, _, (List.dropLast_concat_getLast ny).symm⟩
    obtain ⟨hl, hp⟩ := h
    rw [List.length_append, List.length_append] at hl
    have hl : xs.length = zs.length := Nat.succ.inj hl
    have ax : ∀ i, i < xs.length → (xs ++ [x])[i]? = xs[i]? := fun i hi => List.getElem?_append_left hi
    have az : ∀ i, i < xs.length → (zs ++ [y])[i]? = zs[i]? := fun i hi => List.getElem?_append_left (by omega)
    have bx : (xs ++ [x])[xs.length]? = some x := by rw [List.getElem?_append_right (Nat.le_refl _), Nat.sub_self]; rfl
    have bz : (zs ++ [y])[xs.length]? = some y := by rw [hl, List.getElem?_append_right (Nat.le_refl _), Nat.sub_self]; rfl
    have ll : (xs ++ [x]).length = xs.length + 1 := List.length_append
    have e1 : num xs = num zs := ih zs ⟨hl, fun i j hi hj => by
      have := hp i j (by omega) (by omega)
      rw [ax i hi, ax j hj, az i hi, az j hj] at this
      exact this⟩
    have sw : ∀ i, i < xs.length → (xs[i]? = some x ↔ zs[i]? = some y) := fun i hi => by
      have := hp i xs.length (by omega) (by omega)
      rw [ax i hi, az i hi, bx, bz] at this
      exact this
    rw [num_app, num_app, e1]
    by_cases hx : x ∈ xs
    · obtain ⟨i, hi, q⟩ := List.mem_iff_getElem.mp hx
      have q1 : xs[i]? = some x := by rw [List.getElem?_eq_getElem hi, q]
      have i1 := idx_in q1
      have i2 := idx_in ((sw i hi).mp q1)
      rw [e1, i2] at i1
      rw [Option.some.inj i1]
    · have hy : y ∉ zs := fun z => by
        obtain ⟨i, hi, q⟩ := List.mem_iff_getElem.mp z
        exact hx (List.mem_of_getElem? ((sw i (by omega)).mpr (by rw [List.getElem?_eq_getElem hi, q])))
      rw [idx_new hx, idx_new hy, e1]
end
theorem num_Pt : ∀ n : Nat, n ≤ 5 → ∀ p ∈ Pt n, num p = p := by decide +kernel
theorem Pt_len5 : ∀ n : Nat, n ≤ 5 → (Pt n).length ≤ 52 := by decide +kernel
theorem Pt_iff {n : Nat} (h : n ≤ 5) {v : List Int} (hl : v.length = n) : num v = v ↔ v ∈ Pt n := by
  refine ⟨fun e => ?_, num_Pt n h v⟩
  have q := (num_mx v).2
  rw [e, hl] at q
  exact q
end Lw

/-! T53b: numbering, typed. -/
namespace Lw
open PySem PySem.Spec L2 DL

section
variable {α : Type} [DecidableEq α]
theorem nms_len (xs : List α) : (nms xs).length ≤ xs.length := by
  refine rev_ind (P := fun xs => (nms xs).length ≤ xs.length) (Nat.le_refl _) (fun xs y h => ?_) xs
  rw [nms_app, List.length_append]
  unfold ddF
  split
  · exact Nat.le_succ_of_le h
  · rw [List.length_append]; exact Nat.succ_le_succ h
theorem idxQ {x : α} : ∀ {l : List α}, x ∈ l → l.idxOf? x = some (l.idxOf x)
  | y :: r, h => by
    rw [List.idxOf?_cons, List.idxOf_cons]
    by_cases e : (y == x) = true
    · rw [if_pos e, e]; rfl
    · rw [if_neg e]
      have ne : ¬ x = y := fun q => e (by rw [q]; exact beq_self_eq_true y)
      rcases List.mem_cons.mp h with q | q
      · exact absurd q ne
      · rw [idxQ q, show (y == x) = false by cases q : (y == x) with | false => rfl | true => exact absurd q e]
        rfl
theorem idxT_ok {x : α} {l : List α} (h : x ∈ l) : idxT l x = some (l.idxOf x : Int) := by
  unfold idxT
  rw [idxQ h]
  rfl
theorem take_one {xs : List α} {i : Nat} {x : α} (h : xs[i]? = some x) : xs.take (i + 1) = xs.take i ++ [x] := by
  obtain ⟨hi, e⟩ := List.getElem?_eq_some_iff.mp h
  rw [List.take_succ_eq_append_getElem hi, e]
theorem numb_t {f : List α → α → TM (List α)} (hf : ∀ l y, f l y = if (!memT y l) = true then ((TM.lift (appT l y)).bind fun x3 => TM.pure x3) else TM.pure l) (xs : List α) (hn : xs.length ≤ 1000) :
    ((TM.forT f xs []).bind fun l1 => ((TM.compL (fun _ => TM.pure true) (fun y4 => TM.lift (idxT l1 y4)) xs).bind fun c5 => TM.pure c5)) = TM.pure (num xs) := by
  have e := TM.forT_eq (f := f) (fun i => nms (xs.take i)) xs 0 fun i x hx => by
    have l1 := nms_len (xs.take (0 + i))
    rw [List.length_take] at l1
    rw [hf, show xs.take (0 + i + 1) = xs.take (0 + i) ++ [x] from take_one (by rw [Nat.zero_add]; exact hx), nms_app]
    unfold ddF
    by_cases h : x ∈ nms (xs.take (0 + i))
    · rw [memT_true h, if_neg (by decide), if_pos h]
    · rw [memT_false h, if_pos (by decide), if_neg h, appT_ok (by omega), TM.lift_some, TM.pure_bind]
  have e0 : nms (xs.take 0) = [] := rfl
  rw [e0, Nat.zero_add, List.take_length] at e
  rw [e, TM.pure_bind, TM.compL_map (g' := fun y => ((nms xs).idxOf y : Int)) (by omega) fun x hx => by rw [idxT_ok (nms_mem hx), TM.lift_some], TM.pure_bind]
  rfl
theorem lnumb_t {f : (List Int × List α) → α → TM (List Int × List α)} (hf : ∀ l y, f l y = (TM.lift (catT l.2 (if (!memT y l.2) = true then [y] else []))).bind fun x3 => ((TM.lift (idxT x3 y)).bind fun c5 => (TM.lift (appT l.1 c5)).bind fun x4 => TM.pure (x4, x3))) (xs : List α) (hn : xs.length ≤ 1000) :
    ((TM.forT f xs ([], [])).bind fun l1 => TM.pure l1.1) = TM.pure (num xs) := by
  have e := TM.forT_eq (f := f) (fun i => (num (xs.take i), nms (xs.take i))) xs 0 fun i x hx => by
    have l1 := nms_len (xs.take (0 + i))
    have l2 := num_len (xs.take (0 + i))
    rw [List.length_take] at l1 l2
    rw [hf, show xs.take (0 + i + 1) = xs.take (0 + i) ++ [x] from take_one (by rw [Nat.zero_add]; exact hx), num_app, nms_app]
    dsimp only
    have c : catT (nms (xs.take (0 + i))) (if (!memT x (nms (xs.take (0 + i)))) = true then [x] else []) = some (ddF (nms (xs.take (0 + i))) x) := by
      unfold ddF
      by_cases h : x ∈ nms (xs.take (0 + i))
      · rw [memT_true h, if_neg (by decide), if_pos h, catT_ok (by rw [List.length_nil]; omega), List.append_nil]
      · rw [memT_false h, if_pos (by decide), if_neg h, catT_ok (by show _ + 1 ≤ _; omega)]
    rw [c, TM.lift_some, TM.pure_bind, idxT_ok (ddF_new _ _), TM.lift_some, TM.pure_bind, appT_ok (by omega), TM.lift_some, TM.pure_bind]
  have e0 : (num (xs.take 0), nms (xs.take 0)) = ([], []) := rfl
  rw [e0, Nat.zero_add, List.take_length] at e
  rw [e, TM.pure_bind]
end
theorem numbered_t (xs : List Int) (hn : xs.length ≤ 1000) : t_numbered xs = TM.pure (num xs) := numb_t (fun _ _ => rfl) xs hn
theorem numbered_t2 (xs : List (Int × Int)) (hn : xs.length ≤ 1000) : t_numbered_v2 xs = TM.pure (num xs) := numb_t (fun _ _ => rfl) xs hn
theorem numbered_t3 (xs : List Int) (hn : xs.length ≤ 1000) : t_numbered_v3 xs = TM.pure (num xs) := numb_t (fun _ _ => rfl) xs hn
theorem lnumbered_t (xs : List Int) (hn : xs.length ≤ 1000) : t__law_numbered xs = TM.pure (num xs) := lnumb_t (fun _ _ => rfl) xs hn
theorem lnumbered_t2 (xs : List (Int × Int)) (hn : xs.length ≤ 1000) : t__law_numbered_v2 xs = TM.pure (num xs) := lnumb_t (fun _ _ => rfl) xs hn
end Lw

/-! T53c: all partitions, kept ones, typed. -/
namespace Lw
open PySem PySem.Spec L2 DL

theorem flt_true {α : Type} (l : List α) : l.filter (fun _ => true) = l := List.filter_eq_self.mpr fun _ _ => rfl
theorem setLenT_ints {xs : List Int} (h : xs.length ≤ 1000) : setLenTT PyData.int xs = some ((dist xs).length : Int) := by
  unfold setLenTT fSetLen
  dsimp only
  rw [ints_map]
  dsimp only
  rw [if_pos (decide_eq_true h)]
theorem mx_Pt : ∀ n : Nat, n ≤ 5 → ∀ r ∈ Pt n, (dist r).length = mxL r ∧ maxT (r ++ [-1]) = some ((mxL r : Int) - 1) ∧ mxL r ≤ 5 := by decide +kernel
theorem Pt_pre : ∀ n : Nat, n ≤ 4 → ∀ j : Nat, j ≤ 15 → (((Pt n).take j).flatMap fun r => (List.range (mxL r + 1)).map fun (k : Nat) => r ++ [(k : Int)]).length ≤ 52 := by decide +kernel
theorem Pt_len4 : ∀ n : Nat, n ≤ 4 → (Pt n).length ≤ 15 := by decide +kernel
theorem rows_next (r : List Int) (m : Nat) : ((List.range m).map fun (k : Nat) => (k : Int)).map (fun k => r ++ [k]) = (List.range m).map fun (k : Nat) => r ++ [(k : Int)] := by rw [List.map_map]; rfl
theorem all_step {n : Nat} (h : n ≤ 4) (y : Int) : t_all_partitions_f1 (Pt n) y = TM.pure (Pt (n + 1)) := by
  have c := comp2A_pure (p := fun y3 => TM.pure true) (mi := fun y3 => (((TM.lift (setLenTT PyData.int y3)).bind fun c4 => TM.pure (c4 + (1 : Int))).bind fun j => TM.lift (rngT 0 j))) (q := fun y3 y5 => TM.pure true) (g := fun y3 y5 => TM.lift (catT y3 [y5])) (p' := fun _ => true) (mi' := fun r => (List.range (mxL r + 1)).map fun (k : Nat) => (k : Int)) (q' := fun _ _ => true) (g' := fun r k => r ++ [k]) (b := 6) (Pt n) [] (fun r hr => by
    obtain ⟨h1, _, h3⟩ := mx_Pt n (by omega) r hr
    have hl := Pt_len n r hr
    refine ⟨rfl, fun _ => ⟨?_, by rw [List.length_map, List.length_range]; omega, fun y _ => ⟨rfl, fun _ => by rw [catT_ok (by show _ + 1 ≤ _; omega), TM.lift_some]⟩⟩⟩
    rw [setLenT_ints (by omega), h1, TM.lift_some, TM.pure_bind, TM.pure_bind, show (mxL r : Int) + 1 = ((mxL r + 1 : Nat) : Int) by omega, rngT_n (by omega), TM.lift_some]) (by
    have := Pt_len4 n h
    rw [List.length_nil]
    omega)
  unfold t_all_partitions_f1
  rw [c, TM.pure_bind]
  congr 1
  rw [List.nil_append, flt_true]
  show _ = (Pt n).flatMap _
  congr 1
  funext r
  rw [flt_true, rows_next]
theorem all_partitions_t {n : Nat} (h : n ≤ 5) : t_all_partitions (n : Int) = TM.pure (Pt n) := by
  unfold t_all_partitions
  rw [rngT_n (by omega), TM.lift_some, TM.pure_bind]
  have e := TM.forT_eq (f := t_all_partitions_f1) Pt ((List.range n).map fun (k : Nat) => (k : Int)) 0 fun i x hx => by
    have hi := (List.getElem?_eq_some_iff.mp hx).1
    rw [List.length_map, List.length_range] at hi
    exact all_step (by omega) x
  rw [List.length_map, List.length_range, Nat.zero_add] at e
  rw [show ([[]] : List (List Int)) = Pt 0 from rfl, e, TM.pure_bind]
theorem law_row {n : Nat} (h : n ≤ 4) {r : List Int} (hr : r ∈ Pt n) (acc : List (List Int)) (ha : acc.length ≤ 1000) : t__law_partitions_f1 acc r = TM.pure (acc ++ (List.range (mxL r + 1)).map fun (k : Nat) => r ++ [(k : Int)]) := by
  obtain ⟨_, h2, h3⟩ := mx_Pt n (by omega) r hr
  have hl := Pt_len n r hr
  unfold t__law_partitions_f1
  rw [catT_ok (by show _ + 1 ≤ _; omega), TM.lift_some, TM.pure_bind, h2, TM.lift_some, TM.pure_bind, TM.pure_bind, show (mxL r : Int) - 1 + 2 = ((mxL r + 1 : Nat) : Int) by omega, rngT_n (by omega), TM.lift_some, TM.pure_bind,
    TM.compL_map (g' := fun k => r ++ [k]) (by rw [List.length_map, List.length_range]; omega) fun k _ => by rw [catT_ok (by show _ + 1 ≤ _; omega), TM.lift_some], TM.pure_bind, rows_next,
    catT_ok (by rw [List.length_map, List.length_range]; omega), TM.lift_some, TM.pure_bind]
theorem law_step {n : Nat} (h : n ≤ 4) (y : Int) : t__law_partitions_f2 (Pt n) y = TM.pure (Pt (n + 1)) := by
  unfold t__law_partitions_f2
  have e := TM.forT_eq (f := t__law_partitions_f1) (fun j => ((Pt n).take j).flatMap fun r => (List.range (mxL r + 1)).map fun (k : Nat) => r ++ [(k : Int)]) (Pt n) 0 fun i r hr => by
    have hi := (List.getElem?_eq_some_iff.mp hr).1
    have := Pt_len4 n h
    have hb := Pt_pre n h i (by omega)
    rw [Nat.zero_add]
    rw [law_row h (List.mem_of_getElem? hr) _ (by omega), take_one hr, List.flatMap_append, List.flatMap_singleton]
  rw [Nat.zero_add, List.take_length, List.take_zero, List.flatMap_nil] at e
  rw [e, TM.pure_bind]
  rfl
theorem law_partitions_t {n : Nat} (h : n ≤ 5) : t__law_partitions (n : Int) = TM.pure (Pt n) := by
  unfold t__law_partitions
  rw [rngT_n (by omega), TM.lift_some, TM.pure_bind]
  have e := TM.forT_eq (f := t__law_partitions_f2) Pt ((List.range n).map fun (k : Nat) => (k : Int)) 0 fun i x hx => by
    have hi := (List.getElem?_eq_some_iff.mp hx).1
    rw [List.length_map, List.length_range] at hi
    exact law_step (by omega) x
  rw [List.length_map, List.length_range, Nat.zero_add] at e
  rw [show ([[]] : List (List Int)) = Pt 0 from rfl, e, TM.pure_bind]
end Lw

/-! T53d: which are kept, typed. -/
namespace Lw
open PySem PySem.Spec L2 DL

def gI (p : List Int) (i : Nat) : Int := p.getD i 0
/-- where a move leads -/
def to (b : List Row) (i : Nat) (s : Int) : Nat := (mv b (i : Int) s).1.toNat
/-- states that are alike go to such -/
def KP (b : List Row) (v : List Int) : Prop := ∀ i, i < b.length → ∀ j, j < b.length → gI v i = gI v j → ∀ s : Int, s = 0 ∨ s = 1 → gI v (to b i s) = gI v (to b j s)
theorem gI_at {v : List Int} {i : Nat} (h : i < v.length) : v[i]? = some (gI v i) := by
  unfold gI
  rw [List.getD_eq_getElem?_getD, List.getElem?_eq_getElem h]
  rfl
theorem atI_v {v : List Int} {i : Nat} (h : i < v.length) : atI v (i : Int) = some (gI v i) := atI_nat (by omega) (by
  rw [show ((i : Int)).toNat = i by omega]
  exact gI_at h)
section
variable {b : List Row} {v : List Int}
theorem to_lt (B : BoxOk b) {i : Nat} (h : i < b.length) (s : Int) : to b i s < b.length ∧ ((to b i s : Nat) : Int) = (mv b (i : Int) s).1 := by
  have q := (B.mv (x := s) (s := (i : Int)) ⟨by omega, by omega⟩).1
  unfold to
  omega
theorem step_t (B : BoxOk b) (hv : v.length = b.length) {i : Nat} (h : i < b.length) {s : Int} (hs : s = 0 ∨ s = 1) :
    (((((TM.lift (atI b (i : Int))).bind fun x => TM.pure [x.1, x.2]).bind fun c5 => (TM.lift (atI c5 s))).bind fun c6 => TM.pure c6.1).bind fun c7 => (TM.lift (atI v c7))) = TM.pure (gI v (to b i s)) := by
  obtain ⟨q1, q2⟩ := to_lt B h s
  rw [atI_row B (s := (i : Int)) ⟨by omega, by omega⟩, TM.lift_some, TM.pure_bind, TM.pure_bind, atI_mv _ hs, TM.lift_some, TM.pure_bind, TM.pure_bind]
  rw [show (if s = 0 then (rowAt b (i : Int)).1 else (rowAt b (i : Int)).2).1 = ((to b i s : Nat) : Int) from q2.symm, atI_v (by omega), TM.lift_some]
theorem eq_t (hv : v.length = b.length) {i j : Nat} (hi : i < b.length) (hj : j < b.length) : ((TM.lift (atI v (i : Int))).bind fun c5 => ((TM.lift (atI v (j : Int))).bind fun c6 => TM.pure (decide (c5 = c6)))) = TM.pure (decide (gI v i = gI v j)) := by
  rw [atI_v (by omega), TM.lift_some, TM.pure_bind, atI_v (by omega), TM.lift_some, TM.pure_bind]
end
/-! ### loops that end early -/
theorem forB_all {α : Type} {f : Unit → α → TM (Unit ⊕ Bool)} {p : α → Bool} : ∀ xs : List α, (∀ x ∈ xs, f () x = TM.pure (if p x then .inl () else .inr false)) → TM.forB f xs () = TM.pure (if xs.all p then .inl () else .inr false)
  | [], _ => rfl
  | x :: r, h => by
    show (f () x).bind _ = _
    rw [h x List.mem_cons_self, TM.pure_bind, List.all_cons]
    cases p x with
    | true => exact forB_all r fun y hy => h y (List.mem_cons_of_mem _ hy)
    | false => rfl
def nats (n : Nat) : List Int := (List.range n).map fun (k : Nat) => (k : Int)
theorem rngL_nats {n : Nat} (h : n ≤ 1000000) : rngL 0 (n : Int) = some (nats n) := rngL_n h
theorem rngT_nats {n : Nat} (h : n ≤ 1000000) : rngT 0 (n : Int) = some (nats n) := rngT_n h
theorem nats_mem {n : Nat} {x : Int} (h : x ∈ nats n) : ∃ k : Nat, k < n ∧ x = (k : Int) := by
  obtain ⟨k, hk, e⟩ := List.mem_map.mp h
  exact ⟨k, List.mem_range.mp hk, e.symm⟩
theorem nats_all {n : Nat} {p : Int → Bool} : (nats n).all p = true ↔ ∀ k : Nat, k < n → p (k : Int) = true := by
  unfold nats
  rw [List.all_map, List.all_eq_true]
  exact ⟨fun h k hk => h k (List.mem_range.mpr hk), fun h k hk => h k (List.mem_range.mp hk)⟩
theorem nats_len (n : Nat) : (nats n).length = n := by unfold nats; rw [List.length_map, List.length_range]
section
variable {b : List Row} {v : List Int}
theorem atI_tab {n i : Nat} (g : Int → Int) (h : i < n) : atI ((nats n).map g) (i : Int) = some (g (i : Int)) := atI_nat (by omega) (by
  rw [show ((i : Int)).toNat = i by omega]
  unfold nats
  rw [List.getElem?_map, List.getElem?_map, List.getElem?_range h]
  rfl)
theorem does_sign (B : BoxOk b) (hv : v.length = b.length) {s : Int} (hs : s = 0 ∨ s = 1) :
    t_does_keep_f1 b v (nats b.length) () s = TM.pure (if (nats b.length).all fun i => (nats b.length).all fun j => !decide (gI v i.toNat = gI v j.toNat) || decide (gI v (to b i.toNat s) = gI v (to b j.toNat s)) then .inl () else .inr false) := by
  have h5 := B.five
  have nl := nats_len b.length
  unfold t_does_keep_f1
  rw [TM.compL_map (g' := fun i => gI v (to b i.toNat s)) (by omega) fun x hx => by
    obtain ⟨k, hk, rfl⟩ := nats_mem hx
    exact step_t B hv hk hs, TM.pure_bind]
  have c := comp2A_pure (p := fun _ => TM.pure true) (mi := fun _ => TM.pure (nats b.length)) (q := fun y9 y10 => ((TM.lift (atI v y9)).bind fun c11 => ((TM.lift (atI v y10)).bind fun c12 => TM.pure (decide (c11 = c12)))))
    (g := fun y9 y10 => ((TM.lift (atI ((nats b.length).map fun i => gI v (to b i.toNat s)) y9)).bind fun c13 => ((TM.lift (atI ((nats b.length).map fun i => gI v (to b i.toNat s)) y10)).bind fun c14 => TM.pure (decide (c13 = c14)))))
    (p' := fun _ => true) (mi' := fun _ => nats b.length) (q' := fun i j => decide (gI v i.toNat = gI v j.toNat)) (g' := fun i j => decide (gI v (to b i.toNat s) = gI v (to b j.toNat s))) (b := 5) (nats b.length) [] (fun x hx => by
      obtain ⟨i, hi, rfl⟩ := nats_mem hx
      refine ⟨rfl, fun _ => ⟨rfl, by omega, fun y hy => ?_⟩⟩
      obtain ⟨j, hj, rfl⟩ := nats_mem hy
      refine ⟨eq_t hv hi hj, fun _ => ?_⟩
      rw [atI_tab _ hi, TM.lift_some, TM.pure_bind, atI_tab _ hj, TM.lift_some, TM.pure_bind]) (by rw [List.length_nil]; omega)
  rw [c, TM.pure_bind, TM.pure_bind, TM.pure_bind, List.nil_append, flt_true]
  have e : (((nats b.length).flatMap fun i => ((nats b.length).filter fun j => decide (gI v i.toNat = gI v j.toNat)).map fun j => decide (gI v (to b i.toNat s) = gI v (to b j.toNat s))).all id) = ((nats b.length).all fun i => (nats b.length).all fun j => !decide (gI v i.toNat = gI v j.toNat) || decide (gI v (to b i.toNat s) = gI v (to b j.toNat s))) := by
    rw [List.all_flatMap]
    congr 1
    funext i
    rw [List.all_map, List.all_filter]
    rfl
  rw [e]
  generalize ((nats b.length).all fun i => (nats b.length).all fun j => !decide (gI v i.toNat = gI v j.toNat) || decide (gI v (to b i.toNat s) = gI v (to b j.toNat s))) = k
  cases k <;> rfl
noncomputable instance (b : List Row) (v : List Int) : Decidable (KP b v) := Classical.propDecidable _
theorem does_keep_t (B : BoxOk b) (hv : v.length = b.length) : t_does_keep b v = TM.pure (decide (KP b v)) := by
  have h5 := B.five
  unfold t_does_keep
  rw [rngL_nats (by omega), TM.lift_some, TM.pure_bind, forB_all (p := fun s => (nats b.length).all fun i => (nats b.length).all fun j => !decide (gI v i.toNat = gI v j.toNat) || decide (gI v (to b i.toNat s) = gI v (to b j.toNat s))) [0, 1] fun s hs => does_sign B hv (by simpa using hs)]
  have e : ([(0 : Int), 1].all fun s => (nats b.length).all fun i => (nats b.length).all fun j => !decide (gI v i.toNat = gI v j.toNat) || decide (gI v (to b i.toNat s) = gI v (to b j.toNat s))) = decide (KP b v) := by
    rw [Bool.eq_iff_iff, decide_eq_true_iff, List.all_eq_true]
    constructor
    · intro h i hi j hj q s hs
      have z := nats_all.mp (nats_all.mp (h s (by simpa using hs)) i hi) j hj
      simp only [Int.toNat_natCast, Bool.or_eq_true, Bool.not_eq_true', decide_eq_false_iff_not, decide_eq_true_eq] at z
      exact z.resolve_left fun w => w q
    · intro h s hs
      refine nats_all.mpr fun i hi => nats_all.mpr fun j hj => ?_
      simp only [Int.toNat_natCast, Bool.or_eq_true, Bool.not_eq_true', decide_eq_false_iff_not, decide_eq_true_eq]
      by_cases q : gI v i = gI v j
      · exact .inr (h i hi j hj q s (by simpa using hs))
      · exact .inl q
  rw [e]
  generalize decide (KP b v) = k
  cases k <;> rfl
theorem keeps_in (B : BoxOk b) (hv : v.length = b.length) {i j : Nat} (hi : i < b.length) (hj : j < b.length) :
    t__law_keeps_f1 b v (i : Int) () (j : Int) = TM.pure (if !(decide (gI v i = gI v j) && [(0 : Int), 1].any fun s => !decide (gI v (to b i s) = gI v (to b j s))) then .inl () else .inr false) := by
  unfold t__law_keeps_f1
  rw [eq_t hv hi hj, TM.pure_bind]
  by_cases q : gI v i = gI v j
  · rw [decide_eq_true q, if_pos rfl, show rngT 0 (2 : Int) = some [0, 1] from by with_unfolding_all rfl, TM.lift_some, TM.pure_bind, TM.compL_map (g' := fun s => !decide (gI v (to b i s) = gI v (to b j s))) (by decide) fun s hs => by
      have hs : s = 0 ∨ s = 1 := by simpa using hs
      rw [step_t B hv hi hs, TM.pure_bind, step_t B hv hj hs, TM.pure_bind], TM.pure_bind, TM.pure_bind, List.any_map]
    show (if [(0 : Int), 1].any (fun s => !decide (gI v (to b i s) = gI v (to b j s))) = true then _ else _) = _
    generalize ([(0 : Int), 1].any fun s => !decide (gI v (to b i s) = gI v (to b j s))) = k
    cases k <;> rfl
  · rw [decide_eq_false q, if_neg (by decide), TM.pure_bind]
    rfl
theorem law_keeps_t (B : BoxOk b) (hv : v.length = b.length) : t__law_keeps b v = TM.pure (decide (KP b v)) := by
  have h5 := B.five
  unfold t__law_keeps
  rw [rngT_nats (by omega), TM.lift_some, TM.pure_bind]
  have e1 : ∀ i : Nat, i < b.length → t__law_keeps_f2 b v () (i : Int) = TM.pure (if (nats b.length).all fun j => !(decide (gI v i = gI v j.toNat) && [(0 : Int), 1].any fun s => !decide (gI v (to b i s) = gI v (to b j.toNat s))) then .inl () else .inr false) := fun i hi => by
    unfold t__law_keeps_f2
    rw [rngT_nats (by omega), TM.lift_some, TM.pure_bind, forB_all (p := fun j => !(decide (gI v i = gI v j.toNat) && [(0 : Int), 1].any fun s => !decide (gI v (to b i s) = gI v (to b j.toNat s)))) _ fun j hj => by
      obtain ⟨k, hk, rfl⟩ := nats_mem hj
      exact keeps_in B hv hi hk]
    show TM.bindB (TM.pure (if ((nats b.length).all _) = true then _ else _)) _ _ = _
    generalize ((nats b.length).all _) = k
    cases k <;> rfl
  rw [forB_all (p := fun i => (nats b.length).all fun j => !(decide (gI v i.toNat = gI v j.toNat) && [(0 : Int), 1].any fun s => !decide (gI v (to b i.toNat s) = gI v (to b j.toNat s)))) _ fun i hi => by
    obtain ⟨k, hk, rfl⟩ := nats_mem hi
    exact e1 k hk]
  have e : ((nats b.length).all fun i => (nats b.length).all fun j => !(decide (gI v i.toNat = gI v j.toNat) && [(0 : Int), 1].any fun s => !decide (gI v (to b i.toNat s) = gI v (to b j.toNat s)))) = decide (KP b v) := by
    rw [Bool.eq_iff_iff, decide_eq_true_iff]
    constructor
    · intro h i hi j hj q s hs
      have z := nats_all.mp (nats_all.mp h i hi) j hj
      simp only [Int.toNat_natCast, decide_eq_true q, Bool.true_and, Bool.not_eq_true', List.any_eq_false, Bool.not_eq_true, Bool.not_eq_false', Bool.not_eq_false, decide_eq_true_eq] at z
      exact z s (by simpa using hs)
    · intro h
      refine nats_all.mpr fun i hi => nats_all.mpr fun j hj => ?_
      by_cases q : gI v i = gI v j
      · simp only [Int.toNat_natCast, decide_eq_true q, Bool.true_and, Bool.not_eq_true', List.any_eq_false, Bool.not_eq_true, Bool.not_eq_false', Bool.not_eq_false, decide_eq_true_eq]
        exact fun s hs => h i hi j hj q s (by simpa using hs)
      · simp only [Int.toNat_natCast, decide_eq_false q, Bool.false_and, Bool.not_false]
  show TM.bindB (TM.pure (if ((nats b.length).all _) = true then _ else _)) _ _ = _
  rw [e]
  generalize decide (KP b v) = k
  cases k <;> rfl
/-- the kept ones -/
noncomputable def Kt (b : List Row) : List (List Int) := (Pt b.length).filter fun v => decide (KP b v)
theorem found_kept_t (B : BoxOk b) : t_found_kept b = TM.pure (Kt b) := by
  have h5 := B.five
  have := Pt_len5 _ h5
  unfold t_found_kept
  rw [all_partitions_t h5, TM.pure_bind, TM.compL_pure (p' := fun v => decide (KP b v)) (g' := fun v => v) (by omega) (fun v hv => does_keep_t B (Pt_len _ v hv)) fun v _ _ => rfl, List.map_id']
  rfl
theorem law_kept_t (B : BoxOk b) : TM.compL (fun y5 => (t__law_keeps b y5)) (fun y5 => (TM.pure y5)) (Pt b.length) = TM.pure (Kt b) := by
  have h5 := B.five
  have := Pt_len5 _ h5
  rw [TM.compL_pure (p' := fun v => decide (KP b v)) (g' := fun v => v) (by omega) (fun v hv => law_keeps_t B (Pt_len _ v hv)) fun v _ _ => rfl, List.map_id']
  rfl
end
end Lw

/-! T53e: what two give together: the law's way. -/
namespace Lw
open PySem PySem.Spec L2 DL

/-- a loop that goes on in an order and does something at each item -/
theorem forT_le {α L : Type} {f : L → α → TM L} {I : L → Prop} {Le : L → L → Prop} {D : α → L → Prop} (rf : ∀ l, Le l l) (tr : ∀ a b c, Le a b → Le b c → Le a c) (mo : ∀ x l l', I l → D x l → Le l l' → D x l') :
    ∀ (xs : List α), (∀ x ∈ xs, ∀ l, I l → ∃ l', f l x = TM.pure l' ∧ I l' ∧ Le l l' ∧ D x l') → ∀ l, I l → ∃ l', TM.forT f xs l = TM.pure l' ∧ I l' ∧ Le l l' ∧ ∀ x ∈ xs, D x l'
  | [], _, l, hI => ⟨l, rfl, hI, rf l, fun _ h => nomatch h⟩
  | x :: r, h, l, hI => by
    obtain ⟨l1, e1, i1, o1, d1⟩ := h x List.mem_cons_self l hI
    obtain ⟨l2, e2, i2, o2, d2⟩ := forT_le rf tr mo r (fun y hy => h y (List.mem_cons_of_mem _ hy)) l1 i1
    refine ⟨l2, ?_, i2, tr _ _ _ o1 o2, fun y hy => ?_⟩
    · unfold TM.forT
      rw [e1, TM.pure_bind, e2]
    · rcases List.mem_cons.mp hy with e | hy
      · rw [e]; exact mo _ _ _ i1 d1 o2
      · exact d2 y hy
/-- finest: what is alike by both is alike -/
structure Fin2 (n : Nat) (p q L : List Int) : Prop where
  len : L.length = n
  one : ∀ i j, i < n → j < n → gI p i = gI p j → gI L i = gI L j
  two : ∀ i j, i < n → j < n → gI q i = gI q j → gI L i = gI L j
  fin : ∀ f : Nat → Int, (∀ i j, i < n → j < n → gI p i = gI p j ∨ gI q i = gI q j → f i = f j) → ∀ i j, i < n → j < n → gI L i = gI L j → f i = f j
/-- so far -/
structure Ln (n : Nat) (p q L : List Int) : Prop where
  len : L.length = n
  one : ∀ i j, i < n → j < n → gI p i = gI p j → gI L i = gI L j
  fin : ∀ f : Nat → Int, (∀ i j, i < n → j < n → gI p i = gI p j ∨ gI q i = gI q j → f i = f j) → ∀ i j, i < n → j < n → gI L i = gI L j → f i = f j
def Lle (n : Nat) (L L' : List Int) : Prop := ∀ i j, i < n → j < n → gI L i = gI L j → gI L' i = gI L' j
theorem gI_map {L : List Int} {h : Int → Int} {i : Nat} (hi : i < L.length) : gI (L.map h) i = h (gI L i) := by
  unfold gI
  rw [List.getD_eq_getElem?_getD, List.getD_eq_getElem?_getD, List.getElem?_map, List.getElem?_eq_getElem hi]
  rfl
section
variable {n : Nat} {p q : List Int}
theorem lt_one (hn : n ≤ 5) (hq : q.length = n) {i j : Nat} (hi : i < n) (hj : j < n) (L : List Int) (h : Ln n p q L) :
    ∃ L', t__law_together_f1 q (i : Int) L (j : Int) = TM.pure L' ∧ Ln n p q L' ∧ Lle n L L' ∧ (gI q i = gI q j → gI L' i = gI L' j) := by
  unfold t__law_together_f1
  have ll := h.len
  rw [atI_v (by omega), TM.lift_some, TM.pure_bind, atI_v (by omega), TM.lift_some, TM.pure_bind, TM.pure_bind, atI_v (by omega), TM.lift_some, TM.pure_bind, atI_v (by omega), TM.lift_some, TM.pure_bind]
  have c0 : (if decide (gI q i = gI q j) = true then TM.pure true else TM.pure (decide (gI L i = gI L j))) = TM.pure (decide (gI q i = gI q j ∨ gI L i = gI L j)) := by
    by_cases c : gI q i = gI q j
    · rw [decide_eq_true c, if_pos rfl, decide_eq_true (Or.inl c)]
    · rw [decide_eq_false c, if_neg (by decide)]
      by_cases d : gI L i = gI L j
      · rw [decide_eq_true d, decide_eq_true (Or.inr d)]
      · rw [decide_eq_false d, decide_eq_false (fun w => w.elim c d)]
  rw [c0, TM.pure_bind]
  by_cases c : gI q i = gI q j ∨ gI L i = gI L j
  · rw [decide_eq_true c, if_pos rfl]
    simp only [TM.pure_bind]
    rw [TM.compV_map (by omega), TM.pure_bind]
    generalize hlo : (if gI L j < gI L i then gI L j else gI L i) = lo
    generalize hhi : (if gI L j > gI L i then gI L j else gI L i) = hi'
    have lh : (lo = gI L i ∧ hi' = gI L j) ∨ (lo = gI L j ∧ hi' = gI L i) := by
      by_cases d : gI L j < gI L i
      · rw [if_pos d] at hlo
        rw [if_neg (by omega)] at hhi
        exact .inr ⟨hlo.symm, hhi.symm⟩
      · rw [if_neg d] at hlo
        by_cases d2 : gI L j > gI L i
        · rw [if_pos d2] at hhi
          exact .inl ⟨hlo.symm, hhi.symm⟩
        · rw [if_neg d2] at hhi
          exact .inl ⟨hlo.symm, by omega⟩
    have at_ : ∀ k, k < n → gI (L.map fun y => if decide (y = hi') = true then lo else y) k = if gI L k = hi' then lo else gI L k := fun k hk => by
      rw [gI_map (by omega)]
      by_cases e : gI L k = hi'
      · rw [decide_eq_true e, if_pos rfl, if_pos e]
      · rw [decide_eq_false e, if_neg (by decide), if_neg e]
    have le : Lle n L (L.map fun y => if decide (y = hi') = true then lo else y) := fun a b ha hb e => by rw [at_ a ha, at_ b hb, e]
    refine ⟨_, rfl, ⟨by rw [List.length_map]; exact ll, fun a b ha hb e => le a b ha hb (h.one a b ha hb e), fun f hf a b ha hb e => ?_⟩, le, fun _ => ?_⟩
    · have F := h.fin f hf
      have fij : f i = f j := by
        rcases c with c | c
        · exact hf i j hi hj (.inr c)
        · exact F i j hi hj c
      have key : ∀ x y, x < n → y < n → gI L x = hi' → gI L y = lo → f x = f y := fun x y hx hy e1 e2 => by
        rcases lh with ⟨l1, l2⟩ | ⟨l1, l2⟩
        · rw [F x j hx hj (e1.trans l2), F y i hy hi (e2.trans l1), fij]
        · rw [F x i hx hi (e1.trans l2), F y j hy hj (e2.trans l1), fij]
      rw [at_ a ha, at_ b hb] at e
      by_cases e1 : gI L a = hi'
      · by_cases e2 : gI L b = hi'
        · exact F a b ha hb (e1.trans e2.symm)
        · rw [if_pos e1, if_neg e2] at e
          exact key a b ha hb e1 e.symm
      · by_cases e2 : gI L b = hi'
        · rw [if_neg e1, if_pos e2] at e
          exact (key b a hb ha e2 e).symm
        · rw [if_neg e1, if_neg e2] at e
          exact F a b ha hb e
    · rw [at_ i hi, at_ j hj]
      rcases lh with ⟨l1, l2⟩ | ⟨l1, l2⟩
      · rw [if_pos l2.symm, l1]
        split <;> rfl
      · rw [if_pos l2.symm, l1]
        split <;> rfl
  · rw [decide_eq_false c, if_neg (by decide)]
    exact ⟨L, rfl, h, fun _ _ _ _ e => e, fun w => absurd (.inl w) c⟩
theorem lt_two (hn : n ≤ 5) (hp : p.length = n) (hq : q.length = n) {i : Nat} (hi : i < n) (L : List Int) (h : Ln n p q L) :
    ∃ L', t__law_together_f2 p q L (i : Int) = TM.pure L' ∧ Ln n p q L' ∧ Lle n L L' ∧ (∀ j, j < n → gI q i = gI q j → gI L' i = gI L' j) := by
  obtain ⟨L', e, i1, o, d⟩ := forT_le (f := t__law_together_f1 q (i : Int)) (I := Ln n p q) (Le := Lle n) (D := fun x L => ∀ j : Nat, x = (j : Int) → j < n → gI q i = gI q j → gI L i = gI L j) (fun _ _ _ _ _ e => e) (fun a b c h1 h2 x y hx hy e => h2 x y hx hy (h1 x y hx hy e))
    (fun x l l' _ hd hl j ej hj eq => hl i j hi hj (hd j ej hj eq)) (nats n) (fun x hx l hl => by
      obtain ⟨j, hj, rfl⟩ := nats_mem hx
      obtain ⟨l', e1, e2, e3, e4⟩ := lt_one hn hq hi hj l hl
      exact ⟨l', e1, e2, e3, fun k ek _ => by
        obtain rfl : j = k := by omega
        exact e4⟩) L h
  refine ⟨L', ?_, i1, o, fun j hj => d (j : Int) (List.mem_map.mpr ⟨j, List.mem_range.mpr hj, rfl⟩) j rfl hj⟩
  unfold t__law_together_f2
  rw [hp, rngT_nats (by omega), TM.lift_some, TM.pure_bind, e, TM.pure_bind]
theorem lt_three (hn : n ≤ 5) (hp : p.length = n) (hq : q.length = n) (y : Int) (L : List Int) (h : Ln n p q L) :
    ∃ L', t__law_together_f3 p q L y = TM.pure L' ∧ Ln n p q L' ∧ Lle n L L' ∧ (∀ i j, i < n → j < n → gI q i = gI q j → gI L' i = gI L' j) := by
  obtain ⟨L', e, i1, o, d⟩ := forT_le (f := t__law_together_f2 p q) (I := Ln n p q) (Le := Lle n) (D := fun x L => ∀ i : Nat, x = (i : Int) → i < n → ∀ j, j < n → gI q i = gI q j → gI L i = gI L j) (fun _ _ _ _ _ e => e) (fun a b c h1 h2 x y hx hy e => h2 x y hx hy (h1 x y hx hy e))
    (fun x l l' _ hd hl i ei hi j hj eq => hl i j hi hj (hd i ei hi j hj eq)) (nats n) (fun x hx l hl => by
      obtain ⟨i, hi, rfl⟩ := nats_mem hx
      obtain ⟨l', e1, e2, e3, e4⟩ := lt_two hn hp hq hi l hl
      exact ⟨l', e1, e2, e3, fun k ek _ => by
        obtain rfl : i = k := by omega
        exact e4⟩) L h
  refine ⟨L', ?_, i1, o, fun i j hi hj => d (i : Int) (List.mem_map.mpr ⟨i, List.mem_range.mpr hi, rfl⟩) i rfl hi j hj⟩
  unfold t__law_together_f3
  rw [hp, rngT_nats (by omega), TM.lift_some, TM.pure_bind, e, TM.pure_bind]
theorem law_together_t (hn : n ≤ 5) (h1 : 1 ≤ n) (hp : p.length = n) (hq : q.length = n) : ∃ L, Fin2 n p q L ∧ t__law_together p q = TM.pure (num L) := by
  obtain ⟨L, e, i1, _, d⟩ := forT_le (f := t__law_together_f3 p q) (I := Ln n p q) (Le := Lle n) (D := fun _ L => ∀ i j, i < n → j < n → gI q i = gI q j → gI L i = gI L j) (fun _ _ _ _ _ e => e) (fun a b c h1 h2 x y hx hy e => h2 x y hx hy (h1 x y hx hy e))
    (fun x l l' _ hd hl i j hi hj eq => hl i j hi hj (hd i j hi hj eq)) p (fun x _ l hl => lt_three hn hp hq x l hl) p ⟨hp, fun _ _ _ _ e => e, fun f hf i j hi hj e => hf i j hi hj (.inl e)⟩
  have ne : p ≠ [] := fun z => by rw [z] at hp; simp at hp; omega
  obtain ⟨x, hx⟩ : ∃ x, x ∈ p := List.exists_mem_of_ne_nil _ ne
  refine ⟨L, ⟨i1.len, i1.one, d x hx, i1.fin⟩, ?_⟩
  unfold t__law_together
  rw [e, TM.pure_bind, lnumbered_t L (by have := i1.len; omega)]
end
end Lw

/-! T53f: what two give together: the program's way. -/
namespace Lw
open PySem PySem.Spec L2 DL

theorem gI_set {M : List Int} {i k : Nat} {x : Int} (hi : i < M.length) : gI (M.set i x) k = if k = i then x else gI M k := by
  unfold gI
  rw [List.getD_eq_getElem?_getD, List.getD_eq_getElem?_getD]
  by_cases e : k = i
  · rw [if_pos e, e, List.getElem?_set_self hi]; rfl
  · rw [if_neg e, List.getElem?_set_ne (fun z => e z.symm)]
theorem putT_ok {M : List Int} {i : Nat} {x : Int} (hi : i < M.length) : putT M (i : Int) x = some (M.set i x) := by
  unfold putT ixN
  rw [if_pos (by omega), if_pos (by omega)]
  rw [show ((i : Int)).toNat = i by omega]
  rfl
theorem eqA_int (a b : Int) : eqA (.int a) (.int b) = some (decide (a = b)) := by
  have h := o_eq (e := PyData.int) eqE_int a b
  rw [o_eqA] at h
  cases q : eqA (.int a) (.int b) with
  | none => rw [q] at h; cases h
  | some k => rw [q] at h; cases h; rfl
/-- the relation -/
def Rl (p q : List Int) (i j : Nat) : Prop := gI p i = gI p j ∨ gI q i = gI q j
/-- marks: none below F, none above its place -/
structure Mk (n : Nat) (F : Nat → Int) (M : List Int) : Prop where
  len : M.length = n
  lo : ∀ i, i < n → F i ≤ gI M i
  hi : ∀ i, i < n → gI M i ≤ (i : Int)
def Mle (n : Nat) (M M' : List Int) : Prop := ∀ i, i < n → gI M' i ≤ gI M i
section
variable {n : Nat} {p q : List Int} {F : Nat → Int}
theorem fIx_int (p : List Int) {i : Nat} (h : i < p.length) : fIx (eT PyData.int p) (.int (i : Int)) = some (.int (gI p i)) := by
  show fIx (.tuple (p.map .int)) (.int (i : Int)) = _
  rw [o_ixT, atI_v h]
  rfl
theorem tg_one (hp : p.length = n) (hq : q.length = n) (hF : ∀ i j, i < n → j < n → Rl p q i j → F i = F j) {i j : Nat} (hi : i < n) (hj : j < n) (M : List Int) (h : Mk n F M) :
    ∃ M', t_together_f1 (eT PyData.int p) (eT PyData.int q) (i : Int) M (j : Int) = TM.pure M' ∧ Mk n F M' ∧ Mle n M M' ∧ (Rl p q i j → gI M' i ≤ gI M j) := by
  have ml := h.len
  unfold t_together_f1
  rw [fIx_int p (by omega), TM.lift_some, TM.pure_bind, fIx_int p (by omega), TM.lift_some, TM.pure_bind, eqA_int, TM.lift_some, TM.pure_bind, fIx_int q (by omega), TM.lift_some, TM.pure_bind, fIx_int q (by omega), TM.lift_some, TM.pure_bind, eqA_int, TM.lift_some]
  have c0 : (if decide (gI p i = gI p j) = true then TM.pure true else TM.pure (decide (gI q i = gI q j))) = TM.pure (decide (gI p i = gI p j) || decide (gI q i = gI q j)) := by
    cases decide (gI p i = gI p j) <;> rfl
  rw [c0, TM.pure_bind]
  by_cases c : Rl p q i j
  · have c1 : (decide (gI p i = gI p j) || decide (gI q i = gI q j)) = true := by
      rw [Bool.or_eq_true, decide_eq_true_iff, decide_eq_true_iff]; exact c
    rw [if_pos c1, atI_v (by omega), TM.lift_some, TM.pure_bind, atI_v (by omega), TM.lift_some, TM.pure_bind, TM.pure_bind, putT_ok (by omega), TM.lift_some, TM.pure_bind]
    have fij := hF i j hi hj c
    have l1 := h.lo i hi
    have l2 := h.lo j hj
    have u1 := h.hi i hi
    have mn : (if gI M j < gI M i then gI M j else gI M i) ≤ gI M i ∧ (if gI M j < gI M i then gI M j else gI M i) ≤ gI M j ∧ F i ≤ (if gI M j < gI M i then gI M j else gI M i) := by
      by_cases d : gI M j < gI M i
      · rw [if_pos d]; omega
      · rw [if_neg d]; omega
    generalize (if gI M j < gI M i then gI M j else gI M i) = m at mn
    refine ⟨_, rfl, ⟨by rw [List.length_set]; exact ml, fun k hk => ?_, fun k hk => ?_⟩, fun k hk => ?_, fun _ => ?_⟩
    · rw [gI_set (by omega)]
      by_cases e : k = i
      · rw [if_pos e, e]; exact mn.2.2
      · rw [if_neg e]; exact h.lo k hk
    · rw [gI_set (by omega)]
      by_cases e : k = i
      · rw [if_pos e, e]; omega
      · rw [if_neg e]; exact h.hi k hk
    · rw [gI_set (by omega)]
      by_cases e : k = i
      · rw [if_pos e, e]; exact mn.1
      · rw [if_neg e]; exact Int.le_refl _
    · rw [gI_set (by omega), if_pos rfl]; exact mn.2.1
  · have c1 : ¬ (decide (gI p i = gI p j) || decide (gI q i = gI q j)) = true := fun w => by
      rw [Bool.or_eq_true, decide_eq_true_iff, decide_eq_true_iff] at w; exact c w
    rw [if_neg c1]
    exact ⟨M, rfl, h, fun _ _ => Int.le_refl _, fun w => absurd w c⟩
theorem lenA_row (p : List Int) : lenA (eT PyData.int p) = some (p.length : Int) := by
  show some (((p.map _).length : Nat) : Int) = _
  rw [List.length_map]
theorem tg_two (hn : n ≤ 5) (hp : p.length = n) (hq : q.length = n) (hF : ∀ i j, i < n → j < n → Rl p q i j → F i = F j) {M0 : List Int} {i : Nat} (hi : i < n) (M : List Int) (h : Mk n F M ∧ Mle n M0 M) :
    ∃ M', t_together_f2 (eT PyData.int p) (eT PyData.int q) M (i : Int) = TM.pure M' ∧ (Mk n F M' ∧ Mle n M0 M') ∧ Mle n M M' ∧ (∀ j, j < n → Rl p q i j → gI M' i ≤ gI M0 j) := by
  obtain ⟨M', e, i1, o, d⟩ := forT_le (f := t_together_f1 (eT PyData.int p) (eT PyData.int q) (i : Int)) (I := fun M => Mk n F M ∧ Mle n M0 M) (Le := Mle n) (D := fun x M => ∀ j : Nat, x = (j : Int) → j < n → Rl p q i j → gI M i ≤ gI M0 j) (fun _ _ _ => Int.le_refl _) (fun a b c h1 h2 x hx => Int.le_trans (h2 x hx) (h1 x hx))
    (fun x l l' _ hd hl j ej hj r => Int.le_trans (hl i hi) (hd j ej hj r)) (nats n) (fun x hx l hl => by
      obtain ⟨j, hj, rfl⟩ := nats_mem hx
      obtain ⟨l', e1, e2, e3, e4⟩ := tg_one hp hq hF hi hj l hl.1
      exact ⟨l', e1, ⟨e2, fun k hk => Int.le_trans (e3 k hk) (hl.2 k hk)⟩, e3, fun k ek _ r => by
        obtain rfl : j = k := by omega
        exact Int.le_trans (e4 r) (hl.2 j hj)⟩) M h
  refine ⟨M', ?_, i1, o, fun j hj => d (j : Int) (List.mem_map.mpr ⟨j, List.mem_range.mpr hj, rfl⟩) j rfl hj⟩
  unfold t_together_f2
  rw [lenA_row, hp, TM.lift_some, TM.pure_bind, rngT_nats (by omega), TM.lift_some, TM.pure_bind, e, TM.pure_bind]
theorem tg_three (hn : n ≤ 5) (hp : p.length = n) (hq : q.length = n) (hF : ∀ i j, i < n → j < n → Rl p q i j → F i = F j) (y : PyData) (M : List Int) (h : Mk n F M) :
    ∃ M', t_together_f3 (eT PyData.int p) (eT PyData.int q) M y = TM.pure M' ∧ Mk n F M' ∧ Mle n M M' ∧ (∀ i j, i < n → j < n → Rl p q i j → gI M' i ≤ gI M j) := by
  obtain ⟨M', e, i1, o, d⟩ := forT_le (f := t_together_f2 (eT PyData.int p) (eT PyData.int q)) (I := fun M' => Mk n F M' ∧ Mle n M M') (Le := Mle n) (D := fun x M' => ∀ i : Nat, x = (i : Int) → i < n → ∀ j, j < n → Rl p q i j → gI M' i ≤ gI M j) (fun _ _ _ => Int.le_refl _) (fun a b c h1 h2 x hx => Int.le_trans (h2 x hx) (h1 x hx))
    (fun x l l' _ hd hl i ei hi j hj r => Int.le_trans (hl i hi) (hd i ei hi j hj r)) (nats n) (fun x hx l hl => by
      obtain ⟨i, hi, rfl⟩ := nats_mem hx
      obtain ⟨l', e1, e2, e3, e4⟩ := tg_two hn hp hq hF hi l hl
      exact ⟨l', e1, e2, e3, fun k ek _ => by
        obtain rfl : i = k := by omega
        exact e4⟩) M ⟨h, fun _ _ => Int.le_refl _⟩
  refine ⟨M', ?_, i1.1, i1.2, fun i j hi hj => d (i : Int) (List.mem_map.mpr ⟨i, List.mem_range.mpr hi, rfl⟩) i rfl hi j hj⟩
  unfold t_together_f3
  rw [lenA_row, hp, TM.lift_some, TM.pure_bind, rngT_nats (by omega), TM.lift_some, TM.pure_bind, e, TM.pure_bind]
/-- the marks that are not yet the last ones -/
def bad (n : Nat) (F : Nat → Int) (M : List Int) : Nat := ((List.range n).filter fun i => decide (gI M i ≠ F i)).length
theorem flt_lt {α : Type} {a b : α → Bool} : ∀ {l : List α}, (∀ x ∈ l, b x = true → a x = true) → ((l.filter b).length ≤ (l.filter a).length ∧ ((∃ x ∈ l, a x = true ∧ b x = false) → (l.filter b).length < (l.filter a).length))
  | [], _ => ⟨Nat.le_refl _, fun ⟨_, h, _⟩ => nomatch h⟩
  | x :: r, h => by
    obtain ⟨h1, h2⟩ := flt_lt (l := r) fun y hy => h y (List.mem_cons_of_mem _ hy)
    have hx := h x List.mem_cons_self
    rw [List.filter_cons, List.filter_cons]
    cases ea : a x with
    | true =>
      cases eb : b x with
      | true =>
        rw [if_pos rfl, if_pos rfl, List.length_cons, List.length_cons]
        refine ⟨by omega, fun ⟨y, hy, q1, q2⟩ => ?_⟩
        rcases List.mem_cons.mp hy with e | hy
        · rw [e, eb] at q2; cases q2
        · have := h2 ⟨y, hy, q1, q2⟩; omega
      | false =>
        rw [if_pos rfl, if_neg (by decide), List.length_cons]
        exact ⟨by omega, fun _ => by omega⟩
    | false =>
      cases eb : b x with
      | true => rw [ea, eb] at hx; exact absurd (hx rfl) (by decide)
      | false =>
        rw [if_neg (by decide), if_neg (by decide)]
        refine ⟨h1, fun ⟨y, hy, q1, q2⟩ => ?_⟩
        rcases List.mem_cons.mp hy with e | hy
        · rw [e, ea] at q1; cases q1
        · exact h2 ⟨y, hy, q1, q2⟩
theorem bad_le (M : List Int) : bad n F M ≤ n := by
  unfold bad
  refine Nat.le_trans (List.length_filter_le _ _) (by rw [List.length_range]; exact Nat.le_refl _)
theorem bad_step (hF : ∀ i j, i < n → j < n → Rl p q i j → F i = F j) (hm : ∀ i, i < n → ∃ m, m < n ∧ F i = (m : Int) ∧ F m = F i)
    (hc : ∀ f : Nat → Int, (∀ i j, i < n → j < n → Rl p q i j → f i = f j) → ∀ i j, i < n → j < n → F i = F j → f i = f j)
    {M M' : List Int} (h : Mk n F M) (h' : Mk n F M') (le : Mle n M M') (rd : ∀ i j, i < n → j < n → Rl p q i j → gI M' i ≤ gI M j) : bad n F M = 0 ∨ bad n F M' < bad n F M := by
  by_cases hb : bad n F M = 0
  · exact .inl hb
  · refine .inr ((flt_lt fun i hi b => ?_).2 ?_)
    · have hi := List.mem_range.mp hi
      have b := of_decide_eq_true b
      refine decide_eq_true fun e => b ?_
      have l1 := h'.lo i hi
      have l2 := le i hi
      omega
    · obtain ⟨i, hi, ei⟩ : ∃ i, i < n ∧ gI M i ≠ F i := by
        obtain ⟨x, hx⟩ := List.exists_mem_of_ne_nil ((List.range n).filter fun i => decide (gI M i ≠ F i)) (fun z => hb (by unfold bad; rw [z]; rfl))
        obtain ⟨h1, h2⟩ := List.mem_filter.mp hx
        exact ⟨x, List.mem_range.mp h1, of_decide_eq_true h2⟩
      -- an edge from a last one to another
      obtain ⟨a, c, ha, hc', r, e1, e2⟩ : ∃ a c, a < n ∧ c < n ∧ Rl p q a c ∧ gI M a ≠ F a ∧ gI M c = F c := by
        refine Classical.byContradiction fun no => ?_
        have comp : ∀ x y, x < n → y < n → Rl p q x y → (fun k => if gI M k = F k then (1 : Int) else 0) x = (fun k => if gI M k = F k then (1 : Int) else 0) y := fun x y hx hy r => by
          dsimp only
          by_cases q1 : gI M x = F x
          · by_cases q2 : gI M y = F y
            · rw [if_pos q1, if_pos q2]
            · exact absurd ⟨y, x, hy, hx, r.imp Eq.symm Eq.symm, q2, q1⟩ no
          · by_cases q2 : gI M y = F y
            · exact absurd ⟨x, y, hx, hy, r, q1, q2⟩ no
            · rw [if_neg q1, if_neg q2]
        obtain ⟨m, hmn, m1, m2⟩ := hm i hi
        have z := hc _ comp i m hi hmn m2.symm
        try dsimp only at z
        have l1 := h.lo m hmn
        have l2 := h.hi m hmn
        rw [if_neg ei, if_pos (by omega)] at z
        cases z
      refine ⟨a, List.mem_range.mpr ha, decide_eq_true e1, decide_eq_false fun w => w ?_⟩
      have l1 := h'.lo a ha
      have l2 := rd a c ha hc' r
      have l3 := hF a c ha hc' r
      omega
theorem idxOf_le {x : Int} : ∀ {l : List Int} {i : Nat}, l[i]? = some x → l.idxOf x ≤ i
  | y :: r, 0, h => by
    cases h
    rw [List.idxOf_cons_self]
    exact Nat.le_refl _
  | y :: r, i + 1, h => by
    have h : r[i]? = some x := h
    rw [List.idxOf_cons]
    cases e : (y == x) with
    | true => exact Nat.zero_le _
    | false => exact Nat.succ_le_succ (idxOf_le h)
/-- the first of those alike -/
def fst1 (L : List Int) (i : Nat) : Int := (L.idxOf (gI L i) : Int)
theorem marks_t (hn : n ≤ 5) (hp : p.length = n) (hq : q.length = n) {L : List Int} (h : Fin2 n p q L) :
    ∃ M, M.length = n ∧ (∀ i, i < n → gI M i = fst1 L i) ∧ TM.forT (t_together_f3 (eT PyData.int p) (eT PyData.int q)) (p.map PyData.int) (nats n) = TM.pure M := by
  have ll := h.len
  have mem : ∀ i, i < n → gI L i ∈ L := fun i hi => List.mem_of_getElem? (gI_at (by omega))
  have idn : ∀ i, i < n → L.idxOf (gI L i) ≤ i := fun i hi => idxOf_le (gI_at (by omega))
  have sm : ∀ i j, i < n → j < n → fst1 L i = fst1 L j → gI L i = gI L j := fun i j hi hj e => idx_inj (mem i hi) (mem j hj) (by unfold fst1 at e; omega)
  have hF : ∀ i j, i < n → j < n → Rl p q i j → fst1 L i = fst1 L j := fun i j hi hj r => by
    unfold fst1
    rw [r.elim (h.one i j hi hj) (h.two i j hi hj)]
  have hm : ∀ i, i < n → ∃ m, m < n ∧ fst1 L i = (m : Int) ∧ fst1 L m = fst1 L i := fun i hi => by
    have hl := List.idxOf_lt_length_of_mem (mem i hi)
    refine ⟨L.idxOf (gI L i), by omega, rfl, ?_⟩
    unfold fst1
    have e : gI L (L.idxOf (gI L i)) = gI L i := by
      have := gI_at hl
      rw [List.getElem?_eq_getElem hl, List.getElem_idxOf hl] at this
      exact (Option.some.inj this).symm
    rw [e]
  have hc : ∀ f : Nat → Int, (∀ i j, i < n → j < n → Rl p q i j → f i = f j) → ∀ i j, i < n → j < n → fst1 L i = fst1 L j → f i = f j := fun f hf i j hi hj e => h.fin f hf i j hi hj (sm i j hi hj e)
  have g0 : ∀ i, i < n → gI (nats n) i = (i : Int) := fun i hi => by
    have := gI_at (v := nats n) (i := i) (by rw [nats_len]; exact hi)
    unfold nats at this ⊢
    rw [List.getElem?_map, List.getElem?_range hi] at this
    exact (Option.some.inj this).symm
  have M0 : Mk n (fst1 L) (nats n) := ⟨nats_len n, fun i hi => by rw [g0 i hi]; unfold fst1; have := idn i hi; omega, fun i hi => by rw [g0 i hi]; exact Int.le_refl _⟩
  obtain ⟨M, e, hM, hb⟩ := TM.forT_inv (f := t_together_f3 (eT PyData.int p) (eT PyData.int q)) (I := fun k M => Mk n (fst1 L) M ∧ (bad n (fst1 L) M = 0 ∨ bad n (fst1 L) M + k ≤ n)) (p.map PyData.int) 0 (nats n) (fun i x M _ ⟨i1, i2⟩ => by
    obtain ⟨M', e1, e2, e3, e4⟩ := tg_three hn hp hq hF x M i1
    refine ⟨M', e1, e2, ?_⟩
    rcases bad_step hF hm hc i1 e2 e3 e4 with z | z
    · refine .inl ?_
      have := (flt_lt (l := List.range n) (a := fun i => decide (gI M i ≠ fst1 L i)) (b := fun i => decide (gI M' i ≠ fst1 L i)) fun i hi b => by
        have hi := List.mem_range.mp hi
        have b := of_decide_eq_true b
        refine decide_eq_true fun e => b ?_
        have l1 := e2.lo i hi
        have l2 := e3 i hi
        omega).1
      unfold bad at z ⊢
      omega
    · rcases i2 with i2 | i2
      · omega
      · exact .inr (by omega)) ⟨M0, .inr (by have := bad_le (n := n) (F := fst1 L) (nats n); omega)⟩
  rw [List.length_map, hp, Nat.zero_add] at hb
  have z : bad n (fst1 L) M = 0 := by rcases hb with z | z <;> omega
  refine ⟨M, hM.len, fun i hi => ?_, e⟩
  refine Classical.byContradiction fun w => ?_
  have m : i ∈ (List.range n).filter fun i => decide (gI M i ≠ fst1 L i) := List.mem_filter.mpr ⟨List.mem_range.mpr hi, decide_eq_true w⟩
  unfold bad at z
  rw [List.length_eq_zero_iff.mp z] at m
  cases m
theorem pat_of {A B : List Int} (ha : A.length = n) (hb : B.length = n) (h : ∀ i j, i < n → j < n → (gI A i = gI A j ↔ gI B i = gI B j)) : Pat A B := ⟨by omega, fun i j hi hj => by
  rw [gI_at hi, gI_at hj, gI_at (v := B) (by omega), gI_at (v := B) (by omega), Option.some.injEq, Option.some.injEq]
  exact h i j (by omega) (by omega)⟩
theorem together_in (hn : n ≤ 5) (hp : p.length = n) (hq : q.length = n) {L : List Int} (h : Fin2 n p q L) :
    (((TM.lift (lenA (eT PyData.int p))).bind fun j => TM.lift (rngL 0 j)).bind fun x1 => ((TM.lift (itemsOf (eT PyData.int p))).bind fun z20 => (TM.forT (t_together_f3 (eT PyData.int p) (eT PyData.int q)) z20 x1).bind fun l2 => (t_numbered l2))) = TM.pure (num L) := by
  obtain ⟨M, l1, l2, e⟩ := marks_t hn hp hq h
  rw [lenA_row, hp, TM.lift_some, TM.pure_bind, rngL_nats (by omega), TM.lift_some, TM.pure_bind, show itemsOf (eT PyData.int p) = some (p.map PyData.int) from rfl, TM.lift_some, TM.pure_bind, e, TM.pure_bind, numbered_t M (by omega)]
  congr 1
  have mem : ∀ i, i < n → gI L i ∈ L := fun i hi => List.mem_of_getElem? (gI_at (by have := h.len; omega))
  refine num_pat M L (pat_of l1 h.len fun i j hi hj => ?_)
  rw [l2 i hi, l2 j hj]
  unfold fst1
  refine ⟨fun e => idx_inj (mem i hi) (mem j hj) (by omega), fun e => by rw [e]⟩
end
end Lw

/-! T53g: sorted lists of partitions, their repr. -/
namespace Lw
open PySem PySem.Spec L2 DL

theorem sortB_id {α : Type} {lt : α → α → Bool} : ∀ {l : List α}, l.Pairwise (fun a b => lt b a = false) → sortB lt l = l
  | [], _ => rfl
  | x :: r, h => by
    rw [List.pairwise_cons] at h
    show insB lt x (sortB lt r) = _
    rw [sortB_id h.2]
    cases r with
    | nil => rfl
    | cons y r =>
      show (if lt y x then _ else _) = _
      rw [h.1 y List.mem_cons_self, if_neg (by decide)]
theorem ltDs_ints : ∀ a b : List Int, ltDs (a.map .int) (b.map .int) = HT.lexLt a b
  | [], [] => rfl
  | [], _ :: _ => rfl
  | _ :: _, [] => rfl
  | x :: a, y :: b => by
    show (if PyData.eqv (.int x) (.int y) then ltDs (a.map .int) (b.map .int) else decide (x < y)) = _
    rw [eqE_int.eq, HT.lexLt_cons, ltDs_ints a b]
    by_cases h : x = y
    · rw [if_pos (decide_eq_true h), if_pos h]
    · rw [if_neg (fun w => h (of_decide_eq_true w)), if_neg h]
theorem ltD_row (a b : List Int) : ltD (eT PyData.int a) (eT PyData.int b) = HT.lexLt a b := ltDs_ints a b
theorem lex_irr : ∀ a : List Int, HT.lexLt a a = false
  | [] => rfl
  | x :: a => by rw [HT.lexLt_cons, if_pos rfl, lex_irr a]
abbrev eRR : List Int × List Int → PyData := e2 (eT PyData.int) (eT PyData.int)
theorem ltD_pair (x y : List Int × List Int) : ltD (eRR x) (eRR y) = if x.1 = y.1 then (if x.2 = y.2 then false else HT.lexLt x.2 y.2) else HT.lexLt x.1 y.1 := by
  show (if PyData.eqv (eT PyData.int x.1) (eT PyData.int y.1) then (if PyData.eqv (eT PyData.int x.2) (eT PyData.int y.2) then false else ltD (eT PyData.int x.2) (eT PyData.int y.2)) else ltD (eT PyData.int x.1) (eT PyData.int y.1)) = _
  rw [(eqE_T eqE_int).eq, (eqE_T eqE_int).eq, ltD_row, ltD_row]
  by_cases h : x.1 = y.1
  · rw [if_pos (decide_eq_true h), if_pos h]
    by_cases h2 : x.2 = y.2
    · rw [if_pos (decide_eq_true h2), if_pos h2]
    · rw [if_neg (fun w => h2 (of_decide_eq_true w)), if_neg h2]
  · rw [if_neg (fun w => h (of_decide_eq_true w)), if_neg h]
theorem alike_ints : ∀ a b : List Int, PySem.W.alikeAll (a.map .int) (b.map .int) = true
  | [], b => by unfold PySem.W.alikeAll; rfl
  | _ :: _, [] => by unfold PySem.W.alikeAll; rfl
  | x :: a, y :: b => by
    show (PySem.W.alike (.int x) (.int y) && PySem.W.alikeAll (a.map .int) (b.map .int)) = true
    rw [alike_ints a b]
    rfl
theorem alike_row (a b : List Int) : PySem.W.alike (eT PyData.int a) (eT PyData.int b) = true := alike_ints a b
theorem alike_pair (x y : List Int × List Int) : PySem.W.alike (eRR x) (eRR y) = true := by
  show (PySem.W.alike (eT PyData.int x.1) (eT PyData.int y.1) && (PySem.W.alike (eT PyData.int x.2) (eT PyData.int y.2) && PySem.W.alikeAll [] [])) = true
  rw [alike_row, alike_row]
  rfl
theorem sorts_of {α : Type} {e : α → PyData} {l : List α} (h1 : ∀ x ∈ l, ∀ y ∈ l, PySem.W.alike (e x) (e y) = true) (h2 : ∀ x ∈ l, isTup1 (e x) = true) (h3 : ∀ x ∈ l, (e x).depth ≤ 60) : sorts (l.map e) = true := by
  unfold sorts
  rw [Bool.and_eq_true, Bool.and_eq_true, Bool.or_eq_true, Bool.or_eq_true]
  refine ⟨⟨List.all_eq_true.mpr fun d hd => List.all_eq_true.mpr fun f hf => ?_, .inl (.inl (List.all_eq_true.mpr fun d hd => ?_))⟩, decide_eq_true (depthAll_le _ fun d hd => ?_)⟩
  · obtain ⟨x, hx, rfl⟩ := List.mem_map.mp hd
    obtain ⟨y, hy, rfl⟩ := List.mem_map.mp hf
    exact h1 x hx y hy
  · obtain ⟨x, hx, rfl⟩ := List.mem_map.mp hd
    exact h2 x hx
  · obtain ⟨x, hx, rfl⟩ := List.mem_map.mp hd
    exact h3 x hx
theorem srt_of {α : Type} {e : α → PyData} {l : List α} (h : sorts (l.map e) = true) (p : l.Pairwise fun a b => ltD (e b) (e a) = false) : srtT e l = some l := by
  unfold srtT
  rw [if_pos h, sortB_id p]
/-- a row with something in it -/
theorem isTup1_row {a : List Int} (h : a ≠ []) : isTup1 (eT PyData.int a) = true := by
  cases a with
  | nil => exact absurd rfl h
  | cons x r => rfl
theorem srt_rows {l : List (List Int)} (h : ∀ x ∈ l, x ≠ []) (p : l.Pairwise fun a b => HT.lexLt b a = false) : srtT (eT PyData.int) l = some l :=
  srt_of (sorts_of (fun x _ y _ => alike_row x y) (fun x hx => isTup1_row (h x hx)) fun x _ => Nat.le_trans ((eqE_T eqE_int).dep x) (by decide)) (p.imp fun q => by rw [ltD_row]; exact q)
theorem srt_pairs {l : List (List Int × List Int)} (p : l.Pairwise fun a b => ltD (eRR b) (eRR a) = false) : srtT eRR l = some l :=
  srt_of (sorts_of (fun x _ y _ => alike_pair x y) (fun x hx => rfl) fun x _ => Nat.le_trans ((eqE_2 (eqE_T eqE_int) (eqE_T eqE_int)).dep x) (by decide)) p
theorem Pt_sorted : ∀ n : Nat, n ≤ 5 → (Pt n).Pairwise fun a b => HT.lexLt a b = true ∧ HT.lexLt b a = false := by decide +kernel
end Lw

/-! T53h: kept partitions and pairs that split. -/
namespace Lw
open PySem PySem.Spec L2 DL

theorem asAll_map {α : Type} {e : α → PyData} {g : PyData → Option α} (h : ∀ x, g (e x) = some x) : ∀ xs : List α, asAll g (xs.map e) = some xs
  | [] => rfl
  | x :: r => by
    show asAll g (e x :: r.map e) = _
    unfold asAll
    rw [h, asAll_map h r]
    rfl
theorem asT_row (v : List Int) : asT asI (eT PyData.int v) = some v := asAll_map (e := PyData.int) (g := asI) (fun _ => rfl) v
theorem asT_box (b : List Row) : asT (as2 (as2 asI asI) (as2 asI asI)) (eBx b) = some b := asAll_map (e := e2 (e2 PyData.int PyData.int) (e2 PyData.int PyData.int)) (g := as2 (as2 asI asI) (as2 asI asI)) (fun _ => rfl) b
/-! ### repr -/
theorem repr_same {d : PyData} (h1 : isSeq d = true) (h2 : cost d ≤ 10000000) (h3 : d.depth ≤ 60) :
    (((TM.lift (reprT d)).bind fun x => TM.pure (PyData.str x)).bind fun c10 => ((TM.lift (reprT d)).bind fun x => TM.pure (PyData.str x)).bind fun c11 => TM.lift (neA c10 c11)) = TM.pure false := by
  obtain ⟨r1, r2⟩ := fRepr_ok h1 h2 h3
  rw [o_repr] at r1
  obtain ⟨s, e1, e2⟩ := Option.map_eq_some_iff.mp r1
  rw [e1]
  simp only [TM.lift_some, TM.pure_bind]
  have e2 : s = d.shown := by injection e2
  rw [e2]
  unfold neA
  rw [r2, eqv_str]
  rfl
theorem Pt_small : ∀ n : Nat, n ≤ 5 → ∀ p ∈ Pt n, ∀ x ∈ p, 0 ≤ x ∧ x < 100 := by decide +kernel
theorem cost_row {v : List Int} (h : ∀ x ∈ v, 0 ≤ x ∧ x < 100) (hl : v.length ≤ 5) : cost (eT PyData.int v) ≤ 24 := by
  have q := costs_le (k := 2) (v.map PyData.int) fun d hd => by
    obtain ⟨x, hx, rfl⟩ := List.mem_map.mp hd
    show (if 0 ≤ x ∧ x < 100 then 2 else 100000000) ≤ 2
    rw [if_pos (h x hx)]
    exact Nat.le_refl _
  rw [List.length_map] at q
  show costs (v.map PyData.int) + 4 ≤ 24
  omega
theorem cost_rows {l : List (List Int)} (h : ∀ v ∈ l, cost (eT PyData.int v) ≤ 24) (hl : l.length ≤ 52) : cost (eT (eT PyData.int) l) ≤ 10000000 := by
  have q := costs_le (k := 24) (l.map (eT PyData.int)) fun d hd => by
    obtain ⟨x, hx, rfl⟩ := List.mem_map.mp hd
    exact h x hx
  rw [List.length_map] at q
  show costs (l.map (eT PyData.int)) + 4 ≤ _
  omega
theorem cost_pairs {l : List (List Int × List Int)} (h : ∀ v ∈ l, cost (eT PyData.int v.1) ≤ 24 ∧ cost (eT PyData.int v.2) ≤ 24) (hl : l.length ≤ 2704) : cost (eT eRR l) ≤ 10000000 := by
  have q := costs_le (k := 56) (l.map eRR) fun d hd => by
    obtain ⟨x, hx, rfl⟩ := List.mem_map.mp hd
    obtain ⟨h1, h2⟩ := h x hx
    show cost (eT PyData.int x.1) + 2 + (cost (eT PyData.int x.2) + 2 + 0) + 4 ≤ 56
    omega
  rw [List.length_map] at q
  show costs (l.map eRR) + 4 ≤ _
  omega
section
variable {b : List Row}
theorem Kt_sub {p : List Int} (h : p ∈ Kt b) : p ∈ Pt b.length ∧ KP b p := by
  obtain ⟨h1, h2⟩ := List.mem_filter.mp h
  exact ⟨h1, of_decide_eq_true h2⟩
theorem Kt_iff {p : List Int} : p ∈ Kt b ↔ p ∈ Pt b.length ∧ KP b p := ⟨Kt_sub, fun ⟨h1, h2⟩ => List.mem_filter.mpr ⟨h1, decide_eq_true h2⟩⟩
theorem Kt_len (B : BoxOk b) : (Kt b).length ≤ 52 := Nat.le_trans (List.length_filter_le _ _) (Pt_len5 _ B.five)
theorem Kt_sorted (B : BoxOk b) : (Kt b).Pairwise fun a b => HT.lexLt a b = true ∧ HT.lexLt b a = false := (Pt_sorted _ B.five).filter _
theorem Kt_cost (B : BoxOk b) {p : List Int} (h : p ∈ Kt b) : cost (eT PyData.int p) ≤ 24 := by
  have h1 := (Kt_sub h).1
  have h5 := B.five
  have := Pt_len _ p h1
  exact cost_row (Pt_small _ h5 p h1) (by omega)
theorem kept_partitions_t (B : BoxOk b) : t_kept_partitions (eBx b) = TM.pure (Kt b) := by
  unfold t_kept_partitions
  rw [check_box_t B, TM.pure_bind, asT_box, TM.lift_some, TM.pure_bind, found_kept_t B, TM.pure_bind]
theorem kept_repr (B : BoxOk b) : ((((t_kept_partitions (eBx b)).bind fun c7 => (TM.lift (reprT ((eT (eT PyData.int)) c7)))).bind fun x => TM.pure (PyData.str x)).bind fun c10 => (((((TM.lift (srtT (eT PyData.int) (Kt b))).bind fun c8 => TM.pure c8).bind fun c9 => (TM.lift (reprT ((eT (eT PyData.int)) c9)))).bind fun x => TM.pure (PyData.str x)).bind fun c11 => (TM.lift (neA c10 c11)))) = TM.pure false := by
  have ne : ∀ x ∈ Kt b, x ≠ [] := fun x hx e => by
    have := Pt_len _ x (Kt_sub hx).1
    have := B.one
    rw [e] at *
    simp at *
    omega
  rw [kept_partitions_t B, srt_rows ne ((Kt_sorted B).imp fun h => h.2), TM.lift_some, TM.pure_bind, TM.pure_bind, TM.pure_bind]
  exact repr_same rfl (cost_rows (fun v hv => Kt_cost B hv) (Kt_len B)) (Nat.le_trans ((eqE_T (eqE_T eqE_int)).dep _) (by decide))
end
/-! ### pairs -/
def f2 (x : Int × Int) : List Int := [x.1, x.2]
theorem f2_inj {x y : Int × Int} (h : f2 x = f2 y) : x = y := by
  obtain ⟨a, b⟩ := x
  obtain ⟨c, d⟩ := y
  injection h with h1 h2
  injection h2 with h2
  have h1 : a = c := h1
  have h2 : b = d := h2
  rw [h1, h2]
theorem rowsD_pairs : ∀ z : List (Int × Int), rowsD (z.map (e2 PyData.int PyData.int)) = some (z.map f2)
  | [] => rfl
  | x :: r => by
    show (intsOf [.int x.1, .int x.2]).bind _ = _
    rw [rowsD_pairs r]
    rfl
theorem setLen_pairs {z : List (Int × Int)} (h : z.length ≤ 64) (hz : z ≠ []) : setLenT (e2 PyData.int PyData.int) z = some ((dist (z.map f2)).length : Int) := by
  cases z with
  | nil => exact absurd rfl hz
  | cons x r =>
    have e1 : intsOf ((x :: r).map (e2 PyData.int PyData.int)) = none := rfl
    unfold setLenT fSetLen
    dsimp only
    rw [e1, rowsD_pairs]
    dsimp only
    rw [if_pos (decide_eq_true (by rw [List.length_map]; exact h))]
theorem dist_nd {z : List (Int × Int)} : (dist (z.map f2)).length = z.length ↔ z.Nodup := by
  have nm : (z.map f2).Nodup ↔ z.Nodup := by
    unfold List.Nodup
    rw [List.pairwise_map]
    exact ⟨fun h => h.imp fun q e => q (by rw [e]), fun h => h.imp fun q e => q (f2_inj e)⟩
  rw [← nm]
  refine ⟨fun h => dist_full (by rw [h, List.length_map]), fun h => by rw [dist_id h, List.length_map]⟩
theorem num_nats : ∀ n : Nat, n ≤ 5 → num (nats n) = nats n := by decide +kernel
theorem nats_nd (n : Nat) : (nats n).Nodup := by
  unfold nats List.Nodup
  rw [List.pairwise_map]
  exact List.nodup_range.imp fun h e => h (by omega)
theorem get_inj {α : Type} {l : List α} (h : l.Nodup) {i j : Nat} (hi : i < l.length) (hj : j < l.length) : l[i]? = l[j]? ↔ i = j := by
  rw [List.getElem?_eq_getElem hi, List.getElem?_eq_getElem hj, Option.some.injEq]
  exact List.getElem_inj h
theorem num_nd {n : Nat} (hn : n ≤ 5) {z : List (Int × Int)} (hl : z.length = n) : num z = nats n ↔ z.Nodup := by
  constructor
  · intro e
    refine List.pairwise_iff_getElem.mpr fun i j hi hj hij w => ?_
    have q := (num_same (xs := z) hi hj).mpr (by rw [List.getElem?_eq_getElem hi, List.getElem?_eq_getElem hj, w])
    rw [e] at q
    have := (get_inj (nats_nd n) (by rw [nats_len]; omega) (by rw [nats_len]; omega)).mp q
    omega
  · intro nd
    rw [← num_nats n hn]
    refine num_pat z (nats n) ⟨by rw [nats_len]; exact hl, fun i j hi hj => ?_⟩
    rw [get_inj nd hi hj, get_inj (nats_nd n) (by rw [nats_len]; omega) (by rw [nats_len]; omega)]
/-! ### splits -/
theorem mxT_Pt : ∀ n : Nat, n ≤ 5 → 1 ≤ n → ∀ p ∈ Pt n, maxT p = some ((mxL p : Int) - 1) := by decide +kernel
def cnd (n : Nat) (p q : List Int) : Bool := HT.lexLt p q && (decide (mxL p < n) && (decide (mxL q < n) && decide ((p.zip q).Nodup)))
theorem zip_len {n : Nat} {p q : List Int} (hp : p.length = n) (hq : q.length = n) : (p.zip q).length = n := by rw [List.length_zip, hp, hq, Nat.min_self]
theorem zipT_ok {n : Nat} {p q : List Int} (hp : p.length = n) (hq : q.length = n) : zipT p q = some (p.zip q) := by
  unfold zipT
  rw [if_pos (by rw [hp, hq])]
noncomputable def Sp (b : List Row) : List (List Int × List Int) := (Kt b).flatMap fun p => ((Kt b).filter fun q => cnd b.length p q).map fun q => (p, q)
theorem flat_len {α β : Type} {g : α → List β} {k : Nat} : ∀ {l : List α}, (∀ x ∈ l, (g x).length ≤ k) → (l.flatMap g).length ≤ l.length * k
  | [], _ => Nat.zero_le _
  | x :: r, h => by
    have h1 := h x List.mem_cons_self
    have h2 := flat_len (l := r) fun y hy => h y (List.mem_cons_of_mem _ hy)
    rw [List.flatMap_cons, List.length_append, List.length_cons, Nat.succ_mul]
    omega
theorem flat_filter {α β : Type} {g : α → List β} {s : α → Bool} : ∀ {l : List α}, (l.filter s).flatMap g = l.flatMap fun x => if s x = true then g x else []
  | [] => rfl
  | x :: r => by
    rw [List.filter_cons, List.flatMap_cons]
    by_cases h : s x = true
    · rw [if_pos h, if_pos h, List.flatMap_cons, flat_filter]
    · rw [if_neg h, if_neg h, flat_filter, List.nil_append]
theorem flat_congr {α β : Type} {g h : α → List β} : ∀ {l : List α}, (∀ x ∈ l, g x = h x) → l.flatMap g = l.flatMap h
  | [], _ => rfl
  | x :: r, q => by rw [List.flatMap_cons, List.flatMap_cons, q x List.mem_cons_self, flat_congr fun y hy => q y (List.mem_cons_of_mem _ hy)]
section
variable {b : List Row}
theorem Sp_len (B : BoxOk b) : (Sp b).length ≤ 2704 := by
  have h := Kt_len B
  refine Nat.le_trans (flat_len (k := 52) fun x _ => ?_) (Nat.mul_le_mul h (Nat.le_refl 52))
  rw [List.length_map]
  exact Nat.le_trans (List.length_filter_le _ _) h
/-- those with few labels -/
noncomputable def Ks (b : List Row) : List (List Int) := (Kt b).filter fun p => decide (mxL p < b.length)
noncomputable def row1 (b : List Row) (p : List Int) : List (List Int × List Int) := ((Ks b).filter fun q => HT.lexLt p q && decide ((p.zip q).Nodup)).map fun q => (p, q)
theorem Ks_sub {p : List Int} (h : p ∈ Ks b) : p ∈ Kt b := (List.mem_filter.mp h).1
theorem splits_row (B : BoxOk b) {p : List Int} (hp : p ∈ Ks b) (l : List (List Int × List Int)) (hl : l.length ≤ 10000) : t_splits_f1 (b.length : Int) (Ks b) l p = TM.pure (l ++ row1 b p) := by
  have h5 := B.five
  have h1 := B.one
  have k1 := Kt_len B
  have k2 : (Ks b).length ≤ 52 := Nat.le_trans (List.length_filter_le _ _) k1
  have lp := Pt_len _ p (Kt_sub (Ks_sub hp)).1
  unfold t_splits_f1
  rw [TM.compL_pure (p' := fun q => HT.lexLt p q && decide ((p.zip q).Nodup)) (g' := fun q => (p, q)) (by omega) (fun q hq => by
    have lq := Pt_len _ q (Kt_sub (Ks_sub hq)).1
    have lz := zip_len lp lq
    cases c : HT.lexLt p q with
    | false => rfl
    | true =>
      rw [if_pos rfl, zipT_ok lp lq, TM.lift_some, TM.pure_bind, setLen_pairs (by omega) (fun e => by rw [e] at lz; simp at lz; omega), TM.lift_some, TM.pure_bind]
      congr 1
      rw [Bool.true_and]
      exact decide_eq_decide.mpr ⟨fun e => dist_nd.mp (by omega), fun e => by have := dist_nd.mpr e; omega⟩) (fun q _ _ => rfl), TM.pure_bind]
  have l2 : (row1 b p).length ≤ 52 := by
    unfold row1
    rw [List.length_map]
    exact Nat.le_trans (List.length_filter_le _ _) k2
  show (TM.lift (extT l (row1 b p))).bind _ = _
  rw [show extT l (row1 b p) = some (l ++ row1 b p) by unfold extT; exact if_pos (by omega), TM.lift_some, TM.pure_bind]
theorem splits_t (B : BoxOk b) : t_splits (eBx b) = TM.pure (Sp b) := by
  have h5 := B.five
  have k1 := Kt_len B
  have k2 : (Ks b).length ≤ 52 := Nat.le_trans (List.length_filter_le _ _) k1
  unfold t_splits
  rw [check_box_t B, TM.pure_bind, show lenA (eBx b) = some (b.length : Int) by show some (((b.map _).length : Nat) : Int) = _; rw [List.length_map], TM.lift_some, TM.pure_bind, asT_box, TM.lift_some, TM.pure_bind, found_kept_t B, TM.pure_bind,
    TM.compL_pure (p' := fun p => decide (mxL p < b.length)) (g' := fun p => p) (by omega) (fun p hp => by
      have lp := Pt_len _ p (Kt_sub hp).1
      rw [setLenT_ints (by omega), TM.lift_some, TM.pure_bind, (mx_Pt _ h5 p (Kt_sub hp).1).1]
      congr 1
      exact decide_eq_decide.mpr (by omega)) (fun _ _ _ => rfl), List.map_id', TM.pure_bind]
  have e := TM.forT_eq (f := t_splits_f1 (b.length : Int) (Ks b)) (fun i => ((Ks b).take i).flatMap (row1 b)) (Ks b) 0 fun i p hp => by
    rw [Nat.zero_add]
    have hl : (((Ks b).take i).flatMap (row1 b)).length ≤ 10000 := by
      refine Nat.le_trans (flat_len (k := 52) fun x _ => ?_) (by
        have : ((Ks b).take i).length ≤ 52 := Nat.le_trans (by rw [List.length_take]; exact Nat.min_le_right _ _) k2
        omega)
      unfold row1
      rw [List.length_map]
      exact Nat.le_trans (List.length_filter_le _ _) k2
    rw [splits_row B (List.mem_of_getElem? hp) _ hl, take_one hp, List.flatMap_append, List.flatMap_singleton]
  rw [Nat.zero_add, List.take_length, List.take_zero, List.flatMap_nil] at e
  show ((TM.forT (t_splits_f1 (b.length : Int) (Ks b)) (Ks b) []).bind _) = _
  rw [e, TM.pure_bind]
  congr 1
  unfold Ks Sp
  rw [flat_filter]
  refine flat_congr fun p _ => ?_
  by_cases c : mxL p < b.length
  · rw [if_pos (decide_eq_true c)]
    unfold row1 Ks
    rw [List.filter_filter]
    congr 1
    refine List.filter_congr fun q _ => ?_
    unfold cnd
    rw [decide_eq_true c]
    cases HT.lexLt p q <;> cases decide (mxL q < b.length) <;> cases decide ((p.zip q).Nodup) <;> rfl
  · rw [if_neg (fun w => c (of_decide_eq_true w))]
    have : ((Kt b).filter fun q => cnd b.length p q) = [] := List.filter_eq_nil_iff.mpr fun q _ w => by
      unfold cnd at w
      rw [decide_eq_false c] at w
      cases h : HT.lexLt p q <;> rw [h] at w <;> cases w
    rw [this]
    rfl
/-- the law's pairs -/
theorem law_pairs_t (B : BoxOk b) (o : Option (List Int)) : ∃ l, l.1 = Sp b ∧ TM.forT (t_law_f3 b (Kt b)) (Kt b) ([], o) = TM.pure l := by
  have h5 := B.five
  have h1 := B.one
  have k1 := Kt_len B
  have step : ∀ (i : Nat) (p : List Int) (l : List (List Int × List Int) × Option (List Int)), (Kt b)[i]? = some p → l.1 = ((Kt b).take (0 + i)).flatMap (fun p => ((Kt b).filter fun q => cnd b.length p q).map fun q => (p, q)) → ∃ l', t_law_f3 b (Kt b) l p = TM.pure l' ∧ l'.1 = ((Kt b).take (0 + i + 1)).flatMap (fun p => ((Kt b).filter fun q => cnd b.length p q).map fun q => (p, q)) := fun i p l hp hl => by
    have mp := List.mem_of_getElem? hp
    have lp := Pt_len _ p (Kt_sub mp).1
    rw [Nat.zero_add] at hl ⊢
    have ll : l.1.length ≤ 10000 := by
      rw [hl]
      refine Nat.le_trans (flat_len (k := 52) fun x _ => ?_) (by
        have : ((Kt b).take i).length ≤ 52 := Nat.le_trans (by rw [List.length_take]; exact Nat.min_le_right _ _) k1
        omega)
      rw [List.length_map]
      exact Nat.le_trans (List.length_filter_le _ _) k1
    unfold t_law_f3
    rw [TM.compL_pure (p' := fun q => cnd b.length p q) (g' := fun q => (p, q)) (by omega) (fun q hq => by
      have lq := Pt_len _ q (Kt_sub hq).1
      have lz := zip_len lp lq
      unfold cnd
      cases c : HT.lexLt p q with
      | false => rfl
      | true =>
        rw [if_pos rfl, zipT_ok lp lq, TM.lift_some, TM.pure_bind, lnumbered_t2 _ (by omega), TM.pure_bind, rngL_nats (by omega), TM.lift_some, TM.pure_bind, show tupT (nats b.length) = some (nats b.length) by unfold tupT; rw [short_dec, nats_len, if_pos (decide_eq_true (by omega))], TM.lift_some, TM.pure_bind, TM.pure_bind, Bool.true_and,
          mxT_Pt _ h5 h1 p (Kt_sub mp).1, mxT_Pt _ h5 h1 q (Kt_sub hq).1]
        simp only [TM.lift_some, TM.pure_bind]
        rw [show decide (num (p.zip q) = nats b.length) = decide ((p.zip q).Nodup) from decide_eq_decide.mpr (num_nd h5 lz),
          show decide ((mxL p : Int) - 1 + 1 < (b.length : Int)) = decide (mxL p < b.length) from decide_eq_decide.mpr (by omega), show decide ((mxL q : Int) - 1 + 1 < (b.length : Int)) = decide (mxL q < b.length) from decide_eq_decide.mpr (by omega)]
        cases decide ((p.zip q).Nodup) <;> cases decide (mxL p < b.length) <;> cases decide (mxL q < b.length) <;> rfl) (fun q _ _ => rfl), TM.pure_bind]
    have l2 : (((Kt b).filter fun q => cnd b.length p q).map fun q => (p, q)).length ≤ 52 := by
      rw [List.length_map]
      exact Nat.le_trans (List.length_filter_le _ _) k1
    rw [catT_ok (by omega), TM.lift_some, TM.pure_bind]
    refine ⟨_, rfl, ?_⟩
    rw [take_one hp, List.flatMap_append, List.flatMap_singleton, ← hl]
  obtain ⟨l, e1, e2⟩ := TM.forT_inv (f := t_law_f3 b (Kt b)) (I := fun i l => l.1 = ((Kt b).take i).flatMap (fun p => ((Kt b).filter fun q => cnd b.length p q).map fun q => (p, q))) (Kt b) 0 ([], o) step rfl
  rw [Nat.zero_add, List.take_length] at e2
  exact ⟨l, e2, e1⟩
end
end Lw

/-! T53i: what is a partition, typed. -/
namespace Lw
open PySem PySem.Spec L2 DL

section
variable {b : List Row}
theorem Sp_sorted (B : BoxOk b) : (Sp b).Pairwise fun x y => ltD (eRR y) (eRR x) = false := by
  have hK := Kt_sorted B
  have ne : ∀ {x y : List Int}, HT.lexLt x y = true → ¬ y = x := fun {x y} h e => by
    rw [e, lex_irr] at h
    cases h
  unfold Sp
  rw [List.pairwise_flatMap]
  refine ⟨fun p _ => ?_, hK.imp fun {p p'} h x hx y hy => ?_⟩
  · rw [List.pairwise_map]
    refine (hK.filter _).imp fun {q q'} h => ?_
    rw [ltD_pair, if_pos rfl, if_neg (ne h.1)]
    exact h.2
  · obtain ⟨q, _, rfl⟩ := List.mem_map.mp hx
    obtain ⟨q', _, rfl⟩ := List.mem_map.mp hy
    rw [ltD_pair, if_neg (ne h.1)]
    exact h.2
theorem Sp_mem {x : List Int × List Int} (h : x ∈ Sp b) : x.1 ∈ Kt b ∧ x.2 ∈ Kt b := by
  obtain ⟨p, hp, q⟩ := List.mem_flatMap.mp h
  obtain ⟨q, hq, rfl⟩ := List.mem_map.mp q
  exact ⟨hp, (List.mem_filter.mp hq).1⟩
theorem splits_repr (B : BoxOk b) : (((((t_splits (eBx b)).bind fun c27 => (TM.lift (reprT ((eT (e2 (eT PyData.int) (eT PyData.int))) c27)))).bind fun x => TM.pure (PyData.str x)).bind fun c30 => (((((TM.lift (srtT (e2 (eT PyData.int) (eT PyData.int)) (Sp b))).bind fun c28 => TM.pure c28).bind fun c29 => (TM.lift (reprT ((eT (e2 (eT PyData.int) (eT PyData.int))) c29)))).bind fun x => TM.pure (PyData.str x)).bind fun c31 => (TM.lift (neA c30 c31))))) = TM.pure false := by
  rw [splits_t B, srt_pairs (Sp_sorted B), TM.lift_some, TM.pure_bind, TM.pure_bind, TM.pure_bind]
  exact repr_same rfl (cost_pairs (fun v hv => ⟨Kt_cost B (Sp_mem hv).1, Kt_cost B (Sp_mem hv).2⟩) (Sp_len B)) (Nat.le_trans ((eqE_T (eqE_2 (eqE_T eqE_int) (eqE_T eqE_int))).dep _) (by decide))
end
/-! ### is_partition -/
theorem whole_int (i : Int) : t_is_whole (.int i) = TM.pure true := rfl
theorem lenA_box (b : List Row) : lenA (eBx b) = some (b.length : Int) := by
  show some (((b.map _).length : Nat) : Int) = _
  rw [List.length_map]
section
variable {b : List Row}
theorem part_row (B : BoxOk b) {v : List Int} (hl : v.length ≤ 10) : t_is_partition (eBx b) (eT PyData.int v) = TM.pure (decide (v ∈ Pt b.length)) := by
  have h5 := B.five
  unfold t_is_partition
  rw [show isOf "tuple" (eT PyData.int v) = some true from rfl, TM.lift_some, TM.pure_bind, TM.pure_bind, if_neg (by decide), lenA_row, TM.lift_some, TM.pure_bind, lenA_box, TM.lift_some, TM.pure_bind, TM.pure_bind]
  by_cases e : v.length = b.length
  · rw [decide_eq_true (by omega : (v.length : Int) = (b.length : Int)), if_neg (by decide), show itemsOf (eT PyData.int v) = some (v.map PyData.int) from rfl, TM.lift_some, TM.pure_bind,
      TM.compL_map (g' := fun _ => true) (by rw [List.length_map]; omega) (fun x hx => by
        obtain ⟨i, _, rfl⟩ := List.mem_map.mp hx
        exact whole_int i), TM.pure_bind, TM.pure_bind]
    have a1 : ((v.map PyData.int).map fun _ => true).all id = true := by
      rw [List.all_map]; exact List.all_eq_true.mpr fun _ _ => rfl
    rw [a1, TM.pure_bind, if_neg (by decide), asT_row, TM.lift_some, TM.pure_bind, numbered_t3 v (by omega), TM.pure_bind, TM.pure_bind]
    have q := o_eq (e := eT PyData.int) (eqE_T eqE_int) (num v) v
    rw [o_eqA] at q
    obtain ⟨k, e1, e2⟩ := Option.map_eq_some_iff.mp q
    injection e2 with e2
    rw [e1, TM.lift_some, e2]
    congr 1
    exact decide_eq_decide.mpr (Pt_iff h5 e)
  · rw [decide_eq_false (by omega : ¬ (v.length : Int) = (b.length : Int)), if_pos (by decide), TM.pure_bind, if_pos rfl, decide_eq_false fun h => e (Pt_len _ v h)]
/-- what is no tuple -/
theorem part_no {d : PyData} (h : isOf "tuple" d = some false) : t_is_partition (eBx b) d = TM.pure false := by
  unfold t_is_partition
  rw [h]
  rfl
/-- what begins with True -/
theorem part_true {r : List Int} (hl : r.length ≤ 10) : t_is_partition (eBx b) (eT eA (PyData.bool true :: r.map PyData.int)) = TM.pure false := by
  unfold t_is_partition
  have e1 : lenA (eT eA (PyData.bool true :: r.map PyData.int)) = some ((r.length + 1 : Nat) : Int) := by
    show some (((PyData.bool true :: r.map PyData.int).map eA).length : Int) = _
    rw [List.length_map, List.length_cons, List.length_map]
  have e2 : itemsOf (eT eA (PyData.bool true :: r.map PyData.int)) = some (PyData.bool true :: r.map PyData.int) := by
    show some ((PyData.bool true :: r.map PyData.int).map eA) = _
    exact congrArg some (List.map_id _)
  rw [show isOf "tuple" (eT eA (PyData.bool true :: r.map PyData.int)) = some true from rfl, TM.lift_some, TM.pure_bind, TM.pure_bind, if_neg (by decide), e1, TM.lift_some, TM.pure_bind, lenA_box, TM.lift_some, TM.pure_bind, TM.pure_bind]
  by_cases e : ((r.length + 1 : Nat) : Int) = (b.length : Int)
  · rw [decide_eq_true e, if_neg (by decide), e2, TM.lift_some, TM.pure_bind,
      TM.compL_map (g' := fun d => match d with | .bool _ => false | _ => true) (by rw [List.length_cons, List.length_map]; omega) (fun x hx => by
        rcases List.mem_cons.mp hx with q | q
        · rw [q]; rfl
        · obtain ⟨i, _, rfl⟩ := List.mem_map.mp q
          rfl), TM.pure_bind, TM.pure_bind]
    rfl
  · rw [decide_eq_false e, if_pos (by decide), TM.pure_bind, if_pos rfl]
theorem check_good (B : BoxOk b) {p q : List Int} (hp : p ∈ Pt b.length) (hq : q ∈ Pt b.length) : t_check_partitions (eBx b) (eT PyData.int p) (eT PyData.int q) = TM.pure () := by
  have h5 := B.five
  have lp := Pt_len _ p hp
  have lq := Pt_len _ q hq
  unfold t_check_partitions
  rw [check_box_t B, TM.pure_bind, part_row B (by omega), decide_eq_true hp, TM.pure_bind, TM.pure_bind, if_neg (by decide), part_row B (by omega), decide_eq_true hq, TM.pure_bind, TM.pure_bind, if_neg (by decide)]
theorem check_bad1 (B : BoxOk b) {d c : PyData} (h : t_is_partition (eBx b) d = TM.pure false) : t_check_partitions (eBx b) d c = TM.raise .malformed := by
  unfold t_check_partitions
  rw [check_box_t B, TM.pure_bind, h, TM.pure_bind, TM.pure_bind, if_pos (by decide), TM.pure_bind, if_pos rfl]
theorem check_bad2 (B : BoxOk b) {p : List Int} {c : PyData} (hp : p ∈ Pt b.length) (h : t_is_partition (eBx b) c = TM.pure false) : t_check_partitions (eBx b) (eT PyData.int p) c = TM.raise .malformed := by
  have h5 := B.five
  have lp := Pt_len _ p hp
  unfold t_check_partitions
  rw [check_box_t B, TM.pure_bind, part_row B (by omega), decide_eq_true hp, TM.pure_bind, TM.pure_bind, if_neg (by decide), h, TM.pure_bind, TM.pure_bind, if_pos (by decide)]
theorem common_t (B : BoxOk b) {p q : List Int} (hp : p ∈ Pt b.length) (hq : q ∈ Pt b.length) : t_common (eBx b) (eT PyData.int p) (eT PyData.int q) = TM.pure (num (p.zip q)) := by
  have h5 := B.five
  have lp := Pt_len _ p hp
  have lq := Pt_len _ q hq
  have lz := zip_len lp lq
  unfold t_common
  rw [check_good B hp hq, TM.pure_bind, asT_row, TM.lift_some, TM.pure_bind, asT_row, TM.lift_some, TM.pure_bind, zipT_ok lp lq, TM.lift_some, TM.pure_bind, numbered_t2 _ (by omega)]
theorem together_t (B : BoxOk b) {p q L : List Int} (hp : p ∈ Pt b.length) (hq : q ∈ Pt b.length) (h : Fin2 b.length p q L) : t_together (eBx b) (eT PyData.int p) (eT PyData.int q) = TM.pure (num L) := by
  unfold t_together
  rw [check_good B hp hq, TM.pure_bind]
  exact together_in B.five (Pt_len _ p hp) (Pt_len _ q hq) h
theorem is_kept_row (B : BoxOk b) {v : List Int} (hl : v.length ≤ 10) : t_is_kept (eBx b) (eT PyData.int v) = TM.pure (decide (v ∈ Kt b)) := by
  unfold t_is_kept
  rw [check_box_t B, TM.pure_bind, part_row B hl, TM.pure_bind]
  by_cases h : v ∈ Pt b.length
  · rw [decide_eq_true h, if_pos rfl, asT_box, TM.lift_some, TM.pure_bind, asT_row, TM.lift_some, TM.pure_bind, does_keep_t B (Pt_len _ v h)]
    congr 1
    exact decide_eq_decide.mpr ⟨fun k => Kt_iff.mpr ⟨h, k⟩, fun k => (Kt_sub k).2⟩
  · rw [decide_eq_false h, if_neg (by decide), decide_eq_false fun k => h (Kt_sub k).1]
theorem is_kept_no (B : BoxOk b) {d : PyData} (h : t_is_partition (eBx b) d = TM.pure false) : t_is_kept (eBx b) d = TM.pure false := by
  unfold t_is_kept
  rw [check_box_t B, TM.pure_bind, h, TM.pure_bind, if_neg (by decide)]
/-! ### what is kept stays so -/
theorem gI_num {α : Type} [DecidableEq α] {xs : List α} {i j : Nat} (hi : i < xs.length) (hj : j < xs.length) : gI (num xs) i = gI (num xs) j ↔ xs[i]? = xs[j]? := by
  have l := num_len xs
  rw [← num_same hi hj, gI_at (v := num xs) (by omega), gI_at (v := num xs) (by omega), Option.some.injEq]
theorem common_kept (B : BoxOk b) {p q : List Int} (hp : p ∈ Kt b) (hq : q ∈ Kt b) : num (p.zip q) ∈ Kt b := by
  obtain ⟨p1, p2⟩ := Kt_sub hp
  obtain ⟨q1, q2⟩ := Kt_sub hq
  have lp := Pt_len _ p p1
  have lq := Pt_len _ q q1
  have lz := zip_len lp lq
  have key : ∀ i j, i < b.length → j < b.length → (gI (num (p.zip q)) i = gI (num (p.zip q)) j ↔ gI p i = gI p j ∧ gI q i = gI q j) := fun i j hi hj => by
    have at_ : ∀ k, k < b.length → (p.zip q)[k]? = some (gI p k, gI q k) := fun k hk => List.getElem?_zip_eq_some.mpr ⟨gI_at (by omega), gI_at (by omega)⟩
    rw [gI_num (by omega) (by omega), at_ i hi, at_ j hj, Option.some.injEq, Prod.mk.injEq]
  refine Kt_iff.mpr ⟨by have := (num_mx (p.zip q)).2; rw [lz] at this; exact this, fun i hi j hj e s hs => ?_⟩
  obtain ⟨e1, e2⟩ := (key i j hi hj).mp e
  exact (key _ _ (to_lt B hi s).1 (to_lt B hj s).1).mpr ⟨p2 i hi j hj e1 s hs, q2 i hi j hj e2 s hs⟩
theorem together_kept (B : BoxOk b) {p q L : List Int} (hp : p ∈ Kt b) (hq : q ∈ Kt b) (h : Fin2 b.length p q L) : num L ∈ Kt b := by
  obtain ⟨p1, p2⟩ := Kt_sub hp
  obtain ⟨q1, q2⟩ := Kt_sub hq
  have ll := h.len
  have key : ∀ i j, i < b.length → j < b.length → (gI (num L) i = gI (num L) j ↔ gI L i = gI L j) := fun i j hi hj => by
    rw [gI_num (by omega) (by omega), gI_at (v := L) (by omega), gI_at (v := L) (by omega), Option.some.injEq]
  refine Kt_iff.mpr ⟨by have := (num_mx L).2; rw [ll] at this; exact this, fun i hi j hj e s hs => ?_⟩
  refine (key _ _ (to_lt B hi s).1 (to_lt B hj s).1).mpr (h.fin (fun k => gI L (to b k s)) (fun x y hx hy r => ?_) i j hi hj ((key i j hi hj).mp e))
  rcases r with r | r
  · exact h.one _ _ (to_lt B hx s).1 (to_lt B hy s).1 (p2 x hx y hy r s hs)
  · exact h.two _ _ (to_lt B hx s).1 (to_lt B hy s).1 (q2 x hx y hy r s hs)
theorem Kt_pos (B : BoxOk b) : 0 < (Kt b).length := by
  have h5 := B.five
  have at_ : ∀ i, i < b.length → gI (nats b.length) i = (i : Int) := fun i hi => by
    have := gI_at (v := nats b.length) (i := i) (by rw [nats_len]; exact hi)
    unfold nats at this ⊢
    rw [List.getElem?_map, List.getElem?_range hi] at this
    exact (Option.some.inj this).symm
  refine List.length_pos_of_mem (a := nats b.length) (Kt_iff.mpr ⟨(Pt_iff h5 (nats_len _)).mp (num_nats _ h5), fun i hi j hj e s _ => ?_⟩)
  rw [at_ i hi, at_ j hj] at e
  rw [show i = j by omega]
end
end Lw

/-! TOd: odd boxes, typed. -/
namespace Lw
open PySem PySem.Spec L2 DL

def oddL : List PyData := [.none,
  (.tuple []),
  (.int 5),
  (.list [(.tuple [(.tuple [(.int 0), (.int 0)]), (.tuple [(.int 0), (.int 0)])])]),
  (.tuple [(.tuple [(.tuple [(.int 0), (.int 0)])])]),
  (.tuple [(.tuple [(.tuple [(.int 1), (.int 0)]), (.tuple [(.int 0), (.int 0)])])]),
  (.tuple [(.tuple [(.tuple [(.int 0), (.int 2)]), (.tuple [(.int 0), (.int 0)])])]),
  (.tuple [(.tuple [(.tuple [(.int 0), (.bool true)]), (.tuple [(.int 0), (.int 0)])])]),
  (.tuple [(.tuple [(.tuple [(.int 0), (.int 0)]), (.tuple [(.int 0), (.int 0)]), (.tuple [(.int 0), (.int 0)])])]),
  (.tuple [(.tuple [(.tuple [(.int (-1)), (.int 0)]), (.tuple [(.int 0), (.int 0)])])]),
  (.tuple [(.list [(.tuple [(.int 0), (.int 0)]), (.tuple [(.int 0), (.int 0)])])]),
  (.tuple [(.tuple [(.tuple [(.int 0), (.int 0)]), (.list [(.int 0), (.int 0)])])]),
  (.tuple [(.tuple [(.tuple [(.int 0), (.int 0)]), (.tuple [(.int 0), (.int 0)])]), (.tuple [(.tuple [(.int 0), (.int 0)]), (.tuple [(.int 0), (.int 0)])]), (.tuple [(.tuple [(.int 0), (.int 0)]), (.tuple [(.int 0), (.int 0)])]), (.tuple [(.tuple [(.int 0), (.int 0)]), (.tuple [(.int 0), (.int 0)])]), (.tuple [(.tuple [(.int 0), (.int 0)]), (.tuple [(.int 0), (.int 0)])]), (.tuple [(.tuple [(.int 0), (.int 0)]), (.tuple [(.int 0), (.int 0)])]), (.tuple [(.tuple [(.int 0), (.int 0)]), (.tuple [(.int 0), (.int 0)])])]),
  (.tuple [(.tuple [(.tuple [(.int 0)]), (.tuple [(.int 0), (.int 0)])])]),
  (.tuple [.none])]
theorem all_mem {α : Type} {P : α → Prop} : ∀ {l : List α}, (l.foldr (fun x q => P x ∧ q) True) → ∀ x ∈ l, P x
  | [], _, x, h => by cases h
  | y :: r, h, x, hx => by
    rcases List.mem_cons.mp hx with e | e
    · subst e; exact h.1
    · exact all_mem (l := r) h.2 x e
theorem odd_bad_t : ∀ d ∈ oddL, t_check_box d = TM.raise .malformed :=
  all_mem (P := fun d => t_check_box d = TM.raise .malformed) ⟨by kernel_rfl, by kernel_rfl, by kernel_rfl, by kernel_rfl, by kernel_rfl, by kernel_rfl, by kernel_rfl, by kernel_rfl, by kernel_rfl, by kernel_rfl, by kernel_rfl, by kernel_rfl, by kernel_rfl, by kernel_rfl, by kernel_rfl, trivial⟩
theorem odd_eq : t__law_odd_box = (t__law_take (15 : Int)).bind fun c5 => TM.lift (atI oddL c5) := by kernel_rfl
theorem odd_gives : Gives t__law_odd_box (fun d => t_check_box d = TM.raise .malformed) DI := by
  rw [odd_eq]
  refine Gives.bind (take_gives (by decide) (by decide)) fun c hc => ?_
  have hl : c.toNat < oddL.length := by
    show c.toNat < 15
    omega
  rw [atI_nat hc.1 (List.getElem?_eq_getElem hl), TM.lift_some]
  exact Gives.pure (odd_bad_t _ (List.getElem_mem hl))
end Lw

/-! T53j: the law of k53. -/
namespace Lw
open PySem PySem.Spec L2 DL

theorem eqA_bool (a c : Bool) : eqA (.bool a) (.bool c) = some (decide (a = c)) := by
  have h := o_eq (e := PyData.bool) eqE_bool a c
  rw [o_eqA] at h
  obtain ⟨k, e1, e2⟩ := Option.map_eq_some_iff.mp h
  injection e2 with e2
  rw [e1, e2]
theorem says_t (k : Bool) : t__law_says (.bool k) k = TM.pure true := by
  unfold t__law_says
  rw [show isOf "bool" (.bool k) = some true from rfl, TM.lift_some, TM.pure_bind, if_pos rfl, eqA_bool, decide_eq_true rfl, TM.lift_some]
theorem inA_row (v : List Int) (K : List (List Int)) : inA (eT PyData.int v) (eL (eT PyData.int) K) = some (decide (v ∈ K)) := by
  have h := o_inL (e := eT PyData.int) (eqE_T eqE_int) v K
  rw [o_inA] at h
  obtain ⟨k, e1, e2⟩ := Option.map_eq_some_iff.mp h
  injection e2 with e2
  show inA (eT PyData.int v) (.list (K.map (eT PyData.int))) = _
  rw [e1, e2]
  unfold memT
  exact congrArg some (decide_eq_decide.mpr Iff.rfl)
section
variable {b : List Row}
theorem val_core {d : PyData} {x : Bool} (hk : t_is_kept (eBx b) d = TM.pure x)
    (ha : ((TM.lift (isOf "tuple" d)).bind fun k62 => (if k62 then ((TM.lift (inA d ((eL (eT PyData.int)) (Kt b)))).bind fun k61 => (if k61 then ((((TM.lift (itemsOf d)).bind fun z58 => TM.compL (fun y57 => (TM.pure true)) (fun y57 => (TM.lift (isOf "bool" y57))) z58).bind fun c59 => TM.pure (c59.any id)).bind fun c60 => TM.pure (!c60)) else TM.pure false)) else TM.pure false)) = TM.pure x) :
    t_law_f1 b (Kt b) () d = TM.pure (.inl ()) := by
  unfold t_law_f1
  rw [ha, TM.pure_bind, hk, TM.pure_bind, TM.pure_bind, says_t, TM.pure_bind, TM.pure_bind]
  rfl
theorem val_row (B : BoxOk b) {v : List Int} (hl : v.length ≤ 10) : t_law_f1 b (Kt b) () (eT PyData.int v) = TM.pure (.inl ()) := by
  refine val_core (is_kept_row B hl) ?_
  rw [show isOf "tuple" (eT PyData.int v) = some true from rfl, TM.lift_some, TM.pure_bind, if_pos rfl, inA_row, TM.lift_some, TM.pure_bind]
  by_cases h : v ∈ Kt b
  · rw [decide_eq_true h, if_pos rfl, show itemsOf (eT PyData.int v) = some (v.map PyData.int) from rfl, TM.lift_some, TM.pure_bind, TM.compL_map (g' := fun _ => false) (by rw [List.length_map]; omega) (fun x hx => by
      obtain ⟨i, _, rfl⟩ := List.mem_map.mp hx
      rfl), TM.pure_bind, TM.pure_bind]
    have a1 : ((v.map PyData.int).map fun _ => false).any id = false := by
      rw [List.any_map]
      exact List.any_eq_false.mpr fun _ _ => by simp
    rw [a1]
    rfl
  · rw [decide_eq_false h, if_neg (by decide)]
theorem val_no (B : BoxOk b) {d : PyData} (h : isOf "tuple" d = some false) : t_law_f1 b (Kt b) () d = TM.pure (.inl ()) := by
  refine val_core (is_kept_no B (part_no h)) ?_
  rw [h]
  rfl
theorem shaped_true {r : List Int} (hl : r.length ≤ 10) : SeqAt.shaped (eT eA (PyData.bool true :: r.map PyData.int)) = true := by
  have e : eT eA (PyData.bool true :: r.map PyData.int) = .tuple (PyData.bool true :: r.map PyData.int) := congrArg PyData.tuple (List.map_id _)
  rw [e]
  unfold SeqAt.shaped
  rw [Bool.and_eq_true]
  refine ⟨?_, decide_eq_true ?_⟩
  · show (true && PyData.canLayAll0 (r.map .int)) = true
    rw [canLay_ints]
    rfl
  · rw [depth_tuple]
    have : PyData.depthAll (PyData.bool true :: r.map PyData.int) ≤ 1 := depthAll_le _ fun x hx => by
      rcases List.mem_cons.mp hx with q | q
      · rw [q]; exact eqE_bool.dep true
      · obtain ⟨i, _, rfl⟩ := List.mem_map.mp q
        exact eqE_int.dep i
    omega
theorem val_true (B : BoxOk b) {r : List Int} (hl : r.length ≤ 10) : t_law_f1 b (Kt b) () (eT eA (PyData.bool true :: r.map PyData.int)) = TM.pure (.inl ()) := by
  refine val_core (is_kept_no B (part_true hl)) ?_
  have e2 : itemsOf (eT eA (PyData.bool true :: r.map PyData.int)) = some (PyData.bool true :: r.map PyData.int) := by
    show some ((PyData.bool true :: r.map PyData.int).map eA) = _
    exact congrArg some (List.map_id _)
  have hin : ∃ k, inA (eT eA (PyData.bool true :: r.map PyData.int)) (eL (eT PyData.int) (Kt b)) = some k := by
    show ∃ k, inA (eT eA (PyData.bool true :: r.map PyData.int)) (.list ((Kt b).map (eT PyData.int))) = some k
    unfold inA
    dsimp only
    rw [shaped_true hl, (eqE_T eqE_int).shL]
    exact ⟨_, rfl⟩
  obtain ⟨k, hk⟩ := hin
  rw [show isOf "tuple" (eT eA (PyData.bool true :: r.map PyData.int)) = some true from rfl, TM.lift_some, TM.pure_bind, if_pos rfl, hk, TM.lift_some, TM.pure_bind]
  cases k with
  | false => rfl
  | true =>
    rw [if_pos rfl, e2, TM.lift_some, TM.pure_bind, TM.compL_map (g' := fun d => match d with | .bool _ => true | _ => false) (by rw [List.length_cons, List.length_map]; omega) (fun x hx => by
      rcases List.mem_cons.mp hx with q | q
      · rw [q]; rfl
      · obtain ⟨i, _, rfl⟩ := List.mem_map.mp q
        rfl), TM.pure_bind, TM.pure_bind]
    rfl
theorem rep_ones : ∀ n : Nat, n ≤ 5 → 1 ≤ n → repT1 [(1 : Int)] (n : Int) = some (List.replicate n 1) := by decide +kernel
theorem cut_len (p : List Int) : (cutL p (some (1 : Int)) none).length ≤ p.length := by
  unfold cutL
  rw [List.length_take, List.length_drop]
  omega
theorem lap2_gives (B : BoxOk b) (l : Option (List Int)) (y : Int) : Gives (t_law_f2 b (Pt b.length) (Kt b) l y) (fun o => ∃ p, o = .inl (some p) ∧ p ∈ Pt b.length) DI := by
  have h5 := B.five
  have h1 := B.one
  have k1 := Kt_len B
  have k0 := Kt_pos B
  have kp := Pt_len5 _ h5
  unfold t_law_f2
  refine Gives.bind (P := fun s => (s = Kt b ∨ s = Pt b.length)) (Gives.bind (Gives.bind (take_gives (by decide) (by decide)) fun c _ => Gives.pure (P := fun _ => True) trivial) fun k _ => ?_) fun s hs => ?_
  · cases k with
    | true => exact Gives.pure (.inl rfl)
    | false => exact Gives.pure (.inr rfl)
  · have sp : 0 < s.length ∧ s.length ≤ 52 := by
      rcases hs with e | e
      · rw [e]; exact ⟨k0, k1⟩
      · rw [e]
        refine ⟨Nat.lt_of_lt_of_le k0 (List.length_filter_le _ _), kp⟩
    have sub : ∀ x ∈ s, x ∈ Pt b.length := fun x hx => by
      rcases hs with e | e
      · rw [e] at hx; exact (Kt_sub hx).1
      · rw [e] at hx; exact hx
    have one : Gives ((t__law_take (s.length : Int)).bind fun c => TM.lift (atI s c)) (fun p => p ∈ Pt b.length) DI := Gives.bind (take_gives (by omega) (by omega)) fun c hc => by
      have hl : c.toNat < s.length := by omega
      rw [atI_nat hc.1 (List.getElem?_eq_getElem hl), TM.lift_some]
      exact Gives.pure (sub _ (List.getElem_mem hl))
    refine Gives.bind (P := fun x => x.1 ∈ Pt b.length ∧ x.2 ∈ Pt b.length) (Gives.bind one fun p hp => Gives.bind one fun q hq => Gives.pure ⟨hp, hq⟩) fun x ⟨hp, hq⟩ => ?_
    obtain ⟨p, q⟩ := x
    have hp : p ∈ Pt b.length := hp
    have hq : q ∈ Pt b.length := hq
    have lp := Pt_len _ p hp
    have lq := Pt_len _ q hq
    have lz := zip_len lp lq
    obtain ⟨L, hL, eL'⟩ := law_together_t h5 h1 lp lq
    have lc := cut_len p
    have both : (memT p (Kt b) && (memT q (Kt b) && ((!memT (num (p.zip q)) (Kt b)) || (!memT (num L) (Kt b))))) = false := by
      by_cases a1 : p ∈ Kt b
      · by_cases a2 : q ∈ Kt b
        · rw [memT_true a1, memT_true a2, memT_true (common_kept B a1 a2), memT_true (together_kept B a1 a2 hL)]
          rfl
        · rw [memT_true a1, memT_false a2]; rfl
      · rw [memT_false a1]; rfl
    refine Gives.of_eq (t' := TM.pure (.inl (some p))) ?_ (Gives.pure ⟨p, rfl, hp⟩)
    dsimp only
    rw [common_t B hp hq, TM.pure_bind, together_t B hp hq hL, TM.pure_bind, zipT_ok lp lq, TM.lift_some, TM.pure_bind, lnumbered_t2 _ (by omega), TM.pure_bind, TM.pure_bind, decide_eq_true (rfl : num (p.zip q) = num (p.zip q)), eL', TM.pure_bind, decide_eq_true (rfl : num L = num L)]
    rw [show (!true) = false from rfl, if_neg (by decide), TM.pure_bind, if_neg (by decide), both, if_neg (by decide), catT_ok (by show _ + 1 ≤ _; omega), TM.lift_some, TM.pure_bind, TM.pure_bind, TM.lift_some, TM.pure_bind, catT_ok (by rw [List.length_map]; show 1 + _ ≤ _; omega), TM.lift_some, TM.pure_bind, TM.pure_bind,
      rep_ones _ h5 h1, TM.lift_some, TM.pure_bind, TM.pure_bind, TM.compV_map (by omega), TM.pure_bind, TM.pure_bind, TM.pure_bind, TM.pure_bind]
    rw [forB_all (p := fun _ => true) _ fun d hd => ?_]
    · rw [List.all_eq_true.mpr fun _ _ => rfl]
      rfl
    · rw [if_pos rfl]
      simp only [List.mem_cons, List.not_mem_nil, or_false] at hd
      rcases hd with e | e | e | e | e | e | e | e | e <;> rw [e]
      · exact val_row B (by omega)
      · exact val_row B (by omega)
      · exact val_no B rfl
      · exact val_row B (by omega)
      · exact val_row B (by rw [List.length_append]; show _ + 1 ≤ _; omega)
      · exact val_true B (by omega)
      · exact val_row B (by rw [List.length_replicate]; omega)
      · exact val_no B rfl
      · exact val_row B (by rw [List.length_map]; omega)
end
/-- what the laps leave -/
def Left (l : (Option (List Row)) × (Option Int) × (Option (List Int))) : Prop := ∃ b p, BoxOk b ∧ p ∈ Pt b.length ∧ l = (some b, some (b.length : Int), some p)
theorem lap_gives (l : (Option (List Row)) × (Option Int) × (Option (List Int))) (y : Int) : Gives (t_law_f4 l y) (fun o => ∃ l', o = .inl l' ∧ Left l') DI := by
  unfold t_law_f4
  refine Gives.bind (box_gives (by decide)) fun b hb => ?_
  have B := hb.1
  obtain ⟨pr, e1, e2⟩ := law_pairs_t B l.2.2
  rw [law_partitions_t B.five, TM.pure_bind, law_kept_t B, TM.pure_bind, kept_repr B, TM.pure_bind, if_neg (by decide), e2, TM.pure_bind, e1, splits_repr B, TM.pure_bind, if_neg (by decide), show rngT 0 (4 : Int) = some (nats 4) from rngT_nats (n := 4) (by decide), TM.lift_some, TM.pure_bind]
  refine Gives.bindB (P := fun o => ∃ p, o = some p ∧ p ∈ Pt b.length) (Gives.imp (Gives.forB (J := fun k o => k = 0 ∨ ∃ p, o = some p ∧ p ∈ Pt b.length) (nats 4) 0 pr.2 (fun i x o _ _ => (lap2_gives B o x).imp fun r ⟨p, e, hp⟩ => ⟨some p, e, .inr ⟨p, rfl, hp⟩⟩) (.inl rfl)) fun o ⟨l', e, h⟩ => ⟨l', e, ?_⟩) fun o ⟨p, e, hp⟩ => ?_
  · rcases h with h | h
    · rw [nats_len] at h; cases h
    · exact h
  · rw [e]
    exact Gives.pure ⟨_, rfl, b, p, B, hp, rfl⟩
end Lw

/-! T53k: the answer of k53. -/
namespace Lw
open PySem PySem.Spec L2 DL

abbrev mal : PyData := .str "<malformed>"
theorem told_odd {d : PyData} (h : t_check_box d = TM.raise .malformed) (w : Int) (a c : PyData) : t__law_told w d a c = TM.pure mal := by
  unfold t__law_told t_kept_partitions t_splits t_common t_together t_is_kept t_check_partitions
  rw [h]
  simp only [TM.raise_bind]
  split
  · rfl
  · split
    · rfl
    · split
      · rfl
      · split <;> rfl
theorem told_bad {b d c : PyData} (h : t_check_partitions b d c = TM.raise .malformed) {w : Int} (hw : w = 2 ∨ w = 3) : t__law_told w b d c = TM.pure mal := by
  unfold t__law_told t_common t_together
  rw [h]
  simp only [TM.raise_bind]
  rcases hw with rfl | rfl <;> rfl
theorem Pt_zero : ∀ n : Nat, n ≤ 5 → 1 ≤ n → List.replicate n (1 : Int) ∉ Pt n := by decide +kernel
theorem tail_ok {d b x p : PyData} (h1 : ∀ w : Int, t__law_told w d ((e1 PyData.int) (0 : Int)) ((e1 PyData.int) (0 : Int)) = TM.pure mal) (h2 : ∀ w : Int, w = 2 ∨ w = 3 → t__law_told w b x p = TM.pure mal) (h3 : ∀ w : Int, w = 2 ∨ w = 3 → t__law_told w b p x = TM.pure mal) :
    ((((TM.lift (rngT 0 (5 : Int))).bind fun z84 => TM.compL (fun y83 => (TM.pure true)) (fun y83 => (t__law_told y83 d ((e1 PyData.int) (0 : Int)) ((e1 PyData.int) (0 : Int)))) z84).bind fun c86 => ((TM.compL (fun y85 => (TM.pure true)) (fun y85 => (t__law_told y85 b x p)) [((2 : Int), (3 : Int)).1, ((2 : Int), (3 : Int)).2]).bind fun c87 => (TM.lift (catT c86 c87)))).bind fun x88 => ((((TM.compL (fun y89 => (TM.pure true)) (fun y89 => (t__law_told y89 b p x)) [((2 : Int), (3 : Int)).1, ((2 : Int), (3 : Int)).2]).bind fun c90 => (TM.lift (catT x88 c90))).bind fun x => TM.pure ((eL eA) x)).bind fun c91 => (((TM.lift (repL [("<malformed>" : Str)] (9 : Int))).bind fun x => TM.pure ((eL PyData.str) x)).bind fun c92 => (TM.lift (eqA c91 c92))))) = TM.pure true := by
  have w2 : ∀ y ∈ [((2 : Int), (3 : Int)).1, ((2 : Int), (3 : Int)).2], y = 2 ∨ y = 3 := fun y hy => by simpa using hy
  rw [show rngT 0 (5 : Int) = some (nats 5) from rngT_nats (n := 5) (by decide), TM.lift_some, TM.pure_bind, TM.compL_map (g' := fun _ => mal) (by decide) (fun y _ => h1 y), TM.pure_bind, TM.compL_map (g' := fun _ => mal) (by decide) (fun y hy => h2 y (w2 y hy)), TM.pure_bind,
    catT_ok (by decide), TM.lift_some, TM.pure_bind, TM.compL_map (g' := fun _ => mal) (by decide) (fun y hy => h3 y (w2 y hy)), TM.pure_bind, catT_ok (by decide), TM.lift_some, TM.pure_bind, TM.pure_bind]
  kernel_rfl
theorem law_gives : Gives t_law (fun k => k = true) DI := by
  unfold t_law
  rw [show rngT 0 (3 : Int) = some (nats 3) from rngT_nats (n := 3) (by decide), TM.lift_some, TM.pure_bind]
  refine Gives.bindB (P := Left) (Gives.imp (Gives.forB (J := fun k l => k = 0 ∨ Left l) (nats 3) 0 (none, none, none) (fun i x l _ _ => (lap_gives l x).imp fun o ⟨l', e, h⟩ => ⟨l', e, .inr h⟩) (.inl rfl)) fun o ⟨l', e, h⟩ => ⟨l', e, ?_⟩) fun l ⟨b, p, B, hp, e⟩ => ?_
  · rcases h with h | h
    · rw [nats_len] at h; cases h
    · exact h
  · rw [e]
    have h5 := B.five
    have h1 := B.one
    have lp := Pt_len _ p hp
    have lc := cut_len p
    dsimp only
    refine Gives.bind odd_gives fun d hd => ?_
    rw [TM.lift_some, TM.pure_bind, TM.lift_some, TM.pure_bind, catT_ok (by show _ + 1 ≤ _; omega), TM.lift_some, TM.pure_bind, TM.pure_bind, rep_ones _ h5 h1, TM.lift_some, TM.pure_bind, TM.pure_bind, TM.lift_some, TM.pure_bind, catT_ok (by rw [List.length_map]; show 1 + _ ≤ _; omega), TM.lift_some, TM.pure_bind, TM.pure_bind, TM.pure_bind]
    refine Gives.bind (P := fun x => t_is_partition (eBx b) x = TM.pure false) (Gives.bind (take_gives (by decide) (by decide)) fun c hc => ?_) fun x hx => ?_
    · have hl : c.toNat < [(eU ()), ((eL PyData.int) p), ((eT PyData.int) (p ++ [(0 : Int)])), ((eT PyData.int) (List.replicate b.length (1 : Int))), ((eT eA) ([PyData.bool true] ++ (cutL p (some (1 : Int)) none).map PyData.int)), (PyData.int (5 : Int))].length := by
        show c.toNat < 6
        omega
      rw [atI_nat hc.1 (List.getElem?_eq_getElem hl), TM.lift_some]
      refine Gives.pure ?_
      have hm := List.getElem_mem hl
      generalize ([(eU ()), ((eL PyData.int) p), ((eT PyData.int) (p ++ [(0 : Int)])), ((eT PyData.int) (List.replicate b.length (1 : Int))), ((eT eA) ([PyData.bool true] ++ (cutL p (some (1 : Int)) none).map PyData.int)), (PyData.int (5 : Int))])[c.toNat] = x at hm
      simp only [List.mem_cons, List.not_mem_nil, or_false] at hm
      rcases hm with e | e | e | e | e | e <;> rw [e]
      · exact part_no rfl
      · exact part_no rfl
      · rw [part_row B (by rw [List.length_append]; show _ + 1 ≤ _; omega), decide_eq_false fun h => by
          have := Pt_len _ _ h
          rw [List.length_append] at this
          have this : p.length + 1 = b.length := this
          omega]
      · rw [part_row B (by rw [List.length_replicate]; omega), decide_eq_false (Pt_zero _ h5 h1)]
      · exact part_true (by omega)
      · exact part_no rfl
    · rw [TM.lift_some, TM.pure_bind]
      exact Gives.of_eq (tail_ok (fun w => told_odd hd w _ _) (fun w hw => told_bad (check_bad1 B hx) hw) (fun w hw => told_bad (check_bad2 B hp hx) hw)) (Gives.pure rfl)
theorem ans (ns : List Int) (hn : ns.length ≤ 63) : f_law [.scr ns] none = some (.ok (.bool true), none) := by
  unfold f_law
  rw [law_rest]
  exact law_fin hn (r_law ns) law_gives
end Lw

/-! Wk53: the walk. -/
namespace Lw
open PySem PySem.Spec L2 DL
open PyProof.Rows hiding St

def topS (i : Nat) : Stmt := PySem.Challenge.pw_boxkinds_k53_whole_partitions_that_are_k.main.body.getD i (.Pass ⟨0, 0, 0, 0⟩)
abbrev s__law_draw : Stmt := topS 24
theorem sc__law_draw : FnScope ["script", "seed", "cell"] ["script"] (defScope s__law_draw) := ⟨rfl, rfl, rfl, by decide +kernel, rfl, by decide +kernel, by decide +kernel⟩
abbrev s__law_take : Stmt := topS 25
theorem sc__law_take : FnScope ["draw", "many", "found"] ["draw", "many"] (defScope s__law_take) := ⟨rfl, rfl, rfl, by decide +kernel, rfl, by decide +kernel, by decide +kernel⟩
abbrev s__law_odd_box : Stmt := topS 29
theorem sc__law_odd_box : FnScope ["draw", "odd"] ["draw"] (defScope s__law_odd_box) := ⟨rfl, rfl, rfl, by decide +kernel, rfl, by decide +kernel, by decide +kernel⟩
abbrev s__law_order : Stmt := topS 28
theorem sc__law_order : FnScope ["draw", "many", "left", "found"] ["draw", "many"] (defScope s__law_order) := ⟨rfl, rfl, rfl, by decide +kernel, rfl, by decide +kernel, by decide +kernel⟩
abbrev s__law_box : Stmt := topS 27
theorem sc__law_box : FnScope ["draw", "most", "many", "kind", "found", "state", "moves", "one", "two", "sign", "to", "output", "k"] ["draw", "most"] (defScope s__law_box) := ⟨rfl, rfl, rfl, by decide +kernel, rfl, by decide +kernel, by decide +kernel⟩
abbrev s__law_partitions : Stmt := topS 30
theorem sc__law_partitions : FnScope ["many", "found", "state", "longer", "row", "label"] ["many"] (defScope s__law_partitions) := ⟨rfl, rfl, rfl, by decide +kernel, rfl, by decide +kernel, by decide +kernel⟩
abbrev s_is_whole : Stmt := topS 4
theorem sc_is_whole : FnScope ["value"] ["value"] (defScope s_is_whole) := ⟨rfl, rfl, rfl, by decide +kernel, rfl, by decide +kernel, by decide +kernel⟩
abbrev s_is_move : Stmt := topS 8
theorem sc_is_move : FnScope ["value", "many", "item"] ["value", "many"] (defScope s_is_move) := ⟨rfl, rfl, rfl, by decide +kernel, rfl, by decide +kernel, by decide +kernel⟩
abbrev s_is_box : Stmt := topS 9
theorem sc_is_box : FnScope ["value", "moves", "move"] ["value"] (defScope s_is_box) := ⟨rfl, rfl, rfl, by decide +kernel, rfl, by decide +kernel, by decide +kernel⟩
abbrev s_check_box : Stmt := topS 10
theorem sc_check_box : FnScope ["value"] ["value"] (defScope s_check_box) := ⟨rfl, rfl, rfl, by decide +kernel, rfl, by decide +kernel, by decide +kernel⟩
abbrev s_all_partitions : Stmt := topS 16
theorem sc_all_partitions : FnScope ["many", "found", "_", "row", "label"] ["many"] (defScope s_all_partitions) := ⟨rfl, rfl, rfl, by decide +kernel, rfl, by decide +kernel, by decide +kernel⟩
abbrev s_does_keep : Stmt := topS 14
theorem sc_does_keep : FnScope ["box", "value", "many", "sign", "to", "state", "p", "q"] ["box", "value"] (defScope s_does_keep) := ⟨rfl, rfl, rfl, by decide +kernel, rfl, by decide +kernel, by decide +kernel⟩
abbrev s_found_kept : Stmt := topS 17
theorem sc_found_kept : FnScope ["box", "value"] ["box"] (defScope s_found_kept) := ⟨rfl, rfl, rfl, by decide +kernel, rfl, by decide +kernel, by decide +kernel⟩
abbrev s_kept_partitions : Stmt := topS 18
theorem sc_kept_partitions : FnScope ["box"] ["box"] (defScope s_kept_partitions) := ⟨rfl, rfl, rfl, by decide +kernel, rfl, by decide +kernel, by decide +kernel⟩
abbrev s_splits : Stmt := topS 22
theorem sc_splits : FnScope ["box", "many", "kept", "found", "one", "value", "two"] ["box"] (defScope s_splits) := ⟨rfl, rfl, rfl, by decide +kernel, rfl, by decide +kernel, by decide +kernel⟩
abbrev s_numbered : Stmt := topS 12
theorem sc_numbered : FnScope ["labels", "names", "label"] ["labels"] (defScope s_numbered) := ⟨rfl, rfl, rfl, by decide +kernel, rfl, by decide +kernel, by decide +kernel⟩
abbrev s_is_partition : Stmt := topS 13
theorem sc_is_partition : FnScope ["box", "value", "item"] ["box", "value"] (defScope s_is_partition) := ⟨rfl, rfl, rfl, by decide +kernel, rfl, by decide +kernel, by decide +kernel⟩
abbrev s_check_partitions : Stmt := topS 19
theorem sc_check_partitions : FnScope ["box", "one", "two"] ["box", "one", "two"] (defScope s_check_partitions) := ⟨rfl, rfl, rfl, by decide +kernel, rfl, by decide +kernel, by decide +kernel⟩
abbrev s_common : Stmt := topS 20
theorem sc_common : FnScope ["box", "one", "two"] ["box", "one", "two"] (defScope s_common) := ⟨rfl, rfl, rfl, by decide +kernel, rfl, by decide +kernel, by decide +kernel⟩
abbrev s_together : Stmt := topS 21
theorem sc_together : FnScope ["box", "one", "two", "marks", "_", "p", "q"] ["box", "one", "two"] (defScope s_together) := ⟨rfl, rfl, rfl, by decide +kernel, rfl, by decide +kernel, by decide +kernel⟩
abbrev s_is_kept : Stmt := topS 15
theorem sc_is_kept : FnScope ["box", "value"] ["box", "value"] (defScope s_is_kept) := ⟨rfl, rfl, rfl, by decide +kernel, rfl, by decide +kernel, by decide +kernel⟩
abbrev s__law_told : Stmt := topS 34
theorem sc__law_told : FnScope ["which", "box", "one", "two"] ["which", "box", "one", "two"] (defScope s__law_told) := ⟨rfl, rfl, rfl, by decide +kernel, rfl, by decide +kernel, by decide +kernel⟩
abbrev s__law_keeps : Stmt := topS 31
theorem sc__law_keeps : FnScope ["box", "value", "p", "q", "sign"] ["box", "value"] (defScope s__law_keeps) := ⟨rfl, rfl, rfl, by decide +kernel, rfl, by decide +kernel, by decide +kernel⟩
abbrev s__law_numbered : Stmt := topS 32
theorem sc__law_numbered : FnScope ["labels", "found", "names", "label"] ["labels"] (defScope s__law_numbered) := ⟨rfl, rfl, rfl, by decide +kernel, rfl, by decide +kernel, by decide +kernel⟩
abbrev s__law_together : Stmt := topS 33
theorem sc__law_together : FnScope ["one", "two", "labels", "turn", "p", "q", "low", "high", "label"] ["one", "two"] (defScope s__law_together) := ⟨rfl, rfl, rfl, by decide +kernel, rfl, by decide +kernel, by decide +kernel⟩
abbrev s__law_says : Stmt := topS 26
theorem sc__law_says : FnScope ["value", "due"] ["value", "due"] (defScope s__law_says) := ⟨rfl, rfl, rfl, by decide +kernel, rfl, by decide +kernel, by decide +kernel⟩
abbrev s_law : Stmt := topS 35
theorem sc_law : FnScope ["script", "draw", "turn", "box", "many", "every", "kept", "pairs", "one", "again", "some", "two", "both", "joined", "value", "due", "odd", "bad", "told", "item", "which"] ["script"] (defScope s_law) := ⟨rfl, rfl, rfl, by decide +kernel, rfl, by decide +kernel, by decide +kernel⟩
structure Ad where
  f__law_draw : Addr
  fd__law_draw : FuncData
  f__law_take : Addr
  fd__law_take : FuncData
  f__law_odd_box : Addr
  fd__law_odd_box : FuncData
  f__law_order : Addr
  fd__law_order : FuncData
  f__law_box : Addr
  fd__law_box : FuncData
  f__law_partitions : Addr
  fd__law_partitions : FuncData
  f_is_whole : Addr
  fd_is_whole : FuncData
  f_is_move : Addr
  fd_is_move : FuncData
  f_is_box : Addr
  fd_is_box : FuncData
  f_check_box : Addr
  fd_check_box : FuncData
  f_all_partitions : Addr
  fd_all_partitions : FuncData
  f_does_keep : Addr
  fd_does_keep : FuncData
  f_found_kept : Addr
  fd_found_kept : FuncData
  f_kept_partitions : Addr
  fd_kept_partitions : FuncData
  f_splits : Addr
  fd_splits : FuncData
  f_numbered : Addr
  fd_numbered : FuncData
  f_is_partition : Addr
  fd_is_partition : FuncData
  f_check_partitions : Addr
  fd_check_partitions : FuncData
  f_common : Addr
  fd_common : FuncData
  f_together : Addr
  fd_together : FuncData
  f_is_kept : Addr
  fd_is_kept : FuncData
  f__law_told : Addr
  fd__law_told : FuncData
  f__law_keeps : Addr
  fd__law_keeps : FuncData
  f__law_numbered : Addr
  fd__law_numbered : FuncData
  f__law_together : Addr
  fd__law_together : FuncData
  f__law_says : Addr
  fd__law_says : FuncData
  f_law : Addr
  fd_law : FuncData
  c : Exs
structure Tx (K : PySem.W.Frag) (mg : Str → Option Value) (a : Ad) : Prop where
  d__law_draw : Dn K mg "_law_draw" s__law_draw ["script"] a.f__law_draw a.fd__law_draw
  d__law_take : Dn K mg "_law_take" s__law_take ["draw", "many"] a.f__law_take a.fd__law_take
  d__law_odd_box : Dn K mg "_law_odd_box" s__law_odd_box ["draw"] a.f__law_odd_box a.fd__law_odd_box
  d__law_order : Dn K mg "_law_order" s__law_order ["draw", "many"] a.f__law_order a.fd__law_order
  d__law_box : Dn K mg "_law_box" s__law_box ["draw", "most"] a.f__law_box a.fd__law_box
  d__law_partitions : Dn K mg "_law_partitions" s__law_partitions ["many"] a.f__law_partitions a.fd__law_partitions
  d_is_whole : Dn K mg "is_whole" s_is_whole ["value"] a.f_is_whole a.fd_is_whole
  d_is_move : Dn K mg "is_move" s_is_move ["value", "many"] a.f_is_move a.fd_is_move
  d_is_box : Dn K mg "is_box" s_is_box ["value"] a.f_is_box a.fd_is_box
  d_check_box : Dn K mg "check_box" s_check_box ["value"] a.f_check_box a.fd_check_box
  d_all_partitions : Dn K mg "all_partitions" s_all_partitions ["many"] a.f_all_partitions a.fd_all_partitions
  d_does_keep : Dn K mg "does_keep" s_does_keep ["box", "value"] a.f_does_keep a.fd_does_keep
  d_found_kept : Dn K mg "found_kept" s_found_kept ["box"] a.f_found_kept a.fd_found_kept
  d_kept_partitions : Dn K mg "kept_partitions" s_kept_partitions ["box"] a.f_kept_partitions a.fd_kept_partitions
  d_splits : Dn K mg "splits" s_splits ["box"] a.f_splits a.fd_splits
  d_numbered : Dn K mg "numbered" s_numbered ["labels"] a.f_numbered a.fd_numbered
  d_is_partition : Dn K mg "is_partition" s_is_partition ["box", "value"] a.f_is_partition a.fd_is_partition
  d_check_partitions : Dn K mg "check_partitions" s_check_partitions ["box", "one", "two"] a.f_check_partitions a.fd_check_partitions
  d_common : Dn K mg "common" s_common ["box", "one", "two"] a.f_common a.fd_common
  d_together : Dn K mg "together" s_together ["box", "one", "two"] a.f_together a.fd_together
  d_is_kept : Dn K mg "is_kept" s_is_kept ["box", "value"] a.f_is_kept a.fd_is_kept
  d__law_told : Dn K mg "_law_told" s__law_told ["which", "box", "one", "two"] a.f__law_told a.fd__law_told
  d__law_keeps : Dn K mg "_law_keeps" s__law_keeps ["box", "value"] a.f__law_keeps a.fd__law_keeps
  d__law_numbered : Dn K mg "_law_numbered" s__law_numbered ["labels"] a.f__law_numbered a.fd__law_numbered
  d__law_together : Dn K mg "_law_together" s__law_together ["one", "two"] a.f__law_together a.fd__law_together
  d__law_says : Dn K mg "_law_says" s__law_says ["value", "due"] a.f__law_says a.fd__law_says
  d_law : Dn K mg "law" s_law ["script"] a.f_law a.fd_law
  n_abs : mg "abs" = none
  n_all : mg "all" = none
  n_any : mg "any" = none
  n_bool : mg "bool" = none
  n_int : mg "int" = none
  n_isinstance : mg "isinstance" = none
  n_len : mg "len" = none
  n_list : mg "list" = none
  n_max : mg "max" = none
  n_min : mg "min" = none
  n_range : mg "range" = none
  n_repr : mg "repr" = none
  n_set : mg "set" = none
  n_sorted : mg "sorted" = none
  n_tuple : mg "tuple" = none
  n_zip : mg "zip" = none
  g_MOST_STATES : ∃ u v, mg "MOST_STATES" = some u ∧ RelV v u ∧ ∀ (H : Hp) (g : Addr → Prop), Df K H g v k_MOST_STATES
  g_INPUTS : ∃ u c, mg "INPUTS" = some u ∧ RelV (.ref c) u ∧ ∀ H : Hp, SqT K H c (([0, 1] : List Int).map V.int)
  x_m : Xn K mg "Malformed" a.c
section
variable {P : Program} {w : World} {K : PySem.W.Frag} {mg : Str → Option Value} {base : Heap} {a : Ad}
set_option maxHeartbeats 4000000 in
theorem ok__law_draw (T : Tx K mg a) : FnOk P w K mg base (L2.CX P w) 1 a.f__law_draw a.fd__law_draw ["script"] (spD K a.c true 1 f__law_draw) := by
  refine DL.okD2 (m := m__law_draw) (n := 3) (p := 1) rfl rfl rfl T.d__law_draw.fn sc__law_draw (fun cdv A outer s H E hr => ?_)
  have tk : Takes (cxOf (L2.CX P w) P w K mg base ["script", "seed", "cell"] "_law_draw" (defScope s__law_draw) a.f__law_draw cdv A outer s H E) (fun cls d _ H' => E cls d H') := takes_of (E := E) rfl rfl rfl rfl
  have hu : (A.deeper (envOfC "_law_draw" (defScope s__law_draw) s.heap.objs.size a.f__law_draw cdv)).units + 65 < cLine := by have := hr.un; omega
  have hu4 := hr.units
  exact (sss_cons (ss_set 1 sc__law_draw.nd se_int (hx := by first | exact .inl rfl | exact .inr rfl))
  (sss_cons (ss_for (passes_of rfl) rfl (si_scr 0) (sg_name 2 sc__law_draw.nd (hx := by first | exact .inl rfl | exact .inr rfl)) (sss_one (ss_set 1 sc__law_draw.nd (se_op op_mod bin_mod persD persD (se_callTy call_int1 un_int persD T.n_int rfl (se_op op_addA bin_add persD persD (se_op op_addA bin_add persD persD (se_op op_mulA bin_mul persD persD (se_var 1) se_int) (se_op op_mod bin_mod persD persD (se_callB call_abs un_abs persD T.n_abs rfl (se_callTy call_int1 un_int persD T.n_int rfl (se_var 2))) se_int)) se_int)) se_int) (hx := by first | exact .inl rfl | exact .inr rfl))))
  (sss_one (ss_retF (sf_lst (sa_cons (SF.se (sf_comp (own := [("cell", 2)]) (is := [2]) rfl sc__law_draw.nd (si_scr 0) (blkOk_by (by kernel_rfl)) (by decide) (fun _ _ _ _ _ => (sg_name 2 sc__law_draw.nd (hx := by first | exact .inl rfl | exact .inr rfl))) (fun _ _ _ _ _ => sts_nil) (fun _ _ _ _ _ => (se_callB call_abs un_abs persD T.n_abs rfl (se_callTy call_int1 un_int persD T.n_int rfl (se_var 2)))))) (sa_cons (se_neg se_int) (sa_cons se_int (sa_cons (se_var 1) sa_nil)))))))))
set_option maxHeartbeats 4000000 in
theorem ok__law_take (T : Tx K mg a) : FnOk P w K mg base (L2.CX P w) 1 a.f__law_take a.fd__law_take ["draw", "many"] (spD K a.c false 2 f__law_take) := by
  refine DL.okD2 (m := m__law_take) (n := 3) (p := 2) rfl rfl rfl T.d__law_take.fn sc__law_take (fun cdv A outer s H E hr => ?_)
  have tk : Takes (cxOf (L2.CX P w) P w K mg base ["draw", "many", "found"] "_law_take" (defScope s__law_take) a.f__law_take cdv A outer s H E) (fun cls d _ H' => E cls d H') := takes_of (E := E) rfl rfl rfl rfl
  have hu : (A.deeper (envOfC "_law_take" (defScope s__law_take) s.heap.objs.size a.f__law_take cdv)).units + 65 < cLine := by have := hr.un; omega
  have hu4 := hr.units
  exact (sss_cons (ss_if (st_cmp (op_eqD hu4) bin_eq persD persD (se_drw 0 2) se_int (by rfl)) (sss_cons (ss_drwSet 0 1 (se_op op_addA bin_add persD persD (se_drw 0 1) se_int))
  (sss_cons (ss_if (st_cmp op_ltA bin_lt persD persD (se_drw 0 1) (se_callB call_lenA un_len persD T.n_len rfl (se_drw 0 0)) (by rfl)) (sss_one (ss_drwSet 0 2 (se_ix persD persD (se_drw 0 0) (se_drw 0 1)))) sss_nil)
  (sss_one (ss_if (st_cmp (op_eqD hu4) bin_eq persD persD (se_drw 0 2) se_int (by rfl)) (sss_cons (ss_drwSet 0 3 (se_op op_mod bin_mod persD persD (se_callTy call_int1 un_int persD T.n_int rfl (se_op op_addA bin_add persD persD (se_op op_mulA bin_mul persD persD (se_drw 0 3) se_int) se_int)) se_int))
  (sss_one (ss_drwSet 0 2 (se_drw 0 3)))) sss_nil)))) sss_nil)
  (sss_cons (ss_set 2 sc__law_take.nd (se_op op_mod bin_mod persD persD (se_callTy call_int1 un_int persD T.n_int rfl (se_drw 0 2)) (se_var 1)) (hx := by first | exact .inl rfl | exact .inr rfl))
  (sss_cons (ss_drwSet 0 2 (se_op op_fdiv bin_fdiv persD persD (se_drw 0 2) (se_var 1)))
  (sss_one (ss_ret (se_var 2))))))
set_option maxHeartbeats 4000000 in
theorem ok__law_odd_box (T : Tx K mg a) : FnOk P w K mg base (L2.CX P w) 2 a.f__law_odd_box a.fd__law_odd_box ["draw"] (spD K a.c false 1 f__law_odd_box) := by
  refine DL.okD2 (m := m__law_odd_box) (n := 2) (p := 1) rfl rfl rfl T.d__law_odd_box.fn sc__law_odd_box (fun cdv A outer s H E hr => ?_)
  have tk : Takes (cxOf (L2.CX P w) P w K mg base ["draw", "odd"] "_law_odd_box" (defScope s__law_odd_box) a.f__law_odd_box cdv A outer s H E) (fun cls d _ H' => E cls d H') := takes_of (E := E) rfl rfl rfl rfl
  have hu : (A.deeper (envOfC "_law_odd_box" (defScope s__law_odd_box) s.heap.objs.size a.f__law_odd_box cdv)).units + 65 < cLine := by have := hr.un; omega
  have hu4 := hr.units
  exact (sss_cons (ss_set 1 sc__law_odd_box.nd (SF.se (sf_lst (sa_cons se_non (sa_cons (se_tup sa_nil) (sa_cons se_int (sa_cons (SF.se (sf_lst (sa_cons (se_tup (sa_cons (se_tup (sa_cons se_int (sa_cons se_int sa_nil))) (sa_cons (se_tup (sa_cons se_int (sa_cons se_int sa_nil))) sa_nil))) sa_nil))) (sa_cons (se_tup (sa_cons (se_tup (sa_cons (se_tup (sa_cons se_int (sa_cons se_int sa_nil))) sa_nil)) sa_nil)) (sa_cons (se_tup (sa_cons (se_tup (sa_cons (se_tup (sa_cons se_int (sa_cons se_int sa_nil))) (sa_cons (se_tup (sa_cons se_int (sa_cons se_int sa_nil))) sa_nil))) sa_nil)) (sa_cons (se_tup (sa_cons (se_tup (sa_cons (se_tup (sa_cons se_int (sa_cons se_int sa_nil))) (sa_cons (se_tup (sa_cons se_int (sa_cons se_int sa_nil))) sa_nil))) sa_nil)) (sa_cons (se_tup (sa_cons (se_tup (sa_cons (se_tup (sa_cons se_int (sa_cons se_bl sa_nil))) (sa_cons (se_tup (sa_cons se_int (sa_cons se_int sa_nil))) sa_nil))) sa_nil)) (sa_cons (se_tup (sa_cons (se_tup (sa_cons (se_tup (sa_cons se_int (sa_cons se_int sa_nil))) (sa_cons (se_tup (sa_cons se_int (sa_cons se_int sa_nil))) (sa_cons (se_tup (sa_cons se_int (sa_cons se_int sa_nil))) sa_nil)))) sa_nil)) (sa_cons (se_tup (sa_cons (se_tup (sa_cons (se_tup (sa_cons (se_neg se_int) (sa_cons se_int sa_nil))) (sa_cons (se_tup (sa_cons se_int (sa_cons se_int sa_nil))) sa_nil))) sa_nil)) sa_nil)))))))))))) (hx := by first | exact .inl rfl | exact .inr rfl))
  (sss_one (ss_ret (se_ix persD persD (se_op op_addA bin_add persD persD (se_var 1) (SF.se (sf_lst (sa_cons (se_tup (sa_cons (SF.se (sf_lst (sa_cons (se_tup (sa_cons se_int (sa_cons se_int sa_nil))) (sa_cons (se_tup (sa_cons se_int (sa_cons se_int sa_nil))) sa_nil)))) sa_nil)) (sa_cons (se_tup (sa_cons (se_tup (sa_cons (se_tup (sa_cons se_int (sa_cons se_int sa_nil))) (sa_cons (SF.se (sf_lst (sa_cons se_int (sa_cons se_int sa_nil)))) sa_nil))) sa_nil)) (sa_cons (se_op op_mulA bin_mul persD persD (se_tup (sa_cons (se_tup (sa_cons (se_tup (sa_cons se_int (sa_cons se_int sa_nil))) (sa_cons (se_tup (sa_cons se_int (sa_cons se_int sa_nil))) sa_nil))) sa_nil)) se_int) (sa_cons (se_tup (sa_cons (se_tup (sa_cons (se_tup (sa_cons se_int sa_nil)) (sa_cons (se_tup (sa_cons se_int (sa_cons se_int sa_nil))) sa_nil))) sa_nil)) (sa_cons (se_tup (sa_cons se_non sa_nil)) sa_nil)))))))) (se_call (ok__law_take T) (hr.mono (by decide)) T.d__law_take.mg T.d__law_take.kp T.d__law_take.bd tk (sax_v 0 (sax_d se_int sax_nil)))))))
set_option maxHeartbeats 4000000 in
theorem ok__law_order (T : Tx K mg a) : FnOk P w K mg base (L2.CX P w) 2 a.f__law_order a.fd__law_order ["draw", "many"] (spD K a.c false 2 f__law_order) := by
  refine DL.okD2 (m := m__law_order) (n := 4) (p := 2) rfl rfl rfl T.d__law_order.fn sc__law_order (fun cdv A outer s H E hr => ?_)
  have tk : Takes (cxOf (L2.CX P w) P w K mg base ["draw", "many", "left", "found"] "_law_order" (defScope s__law_order) a.f__law_order cdv A outer s H E) (fun cls d _ H' => E cls d H') := takes_of (E := E) rfl rfl rfl rfl
  have hu : (A.deeper (envOfC "_law_order" (defScope s__law_order) s.heap.objs.size a.f__law_order cdv)).units + 65 < cLine := by have := hr.un; omega
  have hu4 := hr.units
  exact (sss_cons (ss_parLL 2 3 sc__law_order.nd (sf_listRg1 rfl T.n_list T.n_range (se_var 1)) (sf_lst sa_nil))
  (sss_cons (ss_while 1000 (passes_of rfl) (st_cmp (op_neD hu4) bin_ne persP persD (sp_var 2) (SF.se (sf_lst sa_nil)) (by rfl)) (sss_one (ss_appPop 3 2 (se_call (ok__law_take T) (hr.mono (by decide)) T.d__law_take.mg T.d__law_take.kp T.d__law_take.bd tk (sax_v 0 (sax_d (se_callB call_lenA un_len persP T.n_len rfl (sp_var 2)) sax_nil))))))
  (sss_one (ss_retL 3 (fr := false)))))
set_option maxHeartbeats 4000000 in
theorem ok__law_box (T : Tx K mg a) : FnOk P w K mg base (L2.CX P w) 3 a.f__law_box a.fd__law_box ["draw", "most"] (spD K a.c false 2 f__law_box) := by
  refine DL.okD2 (m := m__law_box) (n := 13) (p := 2) rfl rfl rfl T.d__law_box.fn sc__law_box (fun cdv A outer s H E hr => ?_)
  have tk : Takes (cxOf (L2.CX P w) P w K mg base ["draw", "most", "many", "kind", "found", "state", "moves", "one", "two", "sign", "to", "output", "k"] "_law_box" (defScope s__law_box) a.f__law_box cdv A outer s H E) (fun cls d _ H' => E cls d H') := takes_of (E := E) rfl rfl rfl rfl
  have hu : (A.deeper (envOfC "_law_box" (defScope s__law_box) s.heap.objs.size a.f__law_box cdv)).units + 65 < cLine := by have := hr.un; omega
  have hu4 := hr.units
  exact (sss_cons (ss_set 2 sc__law_box.nd (se_op op_addA bin_add persD persD se_int (se_call (ok__law_take T) (hr.mono (by decide)) T.d__law_take.mg T.d__law_take.kp T.d__law_take.bd tk (sax_v 0 (sax_d (se_var 1) sax_nil)))) (hx := by first | exact .inl rfl | exact .inr rfl))
  (sss_cons (ss_set 3 sc__law_box.nd (se_call (ok__law_take T) (hr.mono (by decide)) T.d__law_take.mg T.d__law_take.kp T.d__law_take.bd tk (sax_v 0 (sax_d se_int sax_nil))) (hx := by first | exact .inl rfl | exact .inr rfl))
  (sss_cons (ss_setL 4 sc__law_box.nd (sf_lst sa_nil) (hx := by first | exact .inl rfl | exact .inr rfl))
  (sss_cons (ss_for (passes_of rfl) rfl (si_rng1 T.n_range (se_var 2)) (sg_name 5 sc__law_box.nd (hx := by first | exact .inl rfl | exact .inr rfl)) (sss_cons (ss_set 6 sc__law_box.nd (SF.se (sf_comp (own := [("sign", 9)]) (is := [9]) rfl sc__law_box.nd (si_rng1 T.n_range se_int) (blkOk_by (by kernel_rfl)) (by decide) (fun _ _ _ _ _ => (sg_name 9 sc__law_box.nd (hx := by first | exact .inl rfl | exact .inr rfl))) (fun _ _ _ _ _ => sts_nil) (fun _ _ _ _ _ => (se_tup (sa_cons (se_call (ok__law_take T) (hr.mono (by decide)) T.d__law_take.mg T.d__law_take.kp T.d__law_take.bd takes0 (sax_v 0 (sax_d (se_var 2) sax_nil))) (sa_cons (se_call (ok__law_take T) (hr.mono (by decide)) T.d__law_take.mg T.d__law_take.kp T.d__law_take.bd takes0 (sax_v 0 (sax_d se_int sax_nil))) sa_nil)))))) (hx := by first | exact .inl rfl | exact .inr rfl))
  (sss_cons (ss_if (st_cmp (op_eqD hu4) bin_eq persD persD (se_var 3) se_int (by rfl)) (sss_one (ss_set 6 sc__law_box.nd (SF.se (sf_comp (own := [("to", 10), ("output", 11)]) (is := [10, 11]) rfl sc__law_box.nd (si_seq (se_var 6)) (blkOk_by (by kernel_rfl)) (by decide) (fun _ _ _ _ _ => (sg_tup rfl (sgs_cons (sg_name 10 sc__law_box.nd (hx := by first | exact .inl rfl | exact .inr rfl)) (sgs_cons (sg_name 11 sc__law_box.nd (hx := by first | exact .inl rfl | exact .inr rfl)) sgs_nil)))) (fun _ _ _ _ _ => sts_nil) (fun _ _ _ _ _ => (se_tup (sa_cons (se_var 10) (sa_cons (se_ix persD persD (se_ix persD persD (se_var 6) se_int) se_int) sa_nil)))))) (hx := by first | exact .inl rfl | exact .inr rfl))) sss_nil)
  (sss_one (ss_app 4 (se_callTy call_tuple_of un_tuple persD T.n_tuple rfl (se_var 6)))))))
  (sss_cons (ss_if (st_cmp (op_eqD hu4) bin_eq persD persD (se_var 3) se_int (by rfl)) (sss_cons (ss_asg (se_tup (sa_cons (se_call (ok__law_order T) (hr.mono (by decide)) T.d__law_order.mg T.d__law_order.kp T.d__law_order.bd tk (sax_v 0 (sax_d (se_var 2) sax_nil))) (sa_cons (se_call (ok__law_order T) (hr.mono (by decide)) T.d__law_order.mg T.d__law_order.kp T.d__law_order.bd tk (sax_v 0 (sax_d (se_var 2) sax_nil))) sa_nil))) (sg_tup rfl (sgs_cons (sg_name 7 sc__law_box.nd (hx := by first | exact .inl rfl | exact .inr rfl)) (sgs_cons (sg_name 8 sc__law_box.nd (hx := by first | exact .inl rfl | exact .inr rfl)) sgs_nil))))
  (sss_one (ss_setL 4 sc__law_box.nd (sf_comp (own := [("k", 12)]) (is := [12]) rfl sc__law_box.nd (si_rng1 T.n_range (se_var 2)) (blkOk_by (by kernel_rfl)) (by decide) (fun _ _ _ _ _ => (sg_name 12 sc__law_box.nd (hx := by first | exact .inl rfl | exact .inr rfl))) (fun _ _ _ _ _ => sts_nil) (fun _ _ _ _ _ => (se_tup (sa_cons (se_tup (sa_cons (se_ix persD persD (se_var 7) (se_var 12)) (sa_cons (se_ix persD persD (se_ix persD persD (se_ix persP persD (sp_var 4) (se_var 12)) se_int) se_int) sa_nil))) (sa_cons (se_tup (sa_cons (se_ix persD persD (se_var 8) (se_var 12)) (sa_cons (se_ix persD persD (se_ix persD persD (se_ix persP persD (sp_var 4) (se_var 12)) se_int) se_int) sa_nil))) sa_nil))))) (hx := by first | exact .inl rfl | exact .inr rfl)))) sss_nil)
  (sss_one (ss_ret (se_callTy call_tuple_of un_tuple persP T.n_tuple rfl (sp_var 4)))))))))
set_option maxHeartbeats 4000000 in
theorem ok__law_partitions (T : Tx K mg a) : FnOk P w K mg base (L2.CX P w) 1 a.f__law_partitions a.fd__law_partitions ["many"] (spD K a.c false 1 f__law_partitions) := by
  refine DL.okD2 (m := m__law_partitions) (n := 6) (p := 1) rfl rfl rfl T.d__law_partitions.fn sc__law_partitions (fun cdv A outer s H E hr => ?_)
  have tk : Takes (cxOf (L2.CX P w) P w K mg base ["many", "found", "state", "longer", "row", "label"] "_law_partitions" (defScope s__law_partitions) a.f__law_partitions cdv A outer s H E) (fun cls d _ H' => E cls d H') := takes_of (E := E) rfl rfl rfl rfl
  have hu : (A.deeper (envOfC "_law_partitions" (defScope s__law_partitions) s.heap.objs.size a.f__law_partitions cdv)).units + 65 < cLine := by have := hr.un; omega
  have hu4 := hr.units
  exact (sss_cons (ss_set 1 sc__law_partitions.nd (SF.se (sf_lst (sa_cons (se_tup sa_nil) sa_nil))) (hx := by first | exact .inl rfl | exact .inr rfl))
  (sss_cons (ss_for (passes_of rfl) rfl (si_rng1 T.n_range (se_var 0)) (sg_name 2 sc__law_partitions.nd (hx := by first | exact .inl rfl | exact .inr rfl)) (sss_cons (ss_set 3 sc__law_partitions.nd (SF.se (sf_lst sa_nil)) (hx := by first | exact .inl rfl | exact .inr rfl))
  (sss_cons (ss_for (passes_of rfl) rfl (si_seq (se_var 1)) (sg_name 4 sc__law_partitions.nd (hx := by first | exact .inl rfl | exact .inr rfl)) (sss_one (ss_set 3 sc__law_partitions.nd (se_op op_addA bin_add persD persD (se_var 3) (SF.se (sf_comp (own := [("label", 5)]) (is := [5]) rfl sc__law_partitions.nd (si_rng1 T.n_range (se_op op_addA bin_add persD persD (se_callB (cr_maxA rfl) un_maxA persD T.n_max rfl (se_op op_addA bin_add persD persD (se_var 4) (se_tup (sa_cons (se_neg se_int) sa_nil)))) se_int)) (blkOk_by (by kernel_rfl)) (by decide) (fun _ _ _ _ _ => (sg_name 5 sc__law_partitions.nd (hx := by first | exact .inl rfl | exact .inr rfl))) (fun _ _ _ _ _ => sts_nil) (fun _ _ _ _ _ => (se_op op_addA bin_add persD persD (se_var 4) (se_tup (sa_cons (se_var 5) sa_nil))))))) (hx := by first | exact .inl rfl | exact .inr rfl))))
  (sss_one (ss_set 1 sc__law_partitions.nd (se_var 3) (hx := by first | exact .inl rfl | exact .inr rfl))))))
  (sss_one (ss_ret (se_var 1)))))
set_option maxHeartbeats 4000000 in
theorem ok_is_whole (T : Tx K mg a) : FnOk P w K mg base (L2.CX P w) 1 a.f_is_whole a.fd_is_whole ["value"] (spD K a.c false 1 f_is_whole) := by
  refine DL.okD2 (m := m_is_whole) (n := 1) (p := 1) rfl rfl rfl T.d_is_whole.fn sc_is_whole (fun cdv A outer s H E hr => ?_)
  have tk : Takes (cxOf (L2.CX P w) P w K mg base ["value"] "is_whole" (defScope s_is_whole) a.f_is_whole cdv A outer s H E) (fun cls d _ H' => E cls d H') := takes_of (E := E) rfl rfl rfl rfl
  have hu : (A.deeper (envOfC "is_whole" (defScope s_is_whole) s.heap.objs.size a.f_is_whole cdv)).units + 65 < cLine := by have := hr.un; omega
  have hu4 := hr.units
  exact (sss_one (ss_ret (se_and (se_isi (n := 0) persD (se_var 0) T.n_isinstance T.n_int rfl (by decide)) (se_one (se_not (se_isi (n := 1) persD (se_var 0) T.n_isinstance T.n_bool rfl (by decide)))))))
set_option maxHeartbeats 4000000 in
theorem ok_is_move (T : Tx K mg a) : FnOk P w K mg base (L2.CX P w) 2 a.f_is_move a.fd_is_move ["value", "many"] (spD K a.c false 2 f_is_move) := by
  refine DL.okD2 (m := m_is_move) (n := 3) (p := 2) rfl rfl rfl T.d_is_move.fn sc_is_move (fun cdv A outer s H E hr => ?_)
  have tk : Takes (cxOf (L2.CX P w) P w K mg base ["value", "many", "item"] "is_move" (defScope s_is_move) a.f_is_move cdv A outer s H E) (fun cls d _ H' => E cls d H') := takes_of (E := E) rfl rfl rfl rfl
  have hu : (A.deeper (envOfC "is_move" (defScope s_is_move) s.heap.objs.size a.f_is_move cdv)).units + 65 < cLine := by have := hr.un; omega
  have hu4 := hr.units
  exact (sss_cons (ss_if (PW.pt (sw_or (st_not (st_val (se_isi (n := 2) persD (se_var 0) T.n_isinstance T.n_tuple rfl (by decide)))) (sw_or (st_cmp (op_neD hu4) bin_ne persD persD (se_callB call_lenA un_len persD T.n_len rfl (se_var 0)) se_int (by rfl)) (sw_or1 (st_not (st_val (se_callB (cr_all rfl) un_all persD T.n_all rfl (SF.se (sf_comp (own := [("item", 2)]) (is := [2]) rfl sc_is_move.nd (si_seq (se_var 0)) (blkOk_by (by kernel_rfl)) (by decide) (fun _ _ _ _ _ => (sg_name 2 sc_is_move.nd (hx := by first | exact .inl rfl | exact .inr rfl))) (fun _ _ _ _ _ => sts_nil) (fun _ _ _ _ _ => (se_call (ok_is_whole T) (hr.mono (by decide)) T.d_is_whole.mg T.d_is_whole.kp T.d_is_whole.bd takes0 (sax_d (se_var 2) sax_nil)))))))))))) (sss_one (ss_ret se_bl)) sss_nil)
  (sss_one (ss_ret (se_and (se_chain op_leA op_ltA bin_le bin_lt se_int (se_ix persD persD (se_var 0) se_int) (se_var 1)) (se_one (se_chain op_leA op_leA bin_le bin_le se_int (se_ix persD persD (se_var 0) se_int) se_int))))))
set_option maxHeartbeats 4000000 in
theorem ok_is_box (T : Tx K mg a) : FnOk P w K mg base (L2.CX P w) 3 a.f_is_box a.fd_is_box ["value"] (spD K a.c false 1 f_is_box) := by
  refine DL.okD2 (m := m_is_box) (n := 3) (p := 1) rfl rfl rfl T.d_is_box.fn sc_is_box (fun cdv A outer s H E hr => ?_)
  have tk : Takes (cxOf (L2.CX P w) P w K mg base ["value", "moves", "move"] "is_box" (defScope s_is_box) a.f_is_box cdv A outer s H E) (fun cls d _ H' => E cls d H') := takes_of (E := E) rfl rfl rfl rfl
  have hu : (A.deeper (envOfC "is_box" (defScope s_is_box) s.heap.objs.size a.f_is_box cdv)).units + 65 < cLine := by have := hr.un; omega
  have hu4 := hr.units
  obtain ⟨u_MOST_STATES, v_MOST_STATES, g1_MOST_STATES, g2_MOST_STATES, g3_MOST_STATES⟩ := T.g_MOST_STATES
  exact (sss_cons (ss_if (PW.pt (sw_or (st_not (st_val (se_isi (n := 2) persD (se_var 0) T.n_isinstance T.n_tuple rfl (by decide)))) (sw_or1 (st_not (st_chain op_leA op_leA bin_le bin_le se_int (se_callB call_lenA un_len persD T.n_len rfl (se_var 0)) (se_glob g1_MOST_STATES g2_MOST_STATES g3_MOST_STATES)))))) (sss_one (ss_ret se_bl)) sss_nil)
  (sss_cons (ss_if (st_not (st_val (se_callB (cr_all rfl) un_all persD T.n_all rfl (SF.se (sf_comp (own := [("moves", 1)]) (is := [1]) rfl sc_is_box.nd (si_seq (se_var 0)) (blkOk_by (by kernel_rfl)) (by decide) (fun _ _ _ _ _ => (sg_name 1 sc_is_box.nd (hx := by first | exact .inl rfl | exact .inr rfl))) (fun _ _ _ _ _ => sts_nil) (fun _ _ _ _ _ => (se_and (se_isi (n := 2) persD (se_var 1) T.n_isinstance T.n_tuple rfl (by decide)) (se_one (se_cmp (op_eqD hu4) bin_eq persD persD (se_callB call_lenA un_len persD T.n_len rfl (se_var 1)) se_int (by rfl)))))))))) (sss_one (ss_ret se_bl)) sss_nil)
  (sss_one (ss_ret (se_callB (cr_all rfl) un_all persD T.n_all rfl (SF.se (sf_comp2 (own := [("moves", 1), ("move", 2)]) (vs1 := [2]) (is := [1]) (is1 := [2]) rfl sc_is_box.nd (si_seq (se_var 0)) (blkOk_by (by kernel_rfl)) (by decide) (by decide) (by decide) (fun _ _ _ _ _ => (sg_name 1 sc_is_box.nd (hx := by first | exact .inl rfl | exact .inr rfl))) (fun _ _ _ _ _ => sts_nil) (fun _ _ _ _ _ => (si_seq (se_var 1))) (fun _ _ _ _ _ => (sg_name 2 sc_is_box.nd (hx := by first | exact .inl rfl | exact .inr rfl))) (fun _ _ _ _ _ => sts_nil) (fun _ _ _ _ _ => (se_call (ok_is_move T) (hr.mono (by decide)) T.d_is_move.mg T.d_is_move.kp T.d_is_move.bd takes0 (sax_d (se_var 2) (sax_d (se_callB call_lenA un_len persD T.n_len rfl (se_var 0)) sax_nil)))))))))))
set_option maxHeartbeats 4000000 in
theorem ok_check_box (T : Tx K mg a) : FnOk P w K mg base (L2.CX P w) 4 a.f_check_box a.fd_check_box ["value"] (spD K a.c false 1 f_check_box) := by
  refine DL.okD2 (m := m_check_box) (n := 1) (p := 1) rfl rfl rfl T.d_check_box.fn sc_check_box (fun cdv A outer s H E hr => ?_)
  have tk : Takes (cxOf (L2.CX P w) P w K mg base ["value"] "check_box" (defScope s_check_box) a.f_check_box cdv A outer s H E) (fun cls d _ H' => E cls d H') := takes_of (E := E) rfl rfl rfl rfl
  have hu : (A.deeper (envOfC "check_box" (defScope s_check_box) s.heap.objs.size a.f_check_box cdv)).units + 65 < cLine := by have := hr.un; omega
  have hu4 := hr.units
  exact (sss_one (ss_if (st_not (st_val (se_call (ok_is_box T) (hr.mono (by decide)) T.d_is_box.mg T.d_is_box.kp T.d_is_box.bd tk (sax_d (se_var 0) sax_nil)))) (sss_one (ss_raise rfl tk rfl T.x_m.q T.x_m.g T.x_m.kp (T.x_m.r rfl) rfl)) sss_nil))
set_option maxHeartbeats 4000000 in
theorem ok_all_partitions (T : Tx K mg a) : FnOk P w K mg base (L2.CX P w) 1 a.f_all_partitions a.fd_all_partitions ["many"] (spD K a.c false 1 f_all_partitions) := by
  refine DL.okD2 (m := m_all_partitions) (n := 5) (p := 1) rfl rfl rfl T.d_all_partitions.fn sc_all_partitions (fun cdv A outer s H E hr => ?_)
  have tk : Takes (cxOf (L2.CX P w) P w K mg base ["many", "found", "_", "row", "label"] "all_partitions" (defScope s_all_partitions) a.f_all_partitions cdv A outer s H E) (fun cls d _ H' => E cls d H') := takes_of (E := E) rfl rfl rfl rfl
  have hu : (A.deeper (envOfC "all_partitions" (defScope s_all_partitions) s.heap.objs.size a.f_all_partitions cdv)).units + 65 < cLine := by have := hr.un; omega
  have hu4 := hr.units
  exact (sss_cons (ss_set 1 sc_all_partitions.nd (SF.se (sf_lst (sa_cons (se_tup sa_nil) sa_nil))) (hx := by first | exact .inl rfl | exact .inr rfl))
  (sss_cons (ss_for (passes_of rfl) rfl (si_rng1 T.n_range (se_var 0)) (sg_name 2 sc_all_partitions.nd (hx := by first | exact .inl rfl | exact .inr rfl)) (sss_one (ss_setLc2 1 (own := [("row", 3), ("label", 4)]) (vs1 := [4]) (is := [3]) (is1 := [4]) rfl sc_all_partitions.nd (sw_true rfl rfl rfl (by decide +kernel)) (si_seq (se_var 1)) (blkOk_by (by kernel_rfl)) (by decide) (by decide) (by decide) (fun _ _ _ _ _ => (sg_name 3 sc_all_partitions.nd (hx := by first | exact .inl rfl | exact .inr rfl))) (fun _ _ _ _ _ => sts_nil) (fun _ _ _ _ _ => (si_rng1 T.n_range (se_op op_addA bin_add persD persD (se_lenSet rfl hu persD T.n_len T.n_set (se_var 3)) se_int))) (fun _ _ _ _ _ => (sg_name 4 sc_all_partitions.nd (hx := by first | exact .inl rfl | exact .inr rfl))) (fun _ _ _ _ _ => sts_nil) (fun _ _ _ _ _ => (se_op op_addA bin_add persD persD (se_var 3) (se_tup (sa_cons (se_var 4) sa_nil)))))))
  (sss_one (ss_ret (se_var 1)))))
set_option maxHeartbeats 4000000 in
theorem ok_does_keep (T : Tx K mg a) : FnOk P w K mg base (L2.CX P w) 1 a.f_does_keep a.fd_does_keep ["box", "value"] (spD K a.c false 2 f_does_keep) := by
  refine DL.okD2 (m := m_does_keep) (n := 8) (p := 2) rfl rfl rfl T.d_does_keep.fn sc_does_keep (fun cdv A outer s H E hr => ?_)
  have tk : Takes (cxOf (L2.CX P w) P w K mg base ["box", "value", "many", "sign", "to", "state", "p", "q"] "does_keep" (defScope s_does_keep) a.f_does_keep cdv A outer s H E) (fun cls d _ H' => E cls d H') := takes_of (E := E) rfl rfl rfl rfl
  have hu : (A.deeper (envOfC "does_keep" (defScope s_does_keep) s.heap.objs.size a.f_does_keep cdv)).units + 65 < cLine := by have := hr.un; omega
  have hu4 := hr.units
  obtain ⟨u_INPUTS, v_INPUTS, g1_INPUTS, g2_INPUTS, g3_INPUTS⟩ := T.g_INPUTS
  exact (sss_cons (ss_set 2 sc_does_keep.nd (SF.se (sf_listRg1 rfl T.n_list T.n_range (se_callB call_lenA un_len persD T.n_len rfl (se_var 0)))) (hx := by first | exact .inl rfl | exact .inr rfl))
  (sss_cons (ss_for (passes_of rfl) rfl (si_glob (ns := [0, 1]) g1_INPUTS g2_INPUTS g3_INPUTS) (sg_name 3 sc_does_keep.nd (hx := by first | exact .inl rfl | exact .inr rfl)) (sss_cons (ss_set 4 sc_does_keep.nd (SF.se (sf_comp (own := [("state", 5)]) (is := [5]) rfl sc_does_keep.nd (si_seq (se_var 2)) (blkOk_by (by kernel_rfl)) (by decide) (fun _ _ _ _ _ => (sg_name 5 sc_does_keep.nd (hx := by first | exact .inl rfl | exact .inr rfl))) (fun _ _ _ _ _ => sts_nil) (fun _ _ _ _ _ => (se_ix persD persD (se_var 1) (se_ix persD persD (se_ix persD persD (se_ix persD persD (se_var 0) (se_var 5)) (se_var 3)) se_int))))) (hx := by first | exact .inl rfl | exact .inr rfl))
  (sss_one (ss_if (st_not (st_val (se_callB (cr_all rfl) un_all persD T.n_all rfl (SF.se (sf_comp2 (own := [("p", 6), ("q", 7)]) (vs1 := [7]) (is := [6]) (is1 := [7]) rfl sc_does_keep.nd (si_seq (se_var 2)) (blkOk_by (by kernel_rfl)) (by decide) (by decide) (by decide) (fun _ _ _ _ _ => (sg_name 6 sc_does_keep.nd (hx := by first | exact .inl rfl | exact .inr rfl))) (fun _ _ _ _ _ => sts_nil) (fun _ _ _ _ _ => (si_seq (se_var 2))) (fun _ _ _ _ _ => (sg_name 7 sc_does_keep.nd (hx := by first | exact .inl rfl | exact .inr rfl))) (fun _ _ _ _ _ => (sts_one (st_cmp (op_eqD hu4) bin_eq persD persD (se_ix persD persD (se_var 1) (se_var 6)) (se_ix persD persD (se_var 1) (se_var 7)) (by rfl)))) (fun _ _ _ _ _ => (se_cmp (op_eqD hu4) bin_eq persD persD (se_ix persD persD (se_var 4) (se_var 6)) (se_ix persD persD (se_var 4) (se_var 7)) (by rfl)))))))) (sss_one (ss_ret se_bl)) sss_nil))))
  (sss_one (ss_ret se_bl))))
set_option maxHeartbeats 4000000 in
theorem ok_found_kept (T : Tx K mg a) : FnOk P w K mg base (L2.CX P w) 2 a.f_found_kept a.fd_found_kept ["box"] (spD K a.c false 1 f_found_kept) := by
  refine DL.okD2 (m := m_found_kept) (n := 2) (p := 1) rfl rfl rfl T.d_found_kept.fn sc_found_kept (fun cdv A outer s H E hr => ?_)
  have tk : Takes (cxOf (L2.CX P w) P w K mg base ["box", "value"] "found_kept" (defScope s_found_kept) a.f_found_kept cdv A outer s H E) (fun cls d _ H' => E cls d H') := takes_of (E := E) rfl rfl rfl rfl
  have hu : (A.deeper (envOfC "found_kept" (defScope s_found_kept) s.heap.objs.size a.f_found_kept cdv)).units + 65 < cLine := by have := hr.un; omega
  have hu4 := hr.units
  exact (sss_one (ss_ret (SF.se (sf_comp (own := [("value", 1)]) (is := [1]) rfl sc_found_kept.nd (si_seq (se_call (ok_all_partitions T) (hr.mono (by decide)) T.d_all_partitions.mg T.d_all_partitions.kp T.d_all_partitions.bd tk (sax_d (se_callB call_lenA un_len persD T.n_len rfl (se_var 0)) sax_nil))) (blkOk_by (by kernel_rfl)) (by decide) (fun _ _ _ _ _ => (sg_name 1 sc_found_kept.nd (hx := by first | exact .inl rfl | exact .inr rfl))) (fun _ _ _ _ _ => (sts_one (st_val (se_call (ok_does_keep T) (hr.mono (by decide)) T.d_does_keep.mg T.d_does_keep.kp T.d_does_keep.bd takes0 (sax_d (se_var 0) (sax_d (se_var 1) sax_nil)))))) (fun _ _ _ _ _ => (se_var 1))))))
set_option maxHeartbeats 4000000 in
theorem ok_kept_partitions (T : Tx K mg a) : FnOk P w K mg base (L2.CX P w) 5 a.f_kept_partitions a.fd_kept_partitions ["box"] (spD K a.c false 1 f_kept_partitions) := by
  refine DL.okD2 (m := m_kept_partitions) (n := 1) (p := 1) rfl rfl rfl T.d_kept_partitions.fn sc_kept_partitions (fun cdv A outer s H E hr => ?_)
  have tk : Takes (cxOf (L2.CX P w) P w K mg base ["box"] "kept_partitions" (defScope s_kept_partitions) a.f_kept_partitions cdv A outer s H E) (fun cls d _ H' => E cls d H') := takes_of (E := E) rfl rfl rfl rfl
  have hu : (A.deeper (envOfC "kept_partitions" (defScope s_kept_partitions) s.heap.objs.size a.f_kept_partitions cdv)).units + 65 < cLine := by have := hr.un; omega
  have hu4 := hr.units
  exact (sss_cons (ss_expr (se_call (ok_check_box T) (hr.mono (by decide)) T.d_check_box.mg T.d_check_box.kp T.d_check_box.bd tk (sax_d (se_var 0) sax_nil)))
  (sss_one (ss_ret (se_callTy call_tuple_of un_tuple persD T.n_tuple rfl (se_call (ok_found_kept T) (hr.mono (by decide)) T.d_found_kept.mg T.d_found_kept.kp T.d_found_kept.bd tk (sax_d (se_var 0) sax_nil))))))
set_option maxHeartbeats 4000000 in
theorem ok_splits (T : Tx K mg a) : FnOk P w K mg base (L2.CX P w) 5 a.f_splits a.fd_splits ["box"] (spD K a.c false 1 f_splits) := by
  refine DL.okD2 (m := m_splits) (n := 7) (p := 1) rfl rfl rfl T.d_splits.fn sc_splits (fun cdv A outer s H E hr => ?_)
  have tk : Takes (cxOf (L2.CX P w) P w K mg base ["box", "many", "kept", "found", "one", "value", "two"] "splits" (defScope s_splits) a.f_splits cdv A outer s H E) (fun cls d _ H' => E cls d H') := takes_of (E := E) rfl rfl rfl rfl
  have hu : (A.deeper (envOfC "splits" (defScope s_splits) s.heap.objs.size a.f_splits cdv)).units + 65 < cLine := by have := hr.un; omega
  have hu4 := hr.units
  exact (sss_cons (ss_expr (se_call (ok_check_box T) (hr.mono (by decide)) T.d_check_box.mg T.d_check_box.kp T.d_check_box.bd tk (sax_d (se_var 0) sax_nil)))
  (sss_cons (ss_set 1 sc_splits.nd (se_callB call_lenA un_len persD T.n_len rfl (se_var 0)) (hx := by first | exact .inl rfl | exact .inr rfl))
  (sss_cons (ss_setLc 2 (own := [("value", 5)]) (is := [5]) rfl sc_splits.nd (sw_true rfl rfl rfl (by decide +kernel)) (si_seq (se_call (ok_found_kept T) (hr.mono (by decide)) T.d_found_kept.mg T.d_found_kept.kp T.d_found_kept.bd tk (sax_d (se_var 0) sax_nil))) (blkOk_by (by kernel_rfl)) (by decide) (fun _ _ _ _ _ => (sg_name 5 sc_splits.nd (hx := by first | exact .inl rfl | exact .inr rfl))) (fun _ _ _ _ _ => (sts_one (st_cmp op_ltA bin_lt persD persD (se_lenSet rfl hu persD T.n_len T.n_set (se_var 5)) (se_var 1) (by rfl)))) (fun _ _ _ _ _ => (se_var 5)))
  (sss_cons (ss_setL 3 sc_splits.nd (sf_lst sa_nil) (hx := by first | exact .inl rfl | exact .inr rfl))
  (sss_cons (ss_for (passes_of rfl) rfl (si_seq (se_var 2)) (sg_name 4 sc_splits.nd (hx := by first | exact .inl rfl | exact .inr rfl)) (sss_one (ss_ext 3 (SF.se (sf_comp (own := [("two", 6)]) (is := [6]) rfl sc_splits.nd (si_seq (se_var 2)) (blkOk_by (by kernel_rfl)) (by decide) (fun _ _ _ _ _ => (sg_name 6 sc_splits.nd (hx := by first | exact .inl rfl | exact .inr rfl))) (fun _ _ _ _ _ => (sts_one (PW.pt (sw_and (st_cmp (op_ltB hu) bin_ltB persD persD (se_var 4) (se_var 6) (by rfl)) (sw_and1 (st_cmp (op_eqD hu4) bin_eq persD persD (se_lenSet rfl hu persD T.n_len T.n_set (SF.se (sf_listZip rfl T.n_list T.n_zip (se_var 4) (se_var 6)))) (se_var 1) (by rfl))))))) (fun _ _ _ _ _ => (se_tup (sa_cons (se_var 4) (sa_cons (se_var 6) sa_nil)))))))))
  (sss_one (ss_ret (se_callTy call_tuple_of un_tuple persP T.n_tuple rfl (sp_var 3)))))))))
set_option maxHeartbeats 4000000 in
theorem ok_numbered (T : Tx K mg a) : FnOk P w K mg base (L2.CX P w) 1 a.f_numbered a.fd_numbered ["labels"] (spD K a.c false 1 f_numbered) := by
  refine DL.okD2 (m := m_numbered) (n := 3) (p := 1) rfl rfl rfl T.d_numbered.fn sc_numbered (fun cdv A outer s H E hr => ?_)
  have tk : Takes (cxOf (L2.CX P w) P w K mg base ["labels", "names", "label"] "numbered" (defScope s_numbered) a.f_numbered cdv A outer s H E) (fun cls d _ H' => E cls d H') := takes_of (E := E) rfl rfl rfl rfl
  have hu : (A.deeper (envOfC "numbered" (defScope s_numbered) s.heap.objs.size a.f_numbered cdv)).units + 65 < cLine := by have := hr.un; omega
  have hu4 := hr.units
  exact (sss_cons (ss_setL 1 sc_numbered.nd (sf_lst sa_nil) (hx := by first | exact .inl rfl | exact .inr rfl))
  (sss_cons (ss_for (passes_of rfl) rfl (si_seq (se_var 0)) (sg_name 2 sc_numbered.nd (hx := by first | exact .inl rfl | exact .inr rfl)) (sss_one (ss_if (st_cmp (op_notInA hu) bin_notIn persD persP (se_var 2) (sp_var 1) (by rfl)) (sss_one (ss_app 1 (se_var 2))) sss_nil)))
  (sss_one (ss_ret (se_callTy call_tuple_of un_tuple persD T.n_tuple rfl (SF.se (sf_comp (own := [("label", 2)]) (is := [2]) rfl sc_numbered.nd (si_seq (se_var 0)) (blkOk_by (by kernel_rfl)) (by decide) (fun _ _ _ _ _ => (sg_name 2 sc_numbered.nd (hx := by first | exact .inl rfl | exact .inr rfl))) (fun _ _ _ _ _ => sts_nil) (fun _ _ _ _ _ => (se_index hu persP (sp_var 1) (se_var 2))))))))))
set_option maxHeartbeats 4000000 in
theorem ok_is_partition (T : Tx K mg a) : FnOk P w K mg base (L2.CX P w) 2 a.f_is_partition a.fd_is_partition ["box", "value"] (spD K a.c false 2 f_is_partition) := by
  refine DL.okD2 (m := m_is_partition) (n := 3) (p := 2) rfl rfl rfl T.d_is_partition.fn sc_is_partition (fun cdv A outer s H E hr => ?_)
  have tk : Takes (cxOf (L2.CX P w) P w K mg base ["box", "value", "item"] "is_partition" (defScope s_is_partition) a.f_is_partition cdv A outer s H E) (fun cls d _ H' => E cls d H') := takes_of (E := E) rfl rfl rfl rfl
  have hu : (A.deeper (envOfC "is_partition" (defScope s_is_partition) s.heap.objs.size a.f_is_partition cdv)).units + 65 < cLine := by have := hr.un; omega
  have hu4 := hr.units
  exact (sss_cons (ss_if (PW.pt (sw_or (st_not (st_val (se_isi (n := 2) persD (se_var 1) T.n_isinstance T.n_tuple rfl (by decide)))) (sw_or (st_cmp (op_neD hu4) bin_ne persD persD (se_callB call_lenA un_len persD T.n_len rfl (se_var 1)) (se_callB call_lenA un_len persD T.n_len rfl (se_var 0)) (by rfl)) (sw_or1 (st_not (st_val (se_callB (cr_all rfl) un_all persD T.n_all rfl (SF.se (sf_comp (own := [("item", 2)]) (is := [2]) rfl sc_is_partition.nd (si_seq (se_var 1)) (blkOk_by (by kernel_rfl)) (by decide) (fun _ _ _ _ _ => (sg_name 2 sc_is_partition.nd (hx := by first | exact .inl rfl | exact .inr rfl))) (fun _ _ _ _ _ => sts_nil) (fun _ _ _ _ _ => (se_call (ok_is_whole T) (hr.mono (by decide)) T.d_is_whole.mg T.d_is_whole.kp T.d_is_whole.bd takes0 (sax_d (se_var 2) sax_nil)))))))))))) (sss_one (ss_ret se_bl)) sss_nil)
  (sss_one (ss_ret (se_cmp (op_eqD hu4) bin_eq persD persD (se_call (ok_numbered T) (hr.mono (by decide)) T.d_numbered.mg T.d_numbered.kp T.d_numbered.bd tk (sax_d (se_var 1) sax_nil)) (se_var 1) (by rfl)))))
set_option maxHeartbeats 4000000 in
theorem ok_check_partitions (T : Tx K mg a) : FnOk P w K mg base (L2.CX P w) 5 a.f_check_partitions a.fd_check_partitions ["box", "one", "two"] (spD K a.c false 3 f_check_partitions) := by
  refine DL.okD2 (m := m_check_partitions) (n := 3) (p := 3) rfl rfl rfl T.d_check_partitions.fn sc_check_partitions (fun cdv A outer s H E hr => ?_)
  have tk : Takes (cxOf (L2.CX P w) P w K mg base ["box", "one", "two"] "check_partitions" (defScope s_check_partitions) a.f_check_partitions cdv A outer s H E) (fun cls d _ H' => E cls d H') := takes_of (E := E) rfl rfl rfl rfl
  have hu : (A.deeper (envOfC "check_partitions" (defScope s_check_partitions) s.heap.objs.size a.f_check_partitions cdv)).units + 65 < cLine := by have := hr.un; omega
  have hu4 := hr.units
  exact (sss_cons (ss_expr (se_call (ok_check_box T) (hr.mono (by decide)) T.d_check_box.mg T.d_check_box.kp T.d_check_box.bd tk (sax_d (se_var 0) sax_nil)))
  (sss_one (ss_if (PW.pt (sw_or (st_not (st_val (se_call (ok_is_partition T) (hr.mono (by decide)) T.d_is_partition.mg T.d_is_partition.kp T.d_is_partition.bd tk (sax_d (se_var 0) (sax_d (se_var 1) sax_nil))))) (sw_or1 (st_not (st_val (se_call (ok_is_partition T) (hr.mono (by decide)) T.d_is_partition.mg T.d_is_partition.kp T.d_is_partition.bd tk (sax_d (se_var 0) (sax_d (se_var 2) sax_nil)))))))) (sss_one (ss_raise rfl tk rfl T.x_m.q T.x_m.g T.x_m.kp (T.x_m.r rfl) rfl)) sss_nil)))
set_option maxHeartbeats 4000000 in
theorem ok_common (T : Tx K mg a) : FnOk P w K mg base (L2.CX P w) 6 a.f_common a.fd_common ["box", "one", "two"] (spD K a.c false 3 f_common) := by
  refine DL.okD2 (m := m_common) (n := 3) (p := 3) rfl rfl rfl T.d_common.fn sc_common (fun cdv A outer s H E hr => ?_)
  have tk : Takes (cxOf (L2.CX P w) P w K mg base ["box", "one", "two"] "common" (defScope s_common) a.f_common cdv A outer s H E) (fun cls d _ H' => E cls d H') := takes_of (E := E) rfl rfl rfl rfl
  have hu : (A.deeper (envOfC "common" (defScope s_common) s.heap.objs.size a.f_common cdv)).units + 65 < cLine := by have := hr.un; omega
  have hu4 := hr.units
  exact (sss_cons (ss_expr (se_call (ok_check_partitions T) (hr.mono (by decide)) T.d_check_partitions.mg T.d_check_partitions.kp T.d_check_partitions.bd tk (sax_d (se_var 0) (sax_d (se_var 1) (sax_d (se_var 2) sax_nil)))))
  (sss_one (ss_ret (se_call (ok_numbered T) (hr.mono (by decide)) T.d_numbered.mg T.d_numbered.kp T.d_numbered.bd tk (sax_d (SF.se (sf_listZip rfl T.n_list T.n_zip (se_var 1) (se_var 2))) sax_nil)))))
set_option maxHeartbeats 4000000 in
theorem ok_together (T : Tx K mg a) : FnOk P w K mg base (L2.CX P w) 6 a.f_together a.fd_together ["box", "one", "two"] (spD K a.c false 3 f_together) := by
  refine DL.okD2 (m := m_together) (n := 7) (p := 3) rfl rfl rfl T.d_together.fn sc_together (fun cdv A outer s H E hr => ?_)
  have tk : Takes (cxOf (L2.CX P w) P w K mg base ["box", "one", "two", "marks", "_", "p", "q"] "together" (defScope s_together) a.f_together cdv A outer s H E) (fun cls d _ H' => E cls d H') := takes_of (E := E) rfl rfl rfl rfl
  have hu : (A.deeper (envOfC "together" (defScope s_together) s.heap.objs.size a.f_together cdv)).units + 65 < cLine := by have := hr.un; omega
  have hu4 := hr.units
  exact (sss_cons (ss_expr (se_call (ok_check_partitions T) (hr.mono (by decide)) T.d_check_partitions.mg T.d_check_partitions.kp T.d_check_partitions.bd tk (sax_d (se_var 0) (sax_d (se_var 1) (sax_d (se_var 2) sax_nil)))))
  (sss_cons (ss_setL 3 sc_together.nd (sf_listRg1 rfl T.n_list T.n_range (se_callB call_lenA un_len persD T.n_len rfl (se_var 1))) (hx := by first | exact .inl rfl | exact .inr rfl))
  (sss_cons (ss_for (passes_of rfl) rfl (si_seq (se_var 1)) (sg_name 4 sc_together.nd (hx := by first | exact .inl rfl | exact .inr rfl)) (sss_one (ss_for (passes_of rfl) rfl (si_rng1 T.n_range (se_callB call_lenA un_len persD T.n_len rfl (se_var 1))) (sg_name 5 sc_together.nd (hx := by first | exact .inl rfl | exact .inr rfl)) (sss_one (ss_for (passes_of rfl) rfl (si_rng1 T.n_range (se_callB call_lenA un_len persD T.n_len rfl (se_var 1))) (sg_name 6 sc_together.nd (hx := by first | exact .inl rfl | exact .inr rfl)) (sss_one (ss_if (PW.pt (sw_or (st_cmp (op_eqD hu4) bin_eq persD persD (se_ix persD persD (se_var 1) (se_var 5)) (se_ix persD persD (se_var 1) (se_var 6)) (by rfl)) (sw_or1 (st_cmp (op_eqD hu4) bin_eq persD persD (se_ix persD persD (se_var 2) (se_var 5)) (se_ix persD persD (se_var 2) (se_var 6)) (by rfl))))) (sss_one (ss_put 3 (se_min2 rfl T.n_min (se_ix persP persD (sp_var 3) (se_var 5)) (se_ix persP persD (sp_var 3) (se_var 6))) (se_var 5))) sss_nil)))))))
  (sss_one (ss_ret (se_callP (ok_numbered T) (hr.mono (by decide)) T.d_numbered.mg T.d_numbered.kp T.d_numbered.bd tk (sax_p (sp_var 3) sax_nil)))))))
set_option maxHeartbeats 4000000 in
theorem ok_is_kept (T : Tx K mg a) : FnOk P w K mg base (L2.CX P w) 5 a.f_is_kept a.fd_is_kept ["box", "value"] (spD K a.c false 2 f_is_kept) := by
  refine DL.okD2 (m := m_is_kept) (n := 2) (p := 2) rfl rfl rfl T.d_is_kept.fn sc_is_kept (fun cdv A outer s H E hr => ?_)
  have tk : Takes (cxOf (L2.CX P w) P w K mg base ["box", "value"] "is_kept" (defScope s_is_kept) a.f_is_kept cdv A outer s H E) (fun cls d _ H' => E cls d H') := takes_of (E := E) rfl rfl rfl rfl
  have hu : (A.deeper (envOfC "is_kept" (defScope s_is_kept) s.heap.objs.size a.f_is_kept cdv)).units + 65 < cLine := by have := hr.un; omega
  have hu4 := hr.units
  exact (sss_cons (ss_expr (se_call (ok_check_box T) (hr.mono (by decide)) T.d_check_box.mg T.d_check_box.kp T.d_check_box.bd tk (sax_d (se_var 0) sax_nil)))
  (sss_one (ss_ret (se_and (se_call (ok_is_partition T) (hr.mono (by decide)) T.d_is_partition.mg T.d_is_partition.kp T.d_is_partition.bd tk (sax_d (se_var 0) (sax_d (se_var 1) sax_nil))) (se_one (se_call (ok_does_keep T) (hr.mono (by decide)) T.d_does_keep.mg T.d_does_keep.kp T.d_does_keep.bd tk (sax_d (se_var 0) (sax_d (se_var 1) sax_nil))))))))
set_option maxHeartbeats 4000000 in
theorem ok__law_told (T : Tx K mg a) : FnOk P w K mg base (L2.CX P w) 7 a.f__law_told a.fd__law_told ["which", "box", "one", "two"] (spD K a.c false 4 f__law_told) := by
  refine DL.okD2 (m := m__law_told) (n := 4) (p := 4) rfl rfl rfl T.d__law_told.fn sc__law_told (fun cdv A outer s H E hr => ?_)
  have tk : Takes (cxOf (L2.CX P w) P w K mg base ["which", "box", "one", "two"] "_law_told" (defScope s__law_told) a.f__law_told cdv A outer s H E) (fun cls d _ H' => E cls d H') := takes_of (E := E) rfl rfl rfl rfl
  have hu : (A.deeper (envOfC "_law_told" (defScope s__law_told) s.heap.objs.size a.f__law_told cdv)).units + 65 < cLine := by have := hr.un; omega
  have hu4 := hr.units
  exact (sss_one (ss_try (k := fun _ => true) rfl rfl T.x_m.g tk T.x_m.ex (fun W2 pn xe tk2 hp2 => (sss_cons (ss_if (st_cmp (op_eqD hu4) bin_eq persD persD (se_var 0) se_int (by rfl)) (sss_one (ss_ret (se_call (ok_kept_partitions T) (hr.mono (by decide)) T.d_kept_partitions.mg T.d_kept_partitions.kp T.d_kept_partitions.bd tk2 (sax_d (se_var 1) sax_nil)))) sss_nil)
  (sss_cons (ss_if (st_cmp (op_eqD hu4) bin_eq persD persD (se_var 0) se_int (by rfl)) (sss_one (ss_ret (se_call (ok_splits T) (hr.mono (by decide)) T.d_splits.mg T.d_splits.kp T.d_splits.bd tk2 (sax_d (se_var 1) sax_nil)))) sss_nil)
  (sss_cons (ss_if (st_cmp (op_eqD hu4) bin_eq persD persD (se_var 0) se_int (by rfl)) (sss_one (ss_ret (se_call (ok_common T) (hr.mono (by decide)) T.d_common.mg T.d_common.kp T.d_common.bd tk2 (sax_d (se_var 1) (sax_d (se_var 2) (sax_d (se_var 3) sax_nil)))))) sss_nil)
  (sss_one (ss_ret (se_if (st_cmp (op_eqD hu4) bin_eq persD persD (se_var 0) se_int (by rfl)) (se_call (ok_together T) (hr.mono (by decide)) T.d_together.mg T.d_together.kp T.d_together.bd tk2 (sax_d (se_var 1) (sax_d (se_var 2) (sax_d (se_var 3) sax_nil)))) (se_call (ok_is_kept T) (hr.mono (by decide)) T.d_is_kept.mg T.d_is_kept.kp T.d_is_kept.bd tk2 (sax_d (se_var 1) (sax_d (se_var 2) sax_nil)))))))))) (fun _ _ => (sss_one (ss_ret se_str)))))
set_option maxHeartbeats 4000000 in
theorem ok__law_keeps (T : Tx K mg a) : FnOk P w K mg base (L2.CX P w) 1 a.f__law_keeps a.fd__law_keeps ["box", "value"] (spD K a.c false 2 f__law_keeps) := by
  refine DL.okD2 (m := m__law_keeps) (n := 5) (p := 2) rfl rfl rfl T.d__law_keeps.fn sc__law_keeps (fun cdv A outer s H E hr => ?_)
  have tk : Takes (cxOf (L2.CX P w) P w K mg base ["box", "value", "p", "q", "sign"] "_law_keeps" (defScope s__law_keeps) a.f__law_keeps cdv A outer s H E) (fun cls d _ H' => E cls d H') := takes_of (E := E) rfl rfl rfl rfl
  have hu : (A.deeper (envOfC "_law_keeps" (defScope s__law_keeps) s.heap.objs.size a.f__law_keeps cdv)).units + 65 < cLine := by have := hr.un; omega
  have hu4 := hr.units
  exact (sss_cons (ss_for (passes_of rfl) rfl (si_rng1 T.n_range (se_callB call_lenA un_len persD T.n_len rfl (se_var 0))) (sg_name 2 sc__law_keeps.nd (hx := by first | exact .inl rfl | exact .inr rfl)) (sss_one (ss_for (passes_of rfl) rfl (si_rng1 T.n_range (se_callB call_lenA un_len persD T.n_len rfl (se_var 0))) (sg_name 3 sc__law_keeps.nd (hx := by first | exact .inl rfl | exact .inr rfl)) (sss_one (ss_if (PW.pt (sw_and (st_cmp (op_eqD hu4) bin_eq persD persD (se_ix persD persD (se_var 1) (se_var 2)) (se_ix persD persD (se_var 1) (se_var 3)) (by rfl)) (sw_and1 (st_val (se_callB (cr_any rfl) un_any persD T.n_any rfl (SF.se (sf_comp (own := [("sign", 4)]) (is := [4]) rfl sc__law_keeps.nd (si_rng1 T.n_range se_int) (blkOk_by (by kernel_rfl)) (by decide) (fun _ _ _ _ _ => (sg_name 4 sc__law_keeps.nd (hx := by first | exact .inl rfl | exact .inr rfl))) (fun _ _ _ _ _ => sts_nil) (fun _ _ _ _ _ => (se_cmp (op_neD hu4) bin_ne persD persD (se_ix persD persD (se_var 1) (se_ix persD persD (se_ix persD persD (se_ix persD persD (se_var 0) (se_var 2)) (se_var 4)) se_int)) (se_ix persD persD (se_var 1) (se_ix persD persD (se_ix persD persD (se_ix persD persD (se_var 0) (se_var 3)) (se_var 4)) se_int)) (by rfl)))))))))) (sss_one (ss_ret se_bl)) sss_nil)))))
  (sss_one (ss_ret se_bl)))
set_option maxHeartbeats 4000000 in
theorem ok__law_numbered (T : Tx K mg a) : FnOk P w K mg base (L2.CX P w) 1 a.f__law_numbered a.fd__law_numbered ["labels"] (spD K a.c false 1 f__law_numbered) := by
  refine DL.okD2 (m := m__law_numbered) (n := 4) (p := 1) rfl rfl rfl T.d__law_numbered.fn sc__law_numbered (fun cdv A outer s H E hr => ?_)
  have tk : Takes (cxOf (L2.CX P w) P w K mg base ["labels", "found", "names", "label"] "_law_numbered" (defScope s__law_numbered) a.f__law_numbered cdv A outer s H E) (fun cls d _ H' => E cls d H') := takes_of (E := E) rfl rfl rfl rfl
  have hu : (A.deeper (envOfC "_law_numbered" (defScope s__law_numbered) s.heap.objs.size a.f__law_numbered cdv)).units + 65 < cLine := by have := hr.un; omega
  have hu4 := hr.units
  exact (sss_cons (ss_parLD 1 2 sc__law_numbered.nd (sf_lst sa_nil) (SF.se (sf_lst sa_nil)))
  (sss_cons (ss_for (passes_of rfl) rfl (si_seq (se_var 0)) (sg_name 3 sc__law_numbered.nd (hx := by first | exact .inl rfl | exact .inr rfl)) (sss_cons (ss_set 2 sc__law_numbered.nd (se_op op_addA bin_add persD persD (se_var 2) (se_if (st_cmp (op_notInA hu) bin_notIn persD persD (se_var 3) (se_var 2) (by rfl)) (SF.se (sf_lst (sa_cons (se_var 3) sa_nil))) (SF.se (sf_lst sa_nil)))) (hx := by first | exact .inl rfl | exact .inr rfl))
  (sss_one (ss_app 1 (se_index hu persD (se_var 2) (se_var 3))))))
  (sss_one (ss_ret (se_callTy call_tuple_of un_tuple persP T.n_tuple rfl (sp_var 1))))))
set_option maxHeartbeats 4000000 in
theorem ok__law_together (T : Tx K mg a) : FnOk P w K mg base (L2.CX P w) 2 a.f__law_together a.fd__law_together ["one", "two"] (spD K a.c false 2 f__law_together) := by
  refine DL.okD2 (m := m__law_together) (n := 9) (p := 2) rfl rfl rfl T.d__law_together.fn sc__law_together (fun cdv A outer s H E hr => ?_)
  have tk : Takes (cxOf (L2.CX P w) P w K mg base ["one", "two", "labels", "turn", "p", "q", "low", "high", "label"] "_law_together" (defScope s__law_together) a.f__law_together cdv A outer s H E) (fun cls d _ H' => E cls d H') := takes_of (E := E) rfl rfl rfl rfl
  have hu : (A.deeper (envOfC "_law_together" (defScope s__law_together) s.heap.objs.size a.f__law_together cdv)).units + 65 < cLine := by have := hr.un; omega
  have hu4 := hr.units
  exact (sss_cons (ss_set 2 sc__law_together.nd (SF.se (sf_callTy call_list_of un_list persD T.n_list rfl (se_var 0))) (hx := by first | exact .inl rfl | exact .inr rfl))
  (sss_cons (ss_for (passes_of rfl) rfl (si_seq (se_var 0)) (sg_name 3 sc__law_together.nd (hx := by first | exact .inl rfl | exact .inr rfl)) (sss_one (ss_for (passes_of rfl) rfl (si_rng1 T.n_range (se_callB call_lenA un_len persD T.n_len rfl (se_var 0))) (sg_name 4 sc__law_together.nd (hx := by first | exact .inl rfl | exact .inr rfl)) (sss_one (ss_for (passes_of rfl) rfl (si_rng1 T.n_range (se_callB call_lenA un_len persD T.n_len rfl (se_var 0))) (sg_name 5 sc__law_together.nd (hx := by first | exact .inl rfl | exact .inr rfl)) (sss_one (ss_if (PW.pt (sw_or (st_cmp (op_eqD hu4) bin_eq persD persD (se_ix persD persD (se_var 1) (se_var 4)) (se_ix persD persD (se_var 1) (se_var 5)) (by rfl)) (sw_or1 (st_cmp (op_eqD hu4) bin_eq persD persD (se_ix persD persD (se_var 2) (se_var 4)) (se_ix persD persD (se_var 2) (se_var 5)) (by rfl))))) (sss_cons (ss_asg (se_tup (sa_cons (se_min2 rfl T.n_min (se_ix persD persD (se_var 2) (se_var 4)) (se_ix persD persD (se_var 2) (se_var 5))) (sa_cons (se_max2 rfl T.n_max (se_ix persD persD (se_var 2) (se_var 4)) (se_ix persD persD (se_var 2) (se_var 5))) sa_nil))) (sg_tup rfl (sgs_cons (sg_name 6 sc__law_together.nd (hx := by first | exact .inl rfl | exact .inr rfl)) (sgs_cons (sg_name 7 sc__law_together.nd (hx := by first | exact .inl rfl | exact .inr rfl)) sgs_nil))))
  (sss_one (ss_setLc 2 (own := [("label", 8)]) (is := [8]) rfl sc__law_together.nd (sw_true rfl rfl rfl (by decide +kernel)) (si_seq (se_var 2)) (blkOk_by (by kernel_rfl)) (by decide) (fun _ _ _ _ _ => (sg_name 8 sc__law_together.nd (hx := by first | exact .inl rfl | exact .inr rfl))) (fun _ _ _ _ _ => sts_nil) (fun _ _ _ _ _ => (se_if (st_cmp (op_eqD hu4) bin_eq persD persD (se_var 8) (se_var 7) (by rfl)) (se_var 6) (se_var 8)))))) sss_nil)))))))
  (sss_one (ss_ret (se_call (ok__law_numbered T) (hr.mono (by decide)) T.d__law_numbered.mg T.d__law_numbered.kp T.d__law_numbered.bd tk (sax_d (se_var 2) sax_nil))))))
set_option maxHeartbeats 4000000 in
theorem ok__law_says (T : Tx K mg a) : FnOk P w K mg base (L2.CX P w) 1 a.f__law_says a.fd__law_says ["value", "due"] (spD K a.c false 2 f__law_says) := by
  refine DL.okD2 (m := m__law_says) (n := 2) (p := 2) rfl rfl rfl T.d__law_says.fn sc__law_says (fun cdv A outer s H E hr => ?_)
  have tk : Takes (cxOf (L2.CX P w) P w K mg base ["value", "due"] "_law_says" (defScope s__law_says) a.f__law_says cdv A outer s H E) (fun cls d _ H' => E cls d H') := takes_of (E := E) rfl rfl rfl rfl
  have hu : (A.deeper (envOfC "_law_says" (defScope s__law_says) s.heap.objs.size a.f__law_says cdv)).units + 65 < cLine := by have := hr.un; omega
  have hu4 := hr.units
  exact (sss_one (ss_ret (se_and (se_isi (n := 1) persD (se_var 0) T.n_isinstance T.n_bool rfl (by decide)) (se_one (se_cmp (op_eqD hu4) bin_eq persD persD (se_var 0) (se_var 1) (by rfl))))))
set_option maxHeartbeats 4000000 in
theorem body_law (T : Tx K mg a) : LawBody P w K mg 8 s_law ["script", "draw", "turn", "box", "many", "every", "kept", "pairs", "one", "again", "some", "two", "both", "joined", "value", "due", "odd", "bad", "told", "item", "which"] a.f_law a.c m_law := by
  intro base cdv s H hK hns hr
  have tk : Takes (cxOf (L2.CX P w) P w K mg base ["script", "draw", "turn", "box", "many", "every", "kept", "pairs", "one", "again", "some", "two", "both", "joined", "value", "due", "odd", "bad", "told", "item", "which"] "law" (defScope s_law) a.f_law cdv callerA [] s H noX) W0 := takes_of (E := noX) rfl rfl rfl rfl
  have hgd : (callerA.deeper (envOfC "law" (defScope s_law) s.heap.objs.size a.f_law cdv)).guards = some [] := rfl
  have hu : (callerA.deeper (envOfC "law" (defScope s_law) s.heap.objs.size a.f_law cdv)).units + 65 < cLine := by have := hr.un; omega
  have hu4 := hr.units
  exact (sss_draw 1 sc_law.nd (sf_call (ok__law_draw T) (hr.mono (by decide)) T.d__law_draw.mg T.d__law_draw.kp T.d__law_draw.bd tk (sax_v 0 sax_nil)) (sss_cons (ss_for (passes_of rfl) rfl (si_rng1 T.n_range se_int) (sg_name 2 sc_law.nd (hx := by first | exact .inl rfl | exact .inr rfl)) (sss_cons (ss_set 3 sc_law.nd (se_call (ok__law_box T) (hr.mono (by decide)) T.d__law_box.mg T.d__law_box.kp T.d__law_box.bd tk (sax_v 1 (sax_d se_int sax_nil))) (hx := by first | exact .inl rfl | exact .inr rfl))
  (sss_cons (ss_set 4 sc_law.nd (se_callB call_lenA un_len persD T.n_len rfl (se_var 3)) (hx := by first | exact .inl rfl | exact .inr rfl))
  (sss_cons (ss_set 5 sc_law.nd (se_call (ok__law_partitions T) (hr.mono (by decide)) T.d__law_partitions.mg T.d__law_partitions.kp T.d__law_partitions.bd tk (sax_d (se_var 4) sax_nil)) (hx := by first | exact .inl rfl | exact .inr rfl))
  (sss_cons (ss_setLc 6 (own := [("value", 14)]) (is := [14]) rfl sc_law.nd (sw_true rfl rfl rfl (by decide +kernel)) (si_seq (se_var 5)) (blkOk_by (by kernel_rfl)) (by decide) (fun _ _ _ _ _ => (sg_name 14 sc_law.nd (hx := by first | exact .inl rfl | exact .inr rfl))) (fun _ _ _ _ _ => (sts_one (st_val (se_call (ok__law_keeps T) (hr.mono (by decide)) T.d__law_keeps.mg T.d__law_keeps.kp T.d__law_keeps.bd takes0 (sax_d (se_var 3) (sax_d (se_var 14) sax_nil)))))) (fun _ _ _ _ _ => (se_var 14)))
  (sss_cons (ss_if (st_cmp (op_neD hu4) bin_ne persD persD (se_callB (cr_repr hu hgd) un_repr persD T.n_repr rfl (se_call (ok_kept_partitions T) (hr.mono (by decide)) T.d_kept_partitions.mg T.d_kept_partitions.kp T.d_kept_partitions.bd tk (sax_d (se_var 3) sax_nil))) (se_callB (cr_repr hu hgd) un_repr persD T.n_repr rfl (se_callTy call_tuple_of un_tuple persD T.n_tuple rfl (SF.se (sf_callB (cr_sortD hu) un_sort persD T.n_sorted rfl (se_var 6))))) (by rfl)) (sss_one (ss_ret se_bl)) sss_nil)
  (sss_cons (ss_set 7 sc_law.nd (SF.se (sf_lst sa_nil)) (hx := by first | exact .inl rfl | exact .inr rfl))
  (sss_cons (ss_for (passes_of rfl) rfl (si_seq (se_var 6)) (sg_name 8 sc_law.nd (hx := by first | exact .inl rfl | exact .inr rfl)) (sss_one (ss_set 7 sc_law.nd (se_op op_addA bin_add persD persD (se_var 7) (SF.se (sf_comp (own := [("two", 11)]) (is := [11]) rfl sc_law.nd (si_seq (se_var 6)) (blkOk_by (by kernel_rfl)) (by decide) (fun _ _ _ _ _ => (sg_name 11 sc_law.nd (hx := by first | exact .inl rfl | exact .inr rfl))) (fun _ _ _ _ _ => (sts_one (PW.pt (sw_and (st_cmp (op_ltB hu) bin_ltB persD persD (se_var 8) (se_var 11) (by rfl)) (sw_and (st_cmp (op_eqD hu4) bin_eq persD persD (se_call (ok__law_numbered T) (hr.mono (by decide)) T.d__law_numbered.mg T.d__law_numbered.kp T.d__law_numbered.bd takes0 (sax_d (SF.se (sf_listZip rfl T.n_list T.n_zip (se_var 8) (se_var 11))) sax_nil)) (se_tupRg1 rfl T.n_tuple T.n_range (se_var 4)) (by rfl)) (sw_and (st_cmp op_ltA bin_lt persD persD (se_op op_addA bin_add persD persD (se_callB (cr_maxA rfl) un_maxA persD T.n_max rfl (se_var 8)) se_int) (se_var 4) (by rfl)) (sw_and1 (st_cmp op_ltA bin_lt persD persD (se_op op_addA bin_add persD persD (se_callB (cr_maxA rfl) un_maxA persD T.n_max rfl (se_var 11)) se_int) (se_var 4) (by rfl))))))))) (fun _ _ _ _ _ => (se_tup (sa_cons (se_var 8) (sa_cons (se_var 11) sa_nil))))))) (hx := by first | exact .inl rfl | exact .inr rfl))))
  (sss_cons (ss_if (st_cmp (op_neD hu4) bin_ne persD persD (se_callB (cr_repr hu hgd) un_repr persD T.n_repr rfl (se_call (ok_splits T) (hr.mono (by decide)) T.d_splits.mg T.d_splits.kp T.d_splits.bd tk (sax_d (se_var 3) sax_nil))) (se_callB (cr_repr hu hgd) un_repr persD T.n_repr rfl (se_callTy call_tuple_of un_tuple persD T.n_tuple rfl (SF.se (sf_callB (cr_sortD hu) un_sort persD T.n_sorted rfl (se_var 7))))) (by rfl)) (sss_one (ss_ret se_bl)) sss_nil)
  (sss_one (ss_for (passes_of rfl) rfl (si_rng1 T.n_range se_int) (sg_name 9 sc_law.nd (hx := by first | exact .inl rfl | exact .inr rfl)) (sss_cons (ss_set 10 sc_law.nd (se_if (st_cmp (op_eqD hu4) bin_eq persD persD (se_call (ok__law_take T) (hr.mono (by decide)) T.d__law_take.mg T.d__law_take.kp T.d__law_take.bd tk (sax_v 1 (sax_d se_int sax_nil))) se_int (by rfl)) (se_var 6) (se_var 5)) (hx := by first | exact .inl rfl | exact .inr rfl))
  (sss_cons (ss_asg (se_tup (sa_cons (se_ix persD persD (se_var 10) (se_call (ok__law_take T) (hr.mono (by decide)) T.d__law_take.mg T.d__law_take.kp T.d__law_take.bd tk (sax_v 1 (sax_d (se_callB call_lenA un_len persD T.n_len rfl (se_var 10)) sax_nil)))) (sa_cons (se_ix persD persD (se_var 10) (se_call (ok__law_take T) (hr.mono (by decide)) T.d__law_take.mg T.d__law_take.kp T.d__law_take.bd tk (sax_v 1 (sax_d (se_callB call_lenA un_len persD T.n_len rfl (se_var 10)) sax_nil)))) sa_nil))) (sg_tup rfl (sgs_cons (sg_name 8 sc_law.nd (hx := by first | exact .inl rfl | exact .inr rfl)) (sgs_cons (sg_name 11 sc_law.nd (hx := by first | exact .inl rfl | exact .inr rfl)) sgs_nil))))
  (sss_cons (ss_parDD 12 13 sc_law.nd (se_call (ok_common T) (hr.mono (by decide)) T.d_common.mg T.d_common.kp T.d_common.bd tk (sax_d (se_var 3) (sax_d (se_var 8) (sax_d (se_var 11) sax_nil)))) (se_call (ok_together T) (hr.mono (by decide)) T.d_together.mg T.d_together.kp T.d_together.bd tk (sax_d (se_var 3) (sax_d (se_var 8) (sax_d (se_var 11) sax_nil)))))
  (sss_cons (ss_if (PW.pt (sw_or (st_cmp (op_neD hu4) bin_ne persD persD (se_var 12) (se_call (ok__law_numbered T) (hr.mono (by decide)) T.d__law_numbered.mg T.d__law_numbered.kp T.d__law_numbered.bd tk (sax_d (SF.se (sf_listZip rfl T.n_list T.n_zip (se_var 8) (se_var 11))) sax_nil)) (by rfl)) (sw_or1 (st_cmp (op_neD hu4) bin_ne persD persD (se_var 13) (se_call (ok__law_together T) (hr.mono (by decide)) T.d__law_together.mg T.d__law_together.kp T.d__law_together.bd tk (sax_d (se_var 8) (sax_d (se_var 11) sax_nil))) (by rfl))))) (sss_one (ss_ret se_bl)) sss_nil)
  (sss_cons (ss_if (PW.pt (sw_and (st_cmp (op_inA hu) bin_in persD persD (se_var 8) (se_var 6) (by rfl)) (sw_and (st_cmp (op_inA hu) bin_in persD persD (se_var 11) (se_var 6) (by rfl)) (sw_and1 (PW.pt (sw_or (st_cmp (op_notInA hu) bin_notIn persD persD (se_var 12) (se_var 6) (by rfl)) (sw_or1 (st_cmp (op_notInA hu) bin_notIn persD persD (se_var 13) (se_var 6) (by rfl))))))))) (sss_one (ss_ret se_bl)) sss_nil)
  (sss_one (ss_for (passes_of rfl) rfl (si_seq (SF.se (sf_lst (sa_cons (se_var 8) (sa_cons (se_var 11) (sa_cons (SF.se (sf_callTy call_list_of un_list persD T.n_list rfl (se_var 8))) (sa_cons (se_slice persD (se_var 8) (so_some se_int) so_none) (sa_cons (se_op op_addA bin_add persD persD (se_var 8) (se_tup (sa_cons se_int sa_nil))) (sa_cons (se_op op_addA bin_add persD persD (se_tup (sa_cons se_bl sa_nil)) (se_slice persD (se_var 8) (so_some se_int) so_none)) (sa_cons (se_op op_mulB bin_mulB persD persD (se_tup (sa_cons se_int sa_nil)) (se_var 4)) (sa_cons se_non (sa_cons (se_callTy call_tuple_of un_tuple persD T.n_tuple rfl (SF.se (sf_comp (own := [("item", 19)]) (is := [19]) rfl sc_law.nd (si_seq (se_var 8)) (blkOk_by (by kernel_rfl)) (by decide) (fun _ _ _ _ _ => (sg_name 19 sc_law.nd (hx := by first | exact .inl rfl | exact .inr rfl))) (fun _ _ _ _ _ => sts_nil) (fun _ _ _ _ _ => (se_op op_addA bin_add persD persD (se_var 19) se_int))))) sa_nil)))))))))))) (sg_name 14 sc_law.nd (hx := by first | exact .inl rfl | exact .inr rfl)) (sss_cons (ss_set 15 sc_law.nd (se_and (se_isi (n := 2) persD (se_var 14) T.n_isinstance T.n_tuple rfl (by decide)) (se_and (se_cmp (op_inA hu) bin_in persD persD (se_var 14) (se_var 6) (by rfl)) (se_one (se_not (se_callB (cr_any rfl) un_any persD T.n_any rfl (SF.se (sf_comp (own := [("item", 19)]) (is := [19]) rfl sc_law.nd (si_seq (se_var 14)) (blkOk_by (by kernel_rfl)) (by decide) (fun _ _ _ _ _ => (sg_name 19 sc_law.nd (hx := by first | exact .inl rfl | exact .inr rfl))) (fun _ _ _ _ _ => sts_nil) (fun _ _ _ _ _ => (se_isi (n := 1) persD (se_var 19) T.n_isinstance T.n_bool rfl (by decide)))))))))) (hx := by first | exact .inl rfl | exact .inr rfl))
  (sss_one (ss_if (st_not (st_val (se_call (ok__law_says T) (hr.mono (by decide)) T.d__law_says.mg T.d__law_says.kp T.d__law_says.bd tk (sax_d (se_call (ok_is_kept T) (hr.mono (by decide)) T.d_is_kept.mg T.d_is_kept.kp T.d_is_kept.bd tk (sax_d (se_var 3) (sax_d (se_var 14) sax_nil))) (sax_d (se_var 15) sax_nil))))) (sss_one (ss_ret se_bl)) sss_nil)))))))))))))))))))))
  (sss_cons (ss_set 16 sc_law.nd (se_call (ok__law_odd_box T) (hr.mono (by decide)) T.d__law_odd_box.mg T.d__law_odd_box.kp T.d__law_odd_box.bd tk (sax_v 1 sax_nil)) (hx := by first | exact .inl rfl | exact .inr rfl))
  (sss_cons (ss_set 17 sc_law.nd (se_ix persD persD (SF.se (sf_lst (sa_cons se_non (sa_cons (SF.se (sf_callTy call_list_of un_list persD T.n_list rfl (se_var 8))) (sa_cons (se_op op_addA bin_add persD persD (se_var 8) (se_tup (sa_cons se_int sa_nil))) (sa_cons (se_op op_mulB bin_mulB persD persD (se_tup (sa_cons se_int sa_nil)) (se_var 4)) (sa_cons (se_op op_addA bin_add persD persD (se_tup (sa_cons se_bl sa_nil)) (se_slice persD (se_var 8) (so_some se_int) so_none)) (sa_cons se_int sa_nil)))))))) (se_call (ok__law_take T) (hr.mono (by decide)) T.d__law_take.mg T.d__law_take.kp T.d__law_take.bd tk (sax_v 1 (sax_d se_int sax_nil)))) (hx := by first | exact .inl rfl | exact .inr rfl))
  (sss_cons (ss_set 18 sc_law.nd (se_op op_addA bin_add persD persD (SF.se (sf_comp (own := [("which", 20)]) (is := [20]) rfl sc_law.nd (si_rng1 T.n_range se_int) (blkOk_by (by kernel_rfl)) (by decide) (fun _ _ _ _ _ => (sg_name 20 sc_law.nd (hx := by first | exact .inl rfl | exact .inr rfl))) (fun _ _ _ _ _ => sts_nil) (fun _ _ _ _ _ => (se_call (ok__law_told T) (hr.mono (by decide)) T.d__law_told.mg T.d__law_told.kp T.d__law_told.bd takes0 (sax_d (se_var 20) (sax_d (se_var 16) (sax_d (se_tup (sa_cons se_int sa_nil)) (sax_d (se_tup (sa_cons se_int sa_nil)) sax_nil)))))))) (SF.se (sf_comp (own := [("which", 20)]) (is := [20]) rfl sc_law.nd (si_seq (se_tup (sa_cons se_int (sa_cons se_int sa_nil)))) (blkOk_by (by kernel_rfl)) (by decide) (fun _ _ _ _ _ => (sg_name 20 sc_law.nd (hx := by first | exact .inl rfl | exact .inr rfl))) (fun _ _ _ _ _ => sts_nil) (fun _ _ _ _ _ => (se_call (ok__law_told T) (hr.mono (by decide)) T.d__law_told.mg T.d__law_told.kp T.d__law_told.bd takes0 (sax_d (se_var 20) (sax_d (se_var 3) (sax_d (se_var 17) (sax_d (se_var 8) sax_nil))))))))) (hx := by first | exact .inl rfl | exact .inr rfl))
  (sss_one (ss_ret (se_cmp (op_eqD hu4) bin_eq persD persD (se_op op_addA bin_add persD persD (se_var 18) (SF.se (sf_comp (own := [("which", 20)]) (is := [20]) rfl sc_law.nd (si_seq (se_tup (sa_cons se_int (sa_cons se_int sa_nil)))) (blkOk_by (by kernel_rfl)) (by decide) (fun _ _ _ _ _ => (sg_name 20 sc_law.nd (hx := by first | exact .inl rfl | exact .inr rfl))) (fun _ _ _ _ _ => sts_nil) (fun _ _ _ _ _ => (se_call (ok__law_told T) (hr.mono (by decide)) T.d__law_told.mg T.d__law_told.kp T.d__law_told.bd takes0 (sax_d (se_var 20) (sax_d (se_var 3) (sax_d (se_var 8) (sax_d (se_var 17) sax_nil))))))))) (se_op op_mulA bin_mul persD persD (SF.se (sf_lst (sa_cons se_str sa_nil))) se_int) (by rfl)))))))) (hx := by first | exact .inl rfl | exact .inr rfl))
end
set_option maxHeartbeats 4000000 in
theorem all_mk {P : Program} {w : World} {K : PySem.W.Frag} {h : Heap} {mg : Str → Option Value} {fa : Addr} (ans : ∀ ns : List Int, ns.length ≤ 63 → runB 21 1 false m_law [.scr ns] none = some (.ok (.bool true), none)) (X : K.In h) (G : h.Ns mainGlobals mg) (hfa : mg "law" = some (.ref fa))
    {f0 : Addr} {od0 an0 : Option Addr} {sl0 : Array (Option Value)} {oc0 kV0 dc0 pm0 cd0 ct0 : Value} {f1 : Addr} {od1 an1 : Option Addr} {sl1 : Array (Option Value)} {oc1 kV1 dc1 pm1 cd1 ct1 : Value} {f2 : Addr} {od2 an2 : Option Addr} {sl2 : Array (Option Value)} {oc2 kV2 dc2 pm2 cd2 ct2 : Value} {f3 : Addr} {od3 an3 : Option Addr} {sl3 : Array (Option Value)} {oc3 kV3 dc3 pm3 cd3 ct3 : Value} {f4 : Addr} {od4 an4 : Option Addr} {sl4 : Array (Option Value)} {oc4 kV4 dc4 pm4 cd4 ct4 : Value} {f5 : Addr} {od5 an5 : Option Addr} {sl5 : Array (Option Value)} {oc5 kV5 dc5 pm5 cd5 ct5 : Value} {f6 : Addr} {od6 an6 : Option Addr} {sl6 : Array (Option Value)} {oc6 kV6 dc6 pm6 cd6 ct6 : Value} {f7 : Addr} {od7 an7 : Option Addr} {sl7 : Array (Option Value)} {oc7 kV7 dc7 pm7 cd7 ct7 : Value} {f8 : Addr} {od8 an8 : Option Addr} {sl8 : Array (Option Value)} {oc8 kV8 dc8 pm8 cd8 ct8 : Value} {f9 : Addr} {od9 an9 : Option Addr} {sl9 : Array (Option Value)} {oc9 kV9 dc9 pm9 cd9 ct9 : Value} {f10 : Addr} {od10 an10 : Option Addr} {sl10 : Array (Option Value)} {oc10 kV10 dc10 pm10 cd10 ct10 : Value} {f11 : Addr} {od11 an11 : Option Addr} {sl11 : Array (Option Value)} {oc11 kV11 dc11 pm11 cd11 ct11 : Value} {f12 : Addr} {od12 an12 : Option Addr} {sl12 : Array (Option Value)} {oc12 kV12 dc12 pm12 cd12 ct12 : Value} {f13 : Addr} {od13 an13 : Option Addr} {sl13 : Array (Option Value)} {oc13 kV13 dc13 pm13 cd13 ct13 : Value} {f14 : Addr} {od14 an14 : Option Addr} {sl14 : Array (Option Value)} {oc14 kV14 dc14 pm14 cd14 ct14 : Value} {f15 : Addr} {od15 an15 : Option Addr} {sl15 : Array (Option Value)} {oc15 kV15 dc15 pm15 cd15 ct15 : Value} {f16 : Addr} {od16 an16 : Option Addr} {sl16 : Array (Option Value)} {oc16 kV16 dc16 pm16 cd16 ct16 : Value} {f17 : Addr} {od17 an17 : Option Addr} {sl17 : Array (Option Value)} {oc17 kV17 dc17 pm17 cd17 ct17 : Value} {f18 : Addr} {od18 an18 : Option Addr} {sl18 : Array (Option Value)} {oc18 kV18 dc18 pm18 cd18 ct18 : Value} {f19 : Addr} {od19 an19 : Option Addr} {sl19 : Array (Option Value)} {oc19 kV19 dc19 pm19 cd19 ct19 : Value} {f20 : Addr} {od20 an20 : Option Addr} {sl20 : Array (Option Value)} {oc20 kV20 dc20 pm20 cd20 ct20 : Value} {f21 : Addr} {od21 an21 : Option Addr} {sl21 : Array (Option Value)} {oc21 kV21 dc21 pm21 cd21 ct21 : Value} {f22 : Addr} {od22 an22 : Option Addr} {sl22 : Array (Option Value)} {oc22 kV22 dc22 pm22 cd22 ct22 : Value} {f23 : Addr} {od23 an23 : Option Addr} {sl23 : Array (Option Value)} {oc23 kV23 dc23 pm23 cd23 ct23 : Value} {f24 : Addr} {od24 an24 : Option Addr} {sl24 : Array (Option Value)} {oc24 kV24 dc24 pm24 cd24 ct24 : Value} {f25 : Addr} {od25 an25 : Option Addr} {sl25 : Array (Option Value)} {oc25 kV25 dc25 pm25 cd25 ct25 : Value} {f26 : Addr} {od26 an26 : Option Addr} {sl26 : Array (Option Value)} {oc26 kV26 dc26 pm26 cd26 ct26 : Value} {t0 : Tok} {q1 : Addr} {t1_0 t1_1 : Tok} {n1 : Nat} {s1 : Array (Option Value)} {cm : Addr}
    (a0 : PySem.W.nsIn K mainGlobals "_law_draw" = some (some (.ref f0))) (l0 : K.lookup f0 = some ⟨oc0, od0, .func (PySem.W.fnOf "_law_draw" "_law_draw" (defArgs s__law_draw) (defBody s__law_draw) (defScope s__law_draw) .none kV0 dc0 pm0 an0 cd0 ct0), sl0⟩) (c0 : PySem.W.codeIn K cd0 "_law_draw" = true) (k0 : PySem.W.keepIn K (.ref f0) = true)
    (a1 : PySem.W.nsIn K mainGlobals "_law_take" = some (some (.ref f1))) (l1 : K.lookup f1 = some ⟨oc1, od1, .func (PySem.W.fnOf "_law_take" "_law_take" (defArgs s__law_take) (defBody s__law_take) (defScope s__law_take) .none kV1 dc1 pm1 an1 cd1 ct1), sl1⟩) (c1 : PySem.W.codeIn K cd1 "_law_take" = true) (k1 : PySem.W.keepIn K (.ref f1) = true)
    (a2 : PySem.W.nsIn K mainGlobals "_law_odd_box" = some (some (.ref f2))) (l2 : K.lookup f2 = some ⟨oc2, od2, .func (PySem.W.fnOf "_law_odd_box" "_law_odd_box" (defArgs s__law_odd_box) (defBody s__law_odd_box) (defScope s__law_odd_box) .none kV2 dc2 pm2 an2 cd2 ct2), sl2⟩) (c2 : PySem.W.codeIn K cd2 "_law_odd_box" = true) (k2 : PySem.W.keepIn K (.ref f2) = true)
    (a3 : PySem.W.nsIn K mainGlobals "_law_order" = some (some (.ref f3))) (l3 : K.lookup f3 = some ⟨oc3, od3, .func (PySem.W.fnOf "_law_order" "_law_order" (defArgs s__law_order) (defBody s__law_order) (defScope s__law_order) .none kV3 dc3 pm3 an3 cd3 ct3), sl3⟩) (c3 : PySem.W.codeIn K cd3 "_law_order" = true) (k3 : PySem.W.keepIn K (.ref f3) = true)
    (a4 : PySem.W.nsIn K mainGlobals "_law_box" = some (some (.ref f4))) (l4 : K.lookup f4 = some ⟨oc4, od4, .func (PySem.W.fnOf "_law_box" "_law_box" (defArgs s__law_box) (defBody s__law_box) (defScope s__law_box) .none kV4 dc4 pm4 an4 cd4 ct4), sl4⟩) (c4 : PySem.W.codeIn K cd4 "_law_box" = true) (k4 : PySem.W.keepIn K (.ref f4) = true)
    (a5 : PySem.W.nsIn K mainGlobals "_law_partitions" = some (some (.ref f5))) (l5 : K.lookup f5 = some ⟨oc5, od5, .func (PySem.W.fnOf "_law_partitions" "_law_partitions" (defArgs s__law_partitions) (defBody s__law_partitions) (defScope s__law_partitions) .none kV5 dc5 pm5 an5 cd5 ct5), sl5⟩) (c5 : PySem.W.codeIn K cd5 "_law_partitions" = true) (k5 : PySem.W.keepIn K (.ref f5) = true)
    (a6 : PySem.W.nsIn K mainGlobals "is_whole" = some (some (.ref f6))) (l6 : K.lookup f6 = some ⟨oc6, od6, .func (PySem.W.fnOf "is_whole" "is_whole" (defArgs s_is_whole) (defBody s_is_whole) (defScope s_is_whole) .none kV6 dc6 pm6 an6 cd6 ct6), sl6⟩) (c6 : PySem.W.codeIn K cd6 "is_whole" = true) (k6 : PySem.W.keepIn K (.ref f6) = true)
    (a7 : PySem.W.nsIn K mainGlobals "is_move" = some (some (.ref f7))) (l7 : K.lookup f7 = some ⟨oc7, od7, .func (PySem.W.fnOf "is_move" "is_move" (defArgs s_is_move) (defBody s_is_move) (defScope s_is_move) .none kV7 dc7 pm7 an7 cd7 ct7), sl7⟩) (c7 : PySem.W.codeIn K cd7 "is_move" = true) (k7 : PySem.W.keepIn K (.ref f7) = true)
    (a8 : PySem.W.nsIn K mainGlobals "is_box" = some (some (.ref f8))) (l8 : K.lookup f8 = some ⟨oc8, od8, .func (PySem.W.fnOf "is_box" "is_box" (defArgs s_is_box) (defBody s_is_box) (defScope s_is_box) .none kV8 dc8 pm8 an8 cd8 ct8), sl8⟩) (c8 : PySem.W.codeIn K cd8 "is_box" = true) (k8 : PySem.W.keepIn K (.ref f8) = true)
    (a9 : PySem.W.nsIn K mainGlobals "check_box" = some (some (.ref f9))) (l9 : K.lookup f9 = some ⟨oc9, od9, .func (PySem.W.fnOf "check_box" "check_box" (defArgs s_check_box) (defBody s_check_box) (defScope s_check_box) .none kV9 dc9 pm9 an9 cd9 ct9), sl9⟩) (c9 : PySem.W.codeIn K cd9 "check_box" = true) (k9 : PySem.W.keepIn K (.ref f9) = true)
    (a10 : PySem.W.nsIn K mainGlobals "all_partitions" = some (some (.ref f10))) (l10 : K.lookup f10 = some ⟨oc10, od10, .func (PySem.W.fnOf "all_partitions" "all_partitions" (defArgs s_all_partitions) (defBody s_all_partitions) (defScope s_all_partitions) .none kV10 dc10 pm10 an10 cd10 ct10), sl10⟩) (c10 : PySem.W.codeIn K cd10 "all_partitions" = true) (k10 : PySem.W.keepIn K (.ref f10) = true)
    (a11 : PySem.W.nsIn K mainGlobals "does_keep" = some (some (.ref f11))) (l11 : K.lookup f11 = some ⟨oc11, od11, .func (PySem.W.fnOf "does_keep" "does_keep" (defArgs s_does_keep) (defBody s_does_keep) (defScope s_does_keep) .none kV11 dc11 pm11 an11 cd11 ct11), sl11⟩) (c11 : PySem.W.codeIn K cd11 "does_keep" = true) (k11 : PySem.W.keepIn K (.ref f11) = true)
    (a12 : PySem.W.nsIn K mainGlobals "found_kept" = some (some (.ref f12))) (l12 : K.lookup f12 = some ⟨oc12, od12, .func (PySem.W.fnOf "found_kept" "found_kept" (defArgs s_found_kept) (defBody s_found_kept) (defScope s_found_kept) .none kV12 dc12 pm12 an12 cd12 ct12), sl12⟩) (c12 : PySem.W.codeIn K cd12 "found_kept" = true) (k12 : PySem.W.keepIn K (.ref f12) = true)
    (a13 : PySem.W.nsIn K mainGlobals "kept_partitions" = some (some (.ref f13))) (l13 : K.lookup f13 = some ⟨oc13, od13, .func (PySem.W.fnOf "kept_partitions" "kept_partitions" (defArgs s_kept_partitions) (defBody s_kept_partitions) (defScope s_kept_partitions) .none kV13 dc13 pm13 an13 cd13 ct13), sl13⟩) (c13 : PySem.W.codeIn K cd13 "kept_partitions" = true) (k13 : PySem.W.keepIn K (.ref f13) = true)
    (a14 : PySem.W.nsIn K mainGlobals "splits" = some (some (.ref f14))) (l14 : K.lookup f14 = some ⟨oc14, od14, .func (PySem.W.fnOf "splits" "splits" (defArgs s_splits) (defBody s_splits) (defScope s_splits) .none kV14 dc14 pm14 an14 cd14 ct14), sl14⟩) (c14 : PySem.W.codeIn K cd14 "splits" = true) (k14 : PySem.W.keepIn K (.ref f14) = true)
    (a15 : PySem.W.nsIn K mainGlobals "numbered" = some (some (.ref f15))) (l15 : K.lookup f15 = some ⟨oc15, od15, .func (PySem.W.fnOf "numbered" "numbered" (defArgs s_numbered) (defBody s_numbered) (defScope s_numbered) .none kV15 dc15 pm15 an15 cd15 ct15), sl15⟩) (c15 : PySem.W.codeIn K cd15 "numbered" = true) (k15 : PySem.W.keepIn K (.ref f15) = true)
    (a16 : PySem.W.nsIn K mainGlobals "is_partition" = some (some (.ref f16))) (l16 : K.lookup f16 = some ⟨oc16, od16, .func (PySem.W.fnOf "is_partition" "is_partition" (defArgs s_is_partition) (defBody s_is_partition) (defScope s_is_partition) .none kV16 dc16 pm16 an16 cd16 ct16), sl16⟩) (c16 : PySem.W.codeIn K cd16 "is_partition" = true) (k16 : PySem.W.keepIn K (.ref f16) = true)
    (a17 : PySem.W.nsIn K mainGlobals "check_partitions" = some (some (.ref f17))) (l17 : K.lookup f17 = some ⟨oc17, od17, .func (PySem.W.fnOf "check_partitions" "check_partitions" (defArgs s_check_partitions) (defBody s_check_partitions) (defScope s_check_partitions) .none kV17 dc17 pm17 an17 cd17 ct17), sl17⟩) (c17 : PySem.W.codeIn K cd17 "check_partitions" = true) (k17 : PySem.W.keepIn K (.ref f17) = true)
    (a18 : PySem.W.nsIn K mainGlobals "common" = some (some (.ref f18))) (l18 : K.lookup f18 = some ⟨oc18, od18, .func (PySem.W.fnOf "common" "common" (defArgs s_common) (defBody s_common) (defScope s_common) .none kV18 dc18 pm18 an18 cd18 ct18), sl18⟩) (c18 : PySem.W.codeIn K cd18 "common" = true) (k18 : PySem.W.keepIn K (.ref f18) = true)
    (a19 : PySem.W.nsIn K mainGlobals "together" = some (some (.ref f19))) (l19 : K.lookup f19 = some ⟨oc19, od19, .func (PySem.W.fnOf "together" "together" (defArgs s_together) (defBody s_together) (defScope s_together) .none kV19 dc19 pm19 an19 cd19 ct19), sl19⟩) (c19 : PySem.W.codeIn K cd19 "together" = true) (k19 : PySem.W.keepIn K (.ref f19) = true)
    (a20 : PySem.W.nsIn K mainGlobals "is_kept" = some (some (.ref f20))) (l20 : K.lookup f20 = some ⟨oc20, od20, .func (PySem.W.fnOf "is_kept" "is_kept" (defArgs s_is_kept) (defBody s_is_kept) (defScope s_is_kept) .none kV20 dc20 pm20 an20 cd20 ct20), sl20⟩) (c20 : PySem.W.codeIn K cd20 "is_kept" = true) (k20 : PySem.W.keepIn K (.ref f20) = true)
    (a21 : PySem.W.nsIn K mainGlobals "_law_told" = some (some (.ref f21))) (l21 : K.lookup f21 = some ⟨oc21, od21, .func (PySem.W.fnOf "_law_told" "_law_told" (defArgs s__law_told) (defBody s__law_told) (defScope s__law_told) .none kV21 dc21 pm21 an21 cd21 ct21), sl21⟩) (c21 : PySem.W.codeIn K cd21 "_law_told" = true) (k21 : PySem.W.keepIn K (.ref f21) = true)
    (a22 : PySem.W.nsIn K mainGlobals "_law_keeps" = some (some (.ref f22))) (l22 : K.lookup f22 = some ⟨oc22, od22, .func (PySem.W.fnOf "_law_keeps" "_law_keeps" (defArgs s__law_keeps) (defBody s__law_keeps) (defScope s__law_keeps) .none kV22 dc22 pm22 an22 cd22 ct22), sl22⟩) (c22 : PySem.W.codeIn K cd22 "_law_keeps" = true) (k22 : PySem.W.keepIn K (.ref f22) = true)
    (a23 : PySem.W.nsIn K mainGlobals "_law_numbered" = some (some (.ref f23))) (l23 : K.lookup f23 = some ⟨oc23, od23, .func (PySem.W.fnOf "_law_numbered" "_law_numbered" (defArgs s__law_numbered) (defBody s__law_numbered) (defScope s__law_numbered) .none kV23 dc23 pm23 an23 cd23 ct23), sl23⟩) (c23 : PySem.W.codeIn K cd23 "_law_numbered" = true) (k23 : PySem.W.keepIn K (.ref f23) = true)
    (a24 : PySem.W.nsIn K mainGlobals "_law_together" = some (some (.ref f24))) (l24 : K.lookup f24 = some ⟨oc24, od24, .func (PySem.W.fnOf "_law_together" "_law_together" (defArgs s__law_together) (defBody s__law_together) (defScope s__law_together) .none kV24 dc24 pm24 an24 cd24 ct24), sl24⟩) (c24 : PySem.W.codeIn K cd24 "_law_together" = true) (k24 : PySem.W.keepIn K (.ref f24) = true)
    (a25 : PySem.W.nsIn K mainGlobals "_law_says" = some (some (.ref f25))) (l25 : K.lookup f25 = some ⟨oc25, od25, .func (PySem.W.fnOf "_law_says" "_law_says" (defArgs s__law_says) (defBody s__law_says) (defScope s__law_says) .none kV25 dc25 pm25 an25 cd25 ct25), sl25⟩) (c25 : PySem.W.codeIn K cd25 "_law_says" = true) (k25 : PySem.W.keepIn K (.ref f25) = true)
    (a26 : PySem.W.nsIn K mainGlobals "law" = some (some (.ref f26))) (l26 : K.lookup f26 = some ⟨oc26, od26, .func (PySem.W.fnOf "law" "law" (defArgs s_law) (defBody s_law) (defScope s_law) .none kV26 dc26 pm26 an26 cd26 ct26), sl26⟩) (c26 : PySem.W.codeIn K cd26 "law" = true) (k26 : PySem.W.keepIn K (.ref f26) = true)
    (z0 : PySem.W.nsIn K mainGlobals "abs" = some none)
    (z1 : PySem.W.nsIn K mainGlobals "all" = some none)
    (z2 : PySem.W.nsIn K mainGlobals "any" = some none)
    (z3 : PySem.W.nsIn K mainGlobals "bool" = some none)
    (z4 : PySem.W.nsIn K mainGlobals "int" = some none)
    (z5 : PySem.W.nsIn K mainGlobals "isinstance" = some none)
    (z6 : PySem.W.nsIn K mainGlobals "len" = some none)
    (z7 : PySem.W.nsIn K mainGlobals "list" = some none)
    (z8 : PySem.W.nsIn K mainGlobals "max" = some none)
    (z9 : PySem.W.nsIn K mainGlobals "min" = some none)
    (z10 : PySem.W.nsIn K mainGlobals "range" = some none)
    (z11 : PySem.W.nsIn K mainGlobals "repr" = some none)
    (z12 : PySem.W.nsIn K mainGlobals "set" = some none)
    (z13 : PySem.W.nsIn K mainGlobals "sorted" = some none)
    (z14 : PySem.W.nsIn K mainGlobals "tuple" = some none)
    (z15 : PySem.W.nsIn K mainGlobals "zip" = some none)
    (g0 : PySem.W.nsIn K mainGlobals "MOST_STATES" = some (some (.int 5 t0)))
    (g1 : PySem.W.nsIn K mainGlobals "INPUTS" = some (some (.ref q1))) (h1 : K.lookup q1 = some ⟨.type "tuple", none, .seq #[.int 0 t1_0, .int 1 t1_1] n1, s1⟩)
    (xg : PySem.W.nsIn K mainGlobals "Malformed" = some (some (.ref cm))) (xq : PySem.W.excIn K cm [.type "ValueError", .type "Exception", .type "BaseException", .type "object"] "ValueError.__new__" = true) (xk : PySem.W.keepIn K (.ref cm) = true) (xb : PySem.W.subIn K (.ref cm) (.type "BaseException") = some true) (xt : PySem.W.typeIn K (.ref cm) = some (.type "type")) (xi : PySem.W.isClsIn K cm = true) (xs : PySem.W.subIn K (.ref cm) (.ref cm) = some true)
    : ∃ C st N fd m, LawTxt P w K mg fa 8 C st N fd m := by
  have e := hfa.symm.trans (PySem.W.mg_of X G a26)
  cases e
  have F0 := fun_mk (st := s__law_draw) l0 c0 k0
  have F1 := fun_mk (st := s__law_take) l1 c1 k1
  have F2 := fun_mk (st := s__law_odd_box) l2 c2 k2
  have F3 := fun_mk (st := s__law_order) l3 c3 k3
  have F4 := fun_mk (st := s__law_box) l4 c4 k4
  have F5 := fun_mk (st := s__law_partitions) l5 c5 k5
  have F6 := fun_mk (st := s_is_whole) l6 c6 k6
  have F7 := fun_mk (st := s_is_move) l7 c7 k7
  have F8 := fun_mk (st := s_is_box) l8 c8 k8
  have F9 := fun_mk (st := s_check_box) l9 c9 k9
  have F10 := fun_mk (st := s_all_partitions) l10 c10 k10
  have F11 := fun_mk (st := s_does_keep) l11 c11 k11
  have F12 := fun_mk (st := s_found_kept) l12 c12 k12
  have F13 := fun_mk (st := s_kept_partitions) l13 c13 k13
  have F14 := fun_mk (st := s_splits) l14 c14 k14
  have F15 := fun_mk (st := s_numbered) l15 c15 k15
  have F16 := fun_mk (st := s_is_partition) l16 c16 k16
  have F17 := fun_mk (st := s_check_partitions) l17 c17 k17
  have F18 := fun_mk (st := s_common) l18 c18 k18
  have F19 := fun_mk (st := s_together) l19 c19 k19
  have F20 := fun_mk (st := s_is_kept) l20 c20 k20
  have F21 := fun_mk (st := s__law_told) l21 c21 k21
  have F22 := fun_mk (st := s__law_keeps) l22 c22 k22
  have F23 := fun_mk (st := s__law_numbered) l23 c23 k23
  have F24 := fun_mk (st := s__law_together) l24 c24 k24
  have F25 := fun_mk (st := s__law_says) l25 c25 k25
  have F26 := fun_mk (st := s_law) l26 c26 k26
  have T : Tx K mg { f__law_draw := f0, fd__law_draw := _, f__law_take := f1, fd__law_take := _, f__law_odd_box := f2, fd__law_odd_box := _, f__law_order := f3, fd__law_order := _, f__law_box := f4, fd__law_box := _, f__law_partitions := f5, fd__law_partitions := _, f_is_whole := f6, fd_is_whole := _, f_is_move := f7, fd_is_move := _, f_is_box := f8, fd_is_box := _, f_check_box := f9, fd_check_box := _, f_all_partitions := f10, fd_all_partitions := _, f_does_keep := f11, fd_does_keep := _, f_found_kept := f12, fd_found_kept := _, f_kept_partitions := f13, fd_kept_partitions := _, f_splits := f14, fd_splits := _, f_numbered := f15, fd_numbered := _, f_is_partition := f16, fd_is_partition := _, f_check_partitions := f17, fd_check_partitions := _, f_common := f18, fd_common := _, f_together := f19, fd_together := _, f_is_kept := f20, fd_is_kept := _, f__law_told := f21, fd__law_told := _, f__law_keeps := f22, fd__law_keeps := _, f__law_numbered := f23, fd__law_numbered := _, f__law_together := f24, fd__law_together := _, f__law_says := f25, fd__law_says := _, f_law := fa, fd_law := _, c := ⟨cm, cm, cm⟩ } := {
    d__law_draw := ⟨F0, PySem.W.mg_of X G a0, k0, F0.binds (ps := ["script"]) fun _ _ _ _ _ _ us hl => match us, hl with | [_], _ => rfl⟩
    d__law_take := ⟨F1, PySem.W.mg_of X G a1, k1, F1.binds (ps := ["draw", "many"]) fun _ _ _ _ _ _ us hl => match us, hl with | [_, _], _ => rfl⟩
    d__law_odd_box := ⟨F2, PySem.W.mg_of X G a2, k2, F2.binds (ps := ["draw"]) fun _ _ _ _ _ _ us hl => match us, hl with | [_], _ => rfl⟩
    d__law_order := ⟨F3, PySem.W.mg_of X G a3, k3, F3.binds (ps := ["draw", "many"]) fun _ _ _ _ _ _ us hl => match us, hl with | [_, _], _ => rfl⟩
    d__law_box := ⟨F4, PySem.W.mg_of X G a4, k4, F4.binds (ps := ["draw", "most"]) fun _ _ _ _ _ _ us hl => match us, hl with | [_, _], _ => rfl⟩
    d__law_partitions := ⟨F5, PySem.W.mg_of X G a5, k5, F5.binds (ps := ["many"]) fun _ _ _ _ _ _ us hl => match us, hl with | [_], _ => rfl⟩
    d_is_whole := ⟨F6, PySem.W.mg_of X G a6, k6, F6.binds (ps := ["value"]) fun _ _ _ _ _ _ us hl => match us, hl with | [_], _ => rfl⟩
    d_is_move := ⟨F7, PySem.W.mg_of X G a7, k7, F7.binds (ps := ["value", "many"]) fun _ _ _ _ _ _ us hl => match us, hl with | [_, _], _ => rfl⟩
    d_is_box := ⟨F8, PySem.W.mg_of X G a8, k8, F8.binds (ps := ["value"]) fun _ _ _ _ _ _ us hl => match us, hl with | [_], _ => rfl⟩
    d_check_box := ⟨F9, PySem.W.mg_of X G a9, k9, F9.binds (ps := ["value"]) fun _ _ _ _ _ _ us hl => match us, hl with | [_], _ => rfl⟩
    d_all_partitions := ⟨F10, PySem.W.mg_of X G a10, k10, F10.binds (ps := ["many"]) fun _ _ _ _ _ _ us hl => match us, hl with | [_], _ => rfl⟩
    d_does_keep := ⟨F11, PySem.W.mg_of X G a11, k11, F11.binds (ps := ["box", "value"]) fun _ _ _ _ _ _ us hl => match us, hl with | [_, _], _ => rfl⟩
    d_found_kept := ⟨F12, PySem.W.mg_of X G a12, k12, F12.binds (ps := ["box"]) fun _ _ _ _ _ _ us hl => match us, hl with | [_], _ => rfl⟩
    d_kept_partitions := ⟨F13, PySem.W.mg_of X G a13, k13, F13.binds (ps := ["box"]) fun _ _ _ _ _ _ us hl => match us, hl with | [_], _ => rfl⟩
    d_splits := ⟨F14, PySem.W.mg_of X G a14, k14, F14.binds (ps := ["box"]) fun _ _ _ _ _ _ us hl => match us, hl with | [_], _ => rfl⟩
    d_numbered := ⟨F15, PySem.W.mg_of X G a15, k15, F15.binds (ps := ["labels"]) fun _ _ _ _ _ _ us hl => match us, hl with | [_], _ => rfl⟩
    d_is_partition := ⟨F16, PySem.W.mg_of X G a16, k16, F16.binds (ps := ["box", "value"]) fun _ _ _ _ _ _ us hl => match us, hl with | [_, _], _ => rfl⟩
    d_check_partitions := ⟨F17, PySem.W.mg_of X G a17, k17, F17.binds (ps := ["box", "one", "two"]) fun _ _ _ _ _ _ us hl => match us, hl with | [_, _, _], _ => rfl⟩
    d_common := ⟨F18, PySem.W.mg_of X G a18, k18, F18.binds (ps := ["box", "one", "two"]) fun _ _ _ _ _ _ us hl => match us, hl with | [_, _, _], _ => rfl⟩
    d_together := ⟨F19, PySem.W.mg_of X G a19, k19, F19.binds (ps := ["box", "one", "two"]) fun _ _ _ _ _ _ us hl => match us, hl with | [_, _, _], _ => rfl⟩
    d_is_kept := ⟨F20, PySem.W.mg_of X G a20, k20, F20.binds (ps := ["box", "value"]) fun _ _ _ _ _ _ us hl => match us, hl with | [_, _], _ => rfl⟩
    d__law_told := ⟨F21, PySem.W.mg_of X G a21, k21, F21.binds (ps := ["which", "box", "one", "two"]) fun _ _ _ _ _ _ us hl => match us, hl with | [_, _, _, _], _ => rfl⟩
    d__law_keeps := ⟨F22, PySem.W.mg_of X G a22, k22, F22.binds (ps := ["box", "value"]) fun _ _ _ _ _ _ us hl => match us, hl with | [_, _], _ => rfl⟩
    d__law_numbered := ⟨F23, PySem.W.mg_of X G a23, k23, F23.binds (ps := ["labels"]) fun _ _ _ _ _ _ us hl => match us, hl with | [_], _ => rfl⟩
    d__law_together := ⟨F24, PySem.W.mg_of X G a24, k24, F24.binds (ps := ["one", "two"]) fun _ _ _ _ _ _ us hl => match us, hl with | [_, _], _ => rfl⟩
    d__law_says := ⟨F25, PySem.W.mg_of X G a25, k25, F25.binds (ps := ["value", "due"]) fun _ _ _ _ _ _ us hl => match us, hl with | [_, _], _ => rfl⟩
    d_law := ⟨F26, PySem.W.mg_of X G a26, k26, F26.binds (ps := ["script"]) fun _ _ _ _ _ _ us hl => match us, hl with | [_], _ => rfl⟩
    n_abs := PySem.W.mg_none_of X G z0
    n_all := PySem.W.mg_none_of X G z1
    n_any := PySem.W.mg_none_of X G z2
    n_bool := PySem.W.mg_none_of X G z3
    n_int := PySem.W.mg_none_of X G z4
    n_isinstance := PySem.W.mg_none_of X G z5
    n_len := PySem.W.mg_none_of X G z6
    n_list := PySem.W.mg_none_of X G z7
    n_max := PySem.W.mg_none_of X G z8
    n_min := PySem.W.mg_none_of X G z9
    n_range := PySem.W.mg_none_of X G z10
    n_repr := PySem.W.mg_none_of X G z11
    n_set := PySem.W.mg_none_of X G z12
    n_sorted := PySem.W.mg_none_of X G z13
    n_tuple := PySem.W.mg_none_of X G z14
    n_zip := PySem.W.mg_none_of X G z15
    g_MOST_STATES := ⟨_, .int 5, PySem.W.mg_of X G g0, ⟨_, rfl⟩, fun _ _ => .int _⟩
    g_INPUTS := ⟨_, q1, PySem.W.mg_of X G g1, rfl, fun _ => .inr ⟨_, _, _, h1, rfl, rfl, Nat.le_trans (show 2 ≤ 16777216 by decide) (Nat.le_of_eq sizeLine_eq.symm), (.cons ⟨_, rfl⟩ (.cons ⟨_, rfl⟩ .nil))⟩⟩
    x_m := ⟨PySem.W.mg_of X G xg, xq, xk, fun {Y} e => raises_own (by rw [e]; exact xb) (by rw [e]; exact xt), fun y cls d H q => by cases y <;> (obtain ⟨rfl, _⟩ := q; exact exm_own xb xi xt xs)⟩
  }
  exact ⟨_, s_law, _, _, m_law, T.d_law.fn, sc_law, fun s v => .of_eq rfl, body_law T, ans⟩
end Lw

open PySem PySem.W PyProof.Rows
set_option maxRecDepth 100000 in
set_option maxHeartbeats 0 in
theorem PySem.Challenge.cw_boxkinds_k53_whole_partitions_that_are_k_holds : PySem.Challenge.rw_boxkinds_k53_whole_partitions_that_are_k.Holds := by
  w_on; o_law; k_head; (case hw => w_witness2)
  k_fill
  refine DL.walk_law (l := PySem.Challenge.rw_boxkinds_k53_whole_partitions_that_are_k) (k := 8) rfl rfl ⟨rfl, by decide, by decide⟩ (fun w h Y => PySem.W.kIn_of Y) ?F
  case F =>
    intro w mg fa h KX G hmg
    refine' Lw.all_mk Lw.ans KX G hmg ?va0 ?vl0 ?vc0 ?vk0 ?va1 ?vl1 ?vc1 ?vk1 ?va2 ?vl2 ?vc2 ?vk2 ?va3 ?vl3 ?vc3 ?vk3 ?va4 ?vl4 ?vc4 ?vk4 ?va5 ?vl5 ?vc5 ?vk5 ?va6 ?vl6 ?vc6 ?vk6 ?va7 ?vl7 ?vc7 ?vk7 ?va8 ?vl8 ?vc8 ?vk8 ?va9 ?vl9 ?vc9 ?vk9 ?va10 ?vl10 ?vc10 ?vk10 ?va11 ?vl11 ?vc11 ?vk11 ?va12 ?vl12 ?vc12 ?vk12 ?va13 ?vl13 ?vc13 ?vk13 ?va14 ?vl14 ?vc14 ?vk14 ?va15 ?vl15 ?vc15 ?vk15 ?va16 ?vl16 ?vc16 ?vk16 ?va17 ?vl17 ?vc17 ?vk17 ?va18 ?vl18 ?vc18 ?vk18 ?va19 ?vl19 ?vc19 ?vk19 ?va20 ?vl20 ?vc20 ?vk20 ?va21 ?vl21 ?vc21 ?vk21 ?va22 ?vl22 ?vc22 ?vk22 ?va23 ?vl23 ?vc23 ?vk23 ?va24 ?vl24 ?vc24 ?vk24 ?va25 ?vl25 ?vc25 ?vk25 ?va26 ?vl26 ?vc26 ?vk26 ?vz0 ?vz1 ?vz2 ?vz3 ?vz4 ?vz5 ?vz6 ?vz7 ?vz8 ?vz9 ?vz10 ?vz11 ?vz12 ?vz13 ?vz14 ?vz15 ?vg0 ?vg1 ?vh1 ?vxg ?vxq ?vxk ?vxb ?vxt ?vxi ?vxs
    (case va0 => k_is)
    (case vl0 => k_is)
    (case vc0 => k_is)
    (case vk0 => k_is)
    (case va1 => k_is)
    (case vl1 => k_is)
    (case vc1 => k_is)
    (case vk1 => k_is)
    (case va2 => k_is)
    (case vl2 => k_is)
    (case vc2 => k_is)
    (case vk2 => k_is)
    (case va3 => k_is)
    (case vl3 => k_is)
    (case vc3 => k_is)
    (case vk3 => k_is)
    (case va4 => k_is)
    (case vl4 => k_is)
    (case vc4 => k_is)
    (case vk4 => k_is)
    (case va5 => k_is)
    (case vl5 => k_is)
    (case vc5 => k_is)
    (case vk5 => k_is)
    (case va6 => k_is)
    (case vl6 => k_is)
    (case vc6 => k_is)
    (case vk6 => k_is)
    (case va7 => k_is)
    (case vl7 => k_is)
    (case vc7 => k_is)
    (case vk7 => k_is)
    (case va8 => k_is)
    (case vl8 => k_is)
    (case vc8 => k_is)
    (case vk8 => k_is)
    (case va9 => k_is)
    (case vl9 => k_is)
    (case vc9 => k_is)
    (case vk9 => k_is)
    (case va10 => k_is)
    (case vl10 => k_is)
    (case vc10 => k_is)
    (case vk10 => k_is)
    (case va11 => k_is)
    (case vl11 => k_is)
    (case vc11 => k_is)
    (case vk11 => k_is)
    (case va12 => k_is)
    (case vl12 => k_is)
    (case vc12 => k_is)
    (case vk12 => k_is)
    (case va13 => k_is)
    (case vl13 => k_is)
    (case vc13 => k_is)
    (case vk13 => k_is)
    (case va14 => k_is)
    (case vl14 => k_is)
    (case vc14 => k_is)
    (case vk14 => k_is)
    (case va15 => k_is)
    (case vl15 => k_is)
    (case vc15 => k_is)
    (case vk15 => k_is)
    (case va16 => k_is)
    (case vl16 => k_is)
    (case vc16 => k_is)
    (case vk16 => k_is)
    (case va17 => k_is)
    (case vl17 => k_is)
    (case vc17 => k_is)
    (case vk17 => k_is)
    (case va18 => k_is)
    (case vl18 => k_is)
    (case vc18 => k_is)
    (case vk18 => k_is)
    (case va19 => k_is)
    (case vl19 => k_is)
    (case vc19 => k_is)
    (case vk19 => k_is)
    (case va20 => k_is)
    (case vl20 => k_is)
    (case vc20 => k_is)
    (case vk20 => k_is)
    (case va21 => k_is)
    (case vl21 => k_is)
    (case vc21 => k_is)
    (case vk21 => k_is)
    (case va22 => k_is)
    (case vl22 => k_is)
    (case vc22 => k_is)
    (case vk22 => k_is)
    (case va23 => k_is)
    (case vl23 => k_is)
    (case vc23 => k_is)
    (case vk23 => k_is)
    (case va24 => k_is)
    (case vl24 => k_is)
    (case vc24 => k_is)
    (case vk24 => k_is)
    (case va25 => k_is)
    (case vl25 => k_is)
    (case vc25 => k_is)
    (case vk25 => k_is)
    (case va26 => k_is)
    (case vl26 => k_is)
    (case vc26 => k_is)
    (case vk26 => k_is)
    (case vz0 => k_is)
    (case vz1 => k_is)
    (case vz2 => k_is)
    (case vz3 => k_is)
    (case vz4 => k_is)
    (case vz5 => k_is)
    (case vz6 => k_is)
    (case vz7 => k_is)
    (case vz8 => k_is)
    (case vz9 => k_is)
    (case vz10 => k_is)
    (case vz11 => k_is)
    (case vz12 => k_is)
    (case vz13 => k_is)
    (case vz14 => k_is)
    (case vz15 => k_is)
    (case vg0 => k_is)
    (case vg1 => k_is)
    (case vh1 => k_is)
    (case vxg => k_is)
    (case vxq => k_exc)
    (case vxk => k_is)
    (case vxb => k_is)
    (case vxt => k_is)
    (case vxi => k_is)
    (case vxs => k_is)
