import PyProof.Rows.All
import HandS.ForMost
import HandS.ForExc
import HandS.Deep
import HandS.IsInst
import HandS.TupAny
import HandS.Conv
import HandS.TupMul
import HandS.SortInts
import PyProof.P3In
import KE.SortData
import HandS.SetFor
import HandS.Strs
import PyProof.ReprRoads
import KE.KDictDisplayH
import KE.KDictKeyed
import HandS.TupSets
import HandS.Zip
import KE.KDictZip
import HandS.ExcValue
import PyProof.WalkInts
import HandS.More
import KE.KeyNested
import PyProof.TupleOfSeq
import PySem.Challenge.RW_boxkinds_k66_rules_with_one_ring
set_option Elab.async false
set_option linter.all false
set_option maxRecDepth 100000

/-! DL1: the data layer: deep data in the heap, a frame's state, readings by meaning. -/
namespace DL
open PySem PySem.Spec L2
open PyProof.Rows hiding St

/-! ### data in the heap -/
mutual
inductive Df (K : PySem.W.Frag) (H : Hp) (g : Addr → Prop) : V → PyData → Prop
  | non : Df K H g .non .none
  | bl (b : Bool) : Df K H g (.bl b) (.bool b)
  | int (i : Int) : Df K H g (.int i) (.int i)
  | str (x : Str) : Df K H g (.str x) (.str x)
  | lst {a : Addr} {xs : List V} {ds : List PyData} : g a → H a = some (.lst xs) → xs.length ≤ sizeLine → DfAll K H g xs ds → Df K H g (.ref a) (.list ds)
  | tup {a : Addr} {xs : List V} {ds : List PyData} : H a = some (.tup xs) → xs.length ≤ sizeLine → DfAll K H g xs ds → Df K H g (.ref a) (.tuple ds)
inductive DfAll (K : PySem.W.Frag) (H : Hp) (g : Addr → Prop) : List V → List PyData → Prop
  | nil : DfAll K H g [] []
  | cons {v : V} {vs : List V} {d : PyData} {ds : List PyData} : Df K H g v d → DfAll K H g vs ds → DfAll K H g (v :: vs) (d :: ds)
end

section
variable {K : PySem.W.Frag} {H H' : Hp} {g g' : Addr → Prop}
theorem DfAll.length {g : Addr → Prop} : ∀ {vs : List V} {ds : List PyData}, DfAll K H g vs ds → vs.length = ds.length
  | _, _, .nil => rfl
  | _, _, .cons _ t => by rw [List.length_cons, List.length_cons, DfAll.length t]
mutual
theorem Df.mono (hl : ∀ a u, g a → H a = some (.lst u) → g' a ∧ H' a = some (.lst u)) (ht : ∀ a u, H a = some (.tup u) → H' a = some (.tup u)) : ∀ {d : PyData} {v : V}, Df K H g v d → Df K H' g' v d
  | _, _, .non => .non
  | _, _, .bl b => .bl b
  | _, _, .int i => .int i
  | _, _, .str x => .str x
  | _, _, .lst h1 h2 h3 h4 => .lst (hl _ _ h1 h2).1 (hl _ _ h1 h2).2 h3 (DfAll.mono hl ht h4)
  | _, _, .tup h1 h2 h3 => .tup (ht _ _ h1) h2 (DfAll.mono hl ht h3)
theorem DfAll.mono (hl : ∀ a u, g a → H a = some (.lst u) → g' a ∧ H' a = some (.lst u)) (ht : ∀ a u, H a = some (.tup u) → H' a = some (.tup u)) : ∀ {ds : List PyData} {vs : List V}, DfAll K H g vs ds → DfAll K H' g' vs ds
  | _, _, .nil => .nil
  | _, _, .cons h1 h2 => .cons (Df.mono hl ht h1) (DfAll.mono hl ht h2)
end
mutual
theorem Df.dp : ∀ {d : PyData} {v : V}, Df K H g v d → Dp K H v d
  | _, _, .non => .non
  | _, _, .bl b => .bl b
  | _, _, .int i => .int i
  | _, _, .str x => .str x
  | _, _, .lst _ h2 _ h4 => .lst (.inl (.inl h2)) (DfAll.dp h4)
  | _, _, .tup h1 _ h3 => .tup (.inl (.inl h1)) (DfAll.dp h3)
theorem DfAll.dp : ∀ {ds : List PyData} {vs : List V}, DfAll K H g vs ds → DpAll K H vs ds
  | _, _, .nil => .nil
  | _, _, .cons h1 h2 => .cons (Df.dp h1) (DfAll.dp h2)
end
theorem Df.avoid {p : Addr} (h : H p = none) {v : V} {d : PyData} (x : Df K H g v d) : Df K H (fun a => g a ∧ a ≠ p) v d := x.mono (fun a u q e => ⟨⟨q, ne_of_none e h⟩, e⟩) fun _ _ q => q
theorem DfAll.avoid {p : Addr} (h : H p = none) {v : List V} {d : List PyData} (x : DfAll K H g v d) : DfAll K H (fun a => g a ∧ a ≠ p) v d := x.mono (fun a u q e => ⟨⟨q, ne_of_none e h⟩, e⟩) fun _ _ q => q
theorem DfAll.unavoid {p : Addr} {v : List V} {d : List PyData} (x : DfAll K H (fun a => g a ∧ a ≠ p) v d) : DfAll K H g v d := x.mono (fun a u q e => ⟨q.1, e⟩) fun _ _ q => q
theorem DfAll.get : ∀ {vs : List V} {ds : List PyData} {i : Nat} {d : PyData}, DfAll K H g vs ds → ds[i]? = some d → ∃ v, vs[i]? = some v ∧ Df K H g v d
  | _, _, _, _, .nil, e => by simp at e
  | _, _, 0, _, .cons h _, e => by simp at e; subst e; exact ⟨_, rfl, h⟩
  | _, _, i + 1, d, .cons _ t, e => by
    obtain ⟨v, h1, h2⟩ := DfAll.get (i := i) (d := d) t (by simpa using e)
    exact ⟨v, by simpa using h1, h2⟩
theorem DfAll.getV : ∀ {vs : List V} {ds : List PyData} {i : Nat} {v : V}, DfAll K H g vs ds → vs[i]? = some v → ∃ d, ds[i]? = some d ∧ Df K H g v d
  | _, _, _, _, .nil, e => by simp at e
  | _, _, 0, _, .cons h _, e => by simp at e; subst e; exact ⟨_, rfl, h⟩
  | _, _, i + 1, d, .cons _ t, e => by
    obtain ⟨v, h1, h2⟩ := DfAll.getV (i := i) (v := d) t (by simpa using e)
    exact ⟨v, by simpa using h1, h2⟩
theorem DfAll.append : ∀ {vs us : List V} {ds es : List PyData}, DfAll K H g vs ds → DfAll K H g us es → DfAll K H g (vs ++ us) (ds ++ es)
  | _, _, _, _, .nil, s => s
  | _, _, _, _, .cons h t, s => .cons h (DfAll.append t s)
theorem DfAll.take : ∀ {vs : List V} {ds : List PyData} (n : Nat), DfAll K H g vs ds → DfAll K H g (vs.take n) (ds.take n)
  | _, _, 0, _ => .nil
  | _, _, _ + 1, .nil => .nil
  | _, _, n + 1, .cons h t => .cons h (DfAll.take n t)
theorem DfAll.drop : ∀ {vs : List V} {ds : List PyData} (n : Nat), DfAll K H g vs ds → DfAll K H g (vs.drop n) (ds.drop n)
  | _, _, 0, h => h
  | _, _, _ + 1, .nil => .nil
  | _, _, n + 1, .cons _ t => DfAll.drop n t
theorem DfAll.set : ∀ {vs : List V} {ds : List PyData} {v : V} {d : PyData} (n : Nat), DfAll K H g vs ds → Df K H g v d → DfAll K H g (vs.set n v) (ds.set n d)
  | _, _, _, _, _, .nil, _ => .nil
  | _, _, _, _, 0, .cons _ t, h => .cons h t
  | _, _, _, _, n + 1, .cons h t, q => .cons h (DfAll.set n t q)
theorem DfAll.of_ints : ∀ ns : List Int, DfAll K H g (ns.map V.int) (ns.map PyData.int)
  | [] => .nil
  | n :: r => .cons (.int n) (DfAll.of_ints r)
theorem DfAll.ints_inv : ∀ {ns : List Int} {vs : List V}, DfAll K H g vs (ns.map PyData.int) → vs = ns.map V.int
  | [], _, .nil => rfl
  | n :: r, _, .cons (.int _) t => by rw [DfAll.ints_inv t]; rfl
theorem DfAll.bls_inv : ∀ {ns : List Bool} {vs : List V}, DfAll K H g vs (ns.map PyData.bool) → vs = ns.map V.bl
  | [], _, .nil => rfl
  | n :: r, _, .cons (.bl _) t => by rw [DfAll.bls_inv t]; rfl
end

/-! ### the state of a def that runs -/
/-- the errors of the program -/
inductive Exn where
  | malformed
  | refused (r : Str)
  | noText (at_ : Int)
/-- what stands in a slot: nothing told, data, a list of one's own, one that is walked, the draw -/
inductive Sl where
  | un
  | d (x : PyData)
  | l (xs : List PyData)
  | lk (xs : List PyData)
  | dc (t : Bool) (kvs : List (List Int × PyData))
  | drw
  | scr (ns : List Int)
/-- the draw: the cells, then the place, the cell that is used up, the seed -/
structure DSt where
  cells : List Int
  place : Int
  cur : Int
  seed : Int
abbrev DS := Option DSt
inductive Out (α : Type) where
  | ok (a : α)
  | exc (x : Exn)
abbrev Ev := List Sl
abbrev Rz (α : Type) := Option (Out α × DS)
abbrev ME (α : Type) := Ev → DS → Rz α
def Rz.bind {α β : Type} (a : Rz α) (f : α → DS → Rz β) : Rz β :=
  match a with
  | some (.ok x, ds) => f x ds
  | some (.exc e, ds) => some (.exc e, ds)
  | none => none
def ME.bind {α β : Type} (a : ME α) (f : α → ME β) : ME β := fun env ds => (a env ds).bind fun x ds' => f x env ds'
def ME.pure {α : Type} (x : α) : ME α := fun _ ds => some (.ok x, ds)
def ME.lift {α : Type} (x : Option α) : ME α := fun _ ds => match x with
  | some a => some (.ok a, ds)
  | none => none

/-- the addresses of the errors' classes -/
structure Exs where
  m : Addr
  r : Addr
  n : Addr
def ExR (C : Exs) (x : Exn) (cls : Value) (d : Option Addr) (H : Hp) : Prop :=
  match x with
  | .malformed => cls = .ref C.m ∧ d = none
  | .refused r => cls = .ref C.r ∧ ∃ a, d = some a ∧ H a = some (.xd [("reason", .str r)])
  | .noText i => cls = .ref C.n ∧ ∃ a, d = some a ∧ H a = some (.xd [("at", .int i)])

/-- a frame's fixed things: the good addresses, the heap at the entry, the draw's list and that of its cells, the slots whose lists are walked -/
structure Gm where
  ok : Addr → Prop
  H0 : Hp
  dr : Option (Addr × Addr)
  lk : List (Nat × Addr)
def Gm.nd (Γ : Gm) (a : Addr) : Prop := ∀ p, Γ.dr = some p → a ≠ p.1
def Sl.own : Sl → Bool
  | .l _ => true
  | .lk _ => true
  | .dc _ _ => true
  | _ => false
def owned (σ : St) (env : Ev) (a : Addr) : Prop := ∃ (i : Nat) (x : Sl), env[i]? = some x ∧ x.own = true ∧ σ[i]? = some (some (V.ref a))
def gd (Γ : Gm) (σ : St) (env : Ev) (a : Addr) : Prop := Γ.ok a ∧ ¬ owned σ env a ∧ Γ.nd a
/-- all but the draw is as it was -/
def Ext (Γ : Gm) (H H' : Hp) : Prop := ∀ a o, Γ.nd a → H a = some o → H' a = some o
def DrR (K : PySem.W.Frag) (Γ : Gm) (H : Hp) (ds : DS) : Prop :=
  match Γ.dr, ds with
  | none, none => True
  | some p, some s => H p.1 = some (.lst [.ref p.2, .int s.place, .int s.cur, .int s.seed]) ∧ H p.2 = some (.lst (s.cells.map V.int)) ∧ s.cells.length ≤ sizeLine ∧ p.2 ≠ p.1 ∧ Γ.ok p.2
  | _, _ => False
/-- the script stands at a -/
def ScrAt (K : PySem.W.Frag) (H : Hp) (a : Addr) (xs : List V) : Prop :=
  (∃ o, H a = some (.frz o (.lst xs))) ∨ ∃ (o : Obj) (its : Array Value) (n : Nat), K.lookup a = some o ∧ o.cls = .type "list" ∧ o.dict = none ∧ o.data = .seq its n ∧ its.size ≤ sizeLine ∧ Vals xs its.toList
theorem ScrAt.sq {K : PySem.W.Frag} {H : Hp} {a : Addr} {xs : List V} (h : ScrAt K H a xs) : SqL K H a xs := by
  rcases h with ⟨o, h⟩ | h
  · exact .inl (.inr ⟨o, h⟩)
  · exact .inr h
/-- a dict as an object: t: its keys are tuples of ints; else ints -/
def dcObj (t : Bool) (ks : List (List Int)) (us : List V) : HO := if t then .dT ((ks.map fun k => k.map Sum.inl).zip us) else .dK ((ks.map fun k => Sum.inl (k.headD 0)).zip us)
/-- what may change -/
def MutO (o : HO) : Prop := (∃ xs, o = .lst xs) ∨ ∃ t ks us, o = dcObj t ks us
theorem imm_tup {xs : List V} : ¬ MutO (.tup xs) := by
  rintro (⟨_, z⟩ | ⟨t, _, _, z⟩)
  · cases z
  · cases t <;> cases z
theorem imm_frz {o : Obj} {u : HO} : ¬ MutO (.frz o u) := by
  rintro (⟨_, z⟩ | ⟨t, _, _, z⟩)
  · cases z
  · cases t <;> cases z
def SlR (K : PySem.W.Frag) (Γ : Gm) (H : Hp) (g : Addr → Prop) (v : Option (Option V)) : Sl → Prop
  | .un => True
  | .d x => ∃ u, v = some (some u) ∧ Df K H g u x
  | .l xs => ∃ a us, v = some (some (.ref a)) ∧ H a = some (.lst us) ∧ DfAll K H g us xs ∧ us.length ≤ sizeLine ∧ Γ.H0 a = none ∧ Γ.nd a
  | .lk xs => ∃ a us, v = some (some (.ref a)) ∧ H a = some (.lst us) ∧ DfAll K H g us xs ∧ us.length ≤ sizeLine ∧ Γ.H0 a = none ∧ Γ.nd a
  | .dc t kvs => ∃ a us, v = some (some (.ref a)) ∧ H a = some (dcObj t (kvs.map (·.1)) us) ∧ DfAll K H g us (kvs.map (·.2)) ∧ kvs.length ≤ 1000000 ∧ Γ.H0 a = none ∧ Γ.nd a
  | .drw => ∃ p, Γ.dr = some p ∧ v = some (some (.ref p.1))
  | .scr ns => ∃ a, v = some (some (.ref a)) ∧ ScrAt K H a (ns.map V.int) ∧ ns.length ≤ 63
structure Rel (K : PySem.W.Frag) (Γ : Gm) (σ : St) (H : Hp) (env : Ev) (ds : DS) : Prop where
  len : σ.length = env.length
  slot : ∀ (i : Nat) (x : Sl), env[i]? = some x → SlR K Γ H (gd Γ σ env) σ[i]? x
  sep : ∀ (i j : Nat) (x y : Sl), i ≠ j → env[i]? = some x → env[j]? = some y → x.own = true → y.own = true → σ[i]? ≠ σ[j]?
  okf : ∀ a, Γ.H0 a = none → Γ.ok a
  ext : Ext Γ Γ.H0 H
  draw : DrR K Γ H ds
  drc : ∀ p, Γ.dr = some p → ¬ owned σ env p.2
  lkd : ∀ p ∈ Γ.lk, ∃ xs, env[p.1]? = some (.lk xs) ∧ σ[p.1]? = some (some (V.ref p.2))

section
variable {K : PySem.W.Frag} {Γ : Gm} {σ : St} {H H1 H2 : Hp} {env : Ev} {ds ds' : DS}
theorem Ext.refl : Ext Γ H H := fun _ _ _ h => h
theorem Ext.trans (a : Ext Γ H H1) (b : Ext Γ H1 H2) : Ext Γ H H2 := fun c o n h => b c o n (a c o n h)
theorem DrR.tracked (h : DrR K Γ H ds) {p : Addr × Addr} (e : Γ.dr = some p) : H p.1 ≠ none := by
  unfold DrR at h
  rw [e] at h
  cases ds with
  | none => exact h.elim
  | some s => intro z; rw [h.1] at z; cases z
theorem Rel.own_at (R : Rel K Γ σ H env ds) {a : Addr} (h : owned σ env a) : ∃ o, H a = some o ∧ MutO o ∧ Γ.H0 a = none ∧ Γ.nd a := by
  obtain ⟨i, x, hx, ho, hs⟩ := h
  have q := R.slot i x hx
  cases x with
  | l xs =>
    obtain ⟨b, us, e, h1, _, _, h2, h3⟩ := q
    rw [hs] at e
    cases e
    exact ⟨_, h1, .inl ⟨_, rfl⟩, h2, h3⟩
  | lk xs =>
    obtain ⟨b, us, e, h1, _, _, h2, h3⟩ := q
    rw [hs] at e
    cases e
    exact ⟨_, h1, .inl ⟨_, rfl⟩, h2, h3⟩
  | dc t kvs =>
    obtain ⟨b, us, e, h1, _, _, h2, h3⟩ := q
    rw [hs] at e
    cases e
    exact ⟨_, h1, .inr ⟨_, _, _, rfl⟩, h2, h3⟩
  | un => cases ho
  | d x => cases ho
  | drw => cases ho
  | scr ns => cases ho
/-- a new address is good -/
theorem Rel.new_gd (R : Rel K Γ σ H env ds) {a : Addr} (h : H a = none) : gd Γ σ env a := by
  have n : Γ.nd a := fun p e z => R.draw.tracked e (by rw [← z]; exact h)
  refine ⟨R.okf a ?_, fun o => ?_, n⟩
  · cases q : Γ.H0 a with
    | none => rfl
    | some o =>
      have := R.ext a o n q
      rw [h] at this
      cases this
  · obtain ⟨us, e, _⟩ := R.own_at o
    rw [h] at e
    cases e
theorem tup_ext (e : Ext Γ H H1) (d : DrR K Γ H ds) {a : Addr} {u : List V} (h : H a = some (.tup u)) : H1 a = some (.tup u) := by
  refine e _ _ (fun p z q => ?_) h
  unfold DrR at d
  rw [z] at d
  cases ds with
  | none => exact d.elim
  | some s =>
    have := d.1
    rw [← q, h] at this
    cases this
theorem sqT_ext (e : Ext Γ H H1) (d : DrR K Γ H ds) {a : Addr} {u : List V} (h : SqT K H a u) : SqT K H1 a u := by
  rcases h with (h | ⟨o, h⟩) | h
  · refine .inl (.inl (e _ _ (fun p z q => ?_) h))
    unfold DrR at d
    rw [z] at d
    cases ds with
    | none => exact d.elim
    | some s =>
      have := d.1
      rw [← q, h] at this
      cases this
  · refine .inl (.inr ⟨o, e _ _ (fun p z q => ?_) h⟩)
    unfold DrR at d
    rw [z] at d
    cases ds with
    | none => exact d.elim
    | some s =>
      have := d.1
      rw [← q, h] at this
      cases this
  · exact .inr h
theorem frz_ext (e : Ext Γ H H1) (d : DrR K Γ H ds) {a : Addr} {o : Obj} {u : HO} (h : H a = some (.frz o u)) : H1 a = some (.frz o u) := by
  refine e _ _ (fun p z q => ?_) h
  unfold DrR at d
  rw [z] at d
  cases ds with
  | none => exact d.elim
  | some s =>
    have := d.1
    rw [← q, h] at this
    cases this
theorem scr_ext (e : Ext Γ H H1) (d : DrR K Γ H ds) {a : Addr} {xs : List V} (h : ScrAt K H a xs) : ScrAt K H1 a xs := by
  rcases h with ⟨o, h⟩ | h
  · exact .inl ⟨o, frz_ext e d h⟩
  · exact .inr h
theorem Df.ext (e : Ext Γ H H1) (dr : DrR K Γ H ds) {v : V} {d : PyData} (h : Df K H (gd Γ σ env) v d) : Df K H1 (gd Γ σ env) v d :=
  h.mono (fun _ _ q r => ⟨q, e _ _ q.2.2 r⟩) fun _ _ q => tup_ext e dr q
theorem DfAll.ext (e : Ext Γ H H1) (dr : DrR K Γ H ds) {v : List V} {d : List PyData} (h : DfAll K H (gd Γ σ env) v d) : DfAll K H1 (gd Γ σ env) v d :=
  h.mono (fun _ _ q r => ⟨q, e _ _ q.2.2 r⟩) fun _ _ q => tup_ext e dr q
theorem Rel.go (R : Rel K Γ σ H env ds) (e : Ext Γ H H1) (d : DrR K Γ H1 ds') : Rel K Γ σ H1 env ds' where
  len := R.len
  slot := fun i x hx => by
    have q := R.slot i x hx
    cases x with
    | un => trivial
    | d y =>
      obtain ⟨u, e1, e2⟩ := q
      exact ⟨u, e1, e2.ext e R.draw⟩
    | l xs =>
      obtain ⟨a, us, e1, e2, e3, e4, e5, e6⟩ := q
      exact ⟨a, us, e1, e a _ e6 e2, e3.ext e R.draw, e4, e5, e6⟩
    | lk xs =>
      obtain ⟨a, us, e1, e2, e3, e4, e5, e6⟩ := q
      exact ⟨a, us, e1, e a _ e6 e2, e3.ext e R.draw, e4, e5, e6⟩
    | dc t0 xs =>
      obtain ⟨a, us, e1, e2, e3, e4, e5, e6⟩ := q
      exact ⟨a, us, e1, e a _ e6 e2, e3.ext e R.draw, e4, e5, e6⟩
    | drw => exact q
    | scr ns =>
      obtain ⟨a, e1, e2, e3⟩ := q
      exact ⟨a, e1, scr_ext e R.draw e2, e3⟩
  sep := R.sep
  okf := R.okf
  ext := R.ext.trans e
  draw := d
  drc := R.drc
  lkd := R.lkd
/-- a new object laid -/
theorem ext_new {p : Addr} {o : HO} (h : H p = none) : Ext Γ H (upd H p o) := fun a u _ q => by
  rw [upd_ne (ne_of_none q h)]
  exact q
theorem DrR.new {p : Addr} {o : HO} (d : DrR K Γ H ds) (h : H p = none) : DrR K Γ (upd H p o) ds := by
  unfold DrR at d ⊢
  cases e : Γ.dr with
  | none =>
    rw [e] at d
    cases ds with
    | none => trivial
    | some s => exact d
  | some q =>
    rw [e] at d
    cases ds with
    | none => exact d
    | some s =>
      obtain ⟨d1, d2, d3⟩ := d
      refine ⟨?_, ?_, d3⟩
      · rw [upd_ne (ne_of_none d1 h)]; exact d1
      · rw [upd_ne (ne_of_none d2 h)]; exact d2
end

/-! ### readings by meaning -/
def Aft (K : PySem.W.Frag) (C : Exs) (W : WX) (Γ : Gm) (σ : St) (H : Hp) {α : Type} (r : Rz α) (P : α → DS → Hp → Prop) : Prop :=
  match r with
  | some (.ok a, ds') => ∀ H', Ext Γ H H' → DrR K Γ H' ds' → P a ds' H'
  | some (.exc x, ds') => ∀ cls d H', Ext Γ H H' → DrR K Γ H' ds' → ExR C x cls d H' → W cls d σ H'
  | none => False
section
variable {K : PySem.W.Frag} {C : Exs} {W : WX} {Γ : Gm} {σ : St} {H H1 : Hp} {α β : Type}
theorem Aft.bind {r : Rz α} {f : α → DS → Rz β} {P : β → DS → Hp → Prop} (h : Aft K C W Γ σ H (r.bind f) P) : Aft K C W Γ σ H r fun a ds1 H1 => Aft K C W Γ σ H1 (f a ds1) P := by
  unfold Rz.bind at h
  unfold Aft at h ⊢
  rcases r with _ | ⟨a | x, ds⟩
  · exact h
  · intro H1 e1 d1
    dsimp only at h ⊢
    revert h
    rcases f a ds with _ | ⟨b | y, ds2⟩
    · exact fun h => h
    · exact fun h H2 e2 d2 => h H2 (e1.trans e2) d2
    · exact fun h cls d H2 e2 d2 => h cls d H2 (e1.trans e2) d2
  · exact h
theorem Aft.imp {r : Rz α} {P P' : α → DS → Hp → Prop} (h : Aft K C W Γ σ H r P) (f : ∀ a ds1 H1, Ext Γ H H1 → DrR K Γ H1 ds1 → P a ds1 H1 → P' a ds1 H1) : Aft K C W Γ σ H r P' := by
  unfold Aft at h ⊢
  rcases r with _ | ⟨a | x, ds⟩
  · exact h
  · exact fun H1 e1 d1 => f a ds H1 e1 d1 (h H1 e1 d1)
  · exact h
theorem Aft.here {a : α} {ds : DS} {P : α → DS → Hp → Prop} (h : Aft K C W Γ σ H (some (.ok a, ds)) P) (d : DrR K Γ H ds) : P a ds H := h H Ext.refl d
end
/-- a manner of data: what is known of a value behind an expression -/
abbrev Md := PySem.W.Frag → Gm → St → Ev → Hp → V → PyData → Prop
def MD : Md := fun K Γ σ env H v d => Df K H (gd Γ σ env) v d
/-- data whose outermost list may be one's own -/
def MP : Md := fun K Γ σ env H v d =>
  Df K H (gd Γ σ env) v d ∨ ∃ a xs ds, v = .ref a ∧ d = .list ds ∧ H a = some (.lst xs) ∧ Γ.nd a ∧ xs.length ≤ sizeLine ∧ DfAll K H (gd Γ σ env) xs ds
/-- the reading of an expression that gives data -/
def rdG (M : Md) (K : PySem.W.Frag) (C : Exs) (W : WX) (m : ME PyData) : TE := fun σ H Q => ∃ Γ env ds, Rel K Γ σ H env ds ∧
  Aft K C W Γ σ H (m env ds) fun d _ H' => ∀ v, M K Γ σ env H' v d → Q v H'
/-- the good addresses but one -/
def gdx (Γ : Gm) (σ : St) (env : Ev) (p a : Addr) : Prop := gd Γ σ env a ∧ a ≠ p
/-- a new list -/
def rdF (K : PySem.W.Frag) (C : Exs) (W : WX) (m : ME (List PyData)) : TE := fun σ H Q => ∃ Γ env ds, Rel K Γ σ H env ds ∧
  Aft K C W Γ σ H (m env ds) fun xs _ H' => ∀ a us, H a = none → H' a = some (.lst us) → us.length ≤ sizeLine → DfAll K H' (gdx Γ σ env a) us xs → Q (.ref a) H'
/-- a test -/
def rdT (K : PySem.W.Frag) (C : Exs) (W : WX) (m : ME Bool) : TT := fun σ H Q => ∃ Γ env ds, Rel K Γ σ H env ds ∧
  Aft K C W Γ σ H (m env ds) fun b _ H' => Q b H'
/-- arguments -/
def rdA (K : PySem.W.Frag) (C : Exs) (W : WX) (m : ME (List PyData)) : TA := fun σ H Q => ∃ Γ env ds, Rel K Γ σ H env ds ∧
  Aft K C W Γ σ H (m env ds) fun xs _ H' => ∀ vs, DfAll K H' (gd Γ σ env) vs xs → Q vs H'
abbrev SE (X : Cx) (C : Exs) (W : WX) (e : Expr) (m : ME PyData) : Prop := PE X e (rdG MD X.K C W m)
abbrev SP (X : Cx) (C : Exs) (W : WX) (e : Expr) (m : ME PyData) : Prop := PE X e (rdG MP X.K C W m)
abbrev SF (X : Cx) (C : Exs) (W : WX) (e : Expr) (m : ME (List PyData)) : Prop := PE X e (rdF X.K C W m)
abbrev ST (X : Cx) (C : Exs) (W : WX) (e : Expr) (m : ME Bool) : Prop := PT X e (rdT X.K C W m)
abbrev SA (X : Cx) (C : Exs) (W : WX) (es : List Expr) (m : ME (List PyData)) : Prop := PA X es (rdA X.K C W m)
theorem PE.imp {X : Cx} {e : Expr} {t t' : TE} (h : PE X e t) (f : ∀ σ H Q, t' σ H Q → t σ H Q) : PE X e t' := ⟨fun pins s σ H Q I q => h.run pins s σ H Q I (f σ H Q q)⟩
theorem PT.imp {X : Cx} {e : Expr} {t t' : TT} (h : PT X e t) (f : ∀ σ H Q, t' σ H Q → t σ H Q) : PT X e t' := ⟨fun pins s σ H Q I q => h.run pins s σ H Q I (f σ H Q q)⟩
theorem PA.imp {X : Cx} {e : List Expr} {t t' : TA} (h : PA X e t) (f : ∀ σ H Q, t' σ H Q → t σ H Q) : PA X e t' := ⟨fun pos pins s σ H Q I q => h.run pos pins s σ H Q I (f σ H Q q)⟩
end DL

/-! DL2: expressions by their meaning. -/
namespace DL
open PySem PySem.Spec L2
open PyProof.Rows hiding St

section
variable {K : PySem.W.Frag} {Γ : Gm} {σ : St} {H H1 : Hp} {env : Ev} {ds : DS}
/-- what a manner bears -/
structure Pers (M : Md) : Prop where
  ext : ∀ {K : PySem.W.Frag} {Γ : Gm} {σ : St} {env : Ev} {H H1 : Hp} {ds : DS} {v : V} {d : PyData}, Ext Γ H H1 → DrR K Γ H ds → M K Γ σ env H v d → M K Γ σ env H1 v d
  dp : ∀ {K : PySem.W.Frag} {Γ : Gm} {σ : St} {env : Ev} {H : Hp} {v : V} {d : PyData}, M K Γ σ env H v d → Dp K H v d
  pk : ∀ {K : PySem.W.Frag} {Γ : Gm} {σ : St} {env : Ev} {H : Hp} {v : V} {d : PyData}, M K Γ σ env H v d → MP K Γ σ env H v d
theorem persD : Pers MD where
  ext := fun e d h => Df.ext e d h
  dp := fun h => Df.dp h
  pk := fun h => .inl h
theorem persP : Pers MP where
  ext := fun e d h => by
    rcases h with h | ⟨a, xs, ds, e1, e2, e3, e4, e5, e6⟩
    · exact .inl (h.ext e d)
    · exact .inr ⟨a, xs, ds, e1, e2, e _ _ e4 e3, e4, e5, e6.ext e d⟩
  dp := fun h => by
    rcases h with h | ⟨a, xs, ds, e1, e2, e3, e4, e5, e6⟩
    · exact h.dp
    · subst e1 e2
      exact .lst (.inl (.inl e3)) e6.dp
  pk := fun h => h
/-- what is known of a value of a form -/
theorem MP.list (h : MP K Γ σ env H v (.list ds')) : ∃ a xs, v = .ref a ∧ H a = some (.lst xs) ∧ xs.length ≤ sizeLine ∧ DfAll K H (gd Γ σ env) xs ds' := by
  rcases h with h | ⟨a, xs, ds, e1, e2, e3, e4, e5, e6⟩
  · cases h with
    | lst h1 h2 h3 h4 => exact ⟨_, _, rfl, h2, h3, h4⟩
  · cases e2
    exact ⟨a, xs, e1, e3, e5, e6⟩
theorem MP.tuple (h : MP K Γ σ env H v (.tuple ds')) : ∃ a xs, v = .ref a ∧ H a = some (.tup xs) ∧ xs.length ≤ sizeLine ∧ DfAll K H (gd Γ σ env) xs ds' := by
  rcases h with h | ⟨a, xs, ds, e1, e2, e3, e4, e5, e6⟩
  · cases h with
    | tup h1 h2 h3 => exact ⟨_, _, rfl, h1, h2, h3⟩
  · cases e2
theorem MP.int {i : Int} (h : MP K Γ σ env H v (.int i)) : v = .int i := by
  rcases h with h | ⟨a, xs, ds, e1, e2, e3, e4, e5, e6⟩
  · cases h; rfl
  · cases e2
theorem MP.bool {i : Bool} (h : MP K Γ σ env H v (.bool i)) : v = .bl i := by
  rcases h with h | ⟨a, xs, ds, e1, e2, e3, e4, e5, e6⟩
  · cases h; rfl
  · cases e2
theorem MP.str {i : Str} (h : MP K Γ σ env H v (.str i)) : v = .str i := by
  rcases h with h | ⟨a, xs, ds, e1, e2, e3, e4, e5, e6⟩
  · cases h; rfl
  · cases e2
theorem MP.none (h : MP K Γ σ env H v .none) : v = .non := by
  rcases h with h | ⟨a, xs, ds, e1, e2, e3, e4, e5, e6⟩
  · cases h; rfl
  · cases e2
end

/-! ### the meanings -/
def mC (d : PyData) : ME PyData := ME.pure d
def mV (i : Nat) : ME PyData := fun env ds => match env[i]? with
  | some (.d x) => some (.ok x, ds)
  | _ => none
/-- a name read in passing -/
def mVp (i : Nat) : ME PyData := fun env ds => match env[i]? with
  | some (.d x) => some (.ok x, ds)
  | some (.l xs) => some (.ok (.list xs), ds)
  | some (.lk xs) => some (.ok (.list xs), ds)
  | _ => none
def mF (a : ME (List PyData)) : ME PyData := a.bind fun xs => ME.pure (.list xs)
def mOp (f : PyData → PyData → Option PyData) (a b : ME PyData) : ME PyData := a.bind fun x => b.bind fun y => ME.lift (f x y)
def mUn (f : PyData → Option PyData) (a : ME PyData) : ME PyData := a.bind fun x => ME.lift (f x)
def mTst (a : ME PyData) : ME Bool := a.bind fun x => ME.lift (match x with | .bool b => some b | _ => none)
def mB (a : ME Bool) : ME PyData := a.bind fun b => ME.pure (.bool b)
def mAnd (a b : ME Bool) : ME Bool := a.bind fun x => if x then b else ME.pure false
def mOr (a b : ME Bool) : ME Bool := a.bind fun x => if x then ME.pure true else b
def mNot (a : ME Bool) : ME Bool := a.bind fun x => ME.pure (!x)
def mIf {α : Type} (c : ME Bool) (a b : ME α) : ME α := c.bind fun x => if x then a else b
def mNil : ME (List PyData) := ME.pure []
def mCons (a : ME PyData) (b : ME (List PyData)) : ME (List PyData) := a.bind fun x => b.bind fun xs => ME.pure (x :: xs)
def short (n : Nat) : Bool := decide (n ≤ sizeLine)
def mTup (a : ME (List PyData)) : ME PyData := a.bind fun xs => ME.lift (if short xs.length then some (.tuple xs) else none)
def mLst (a : ME (List PyData)) : ME (List PyData) := a.bind fun xs => ME.lift (if short xs.length then some xs else none)

section
variable {X : Cx} {C : Exs} {W : WX} {e a b c : Expr} {ma mb mc : ME PyData} {M M1 M2 : Md} {pos : Pos}

theorem lift_some {K : PySem.W.Frag} {C : Exs} {W : WX} {Γ : Gm} {σ : St} {H : Hp} {α : Type} {x : Option α} {env : Ev} {ds : DS} {P : α → DS → Hp → Prop} (h : Aft K C W Γ σ H (ME.lift x env ds) P) : ∃ y, x = some y ∧ ∀ H', Ext Γ H H' → DrR K Γ H' ds → P y ds H' := by
  cases x with
  | none => exact h.elim
  | some y => exact ⟨y, rfl, h⟩

theorem se_var (i : Nat) {x : Str} {pos : Pos} (hN : X.N[i]? = some x := by rfl) (hv : Vis X.env.scope x := by first | exact Or.inl rfl | exact Or.inr (Or.inl rfl) | exact Or.inr (Or.inr rfl)) (hd : (x == ("__debug__" : Str)) = false := by decide)
    (hcd : (x == ("__classdict__" : Str)) = false := by decide) : SE X C W (.Name x pos) (mV i) := by
  refine PE.imp (pe_var hN hv hd hcd) fun σ H Q ⟨Γ, env, ds, R, h⟩ => ?_
  unfold mV at h
  cases q : env[i]? with
  | none => rw [q] at h; exact h.elim
  | some x =>
    rw [q] at h
    have s := R.slot i x q
    cases x with
    | d y =>
      obtain ⟨u, e1, e2⟩ := s
      exact ⟨u, e1, Aft.here h R.draw u e2⟩
    | _ => exact h.elim
theorem sp_var (i : Nat) {x : Str} {pos : Pos} (hN : X.N[i]? = some x := by rfl) (hv : Vis X.env.scope x := by first | exact Or.inl rfl | exact Or.inr (Or.inl rfl) | exact Or.inr (Or.inr rfl)) (hd : (x == ("__debug__" : Str)) = false := by decide)
    (hcd : (x == ("__classdict__" : Str)) = false := by decide) : SP X C W (.Name x pos) (mVp i) := by
  refine PE.imp (pe_var hN hv hd hcd) fun σ H Q ⟨Γ, env, ds, R, h⟩ => ?_
  unfold mVp at h
  cases q : env[i]? with
  | none => rw [q] at h; exact h.elim
  | some x =>
    rw [q] at h
    have s := R.slot i x q
    cases x with
    | d y =>
      obtain ⟨u, e1, e2⟩ := s
      exact ⟨u, e1, Aft.here h R.draw u (.inl e2)⟩
    | l xs =>
      obtain ⟨a, us, e1, e2, e3, e4, e5, e6⟩ := s
      exact ⟨_, e1, Aft.here h R.draw _ (.inr ⟨a, us, xs, rfl, rfl, e2, e6, e4, e3⟩)⟩
    | lk xs =>
      obtain ⟨a, us, e1, e2, e3, e4, e5, e6⟩ := s
      exact ⟨_, e1, Aft.here h R.draw _ (.inr ⟨a, us, xs, rfl, rfl, e2, e6, e4, e3⟩)⟩
    | _ => exact h.elim
/-- data is data in passing -/
theorem SE.sp (h : SE X C W e ma) : SP X C W e ma := PE.imp h fun σ H Q ⟨Γ, env, ds, R, h⟩ => ⟨Γ, env, ds, R, h.imp fun d ds1 H1 _ _ q v hv => q v (.inl hv)⟩
/-- a new list is data -/
theorem SF.se {m : ME (List PyData)} (h : SF X C W e m) : SE X C W e (mF m) := PE.imp h fun σ H Q ⟨Γ, env, ds, R, h⟩ => ⟨Γ, env, ds, R, h.bind.imp fun d ds1 H1 e1 d1 q a us ha h2 h3 h4 =>
  Aft.here q d1 _ (.lst (R.new_gd ha) h2 h3 h4.unavoid)⟩
theorem se_c {v : V} {d : PyData} (h : PE X e (tC v)) (hd : ∀ H g, Df X.K H g v d) : SE X C W e (mC d) := PE.imp h fun σ H Q ⟨Γ, env, ds, R, h⟩ => Aft.here h R.draw _ (hd _ _)
theorem se_int {i : Int} {j : Nat} : SE X C W (.Constant (.int i) j pos) (mC (.int i)) := se_c pe_int fun _ _ => .int i
theorem se_bl {i : Bool} {j : Nat} : SE X C W (.Constant (.bool i) j pos) (mC (.bool i)) := se_c pe_bl fun _ _ => .bl i
theorem se_str {i : Str} {j : Nat} : SE X C W (.Constant (.str i) j pos) (mC (.str i)) := se_c pe_str fun _ _ => .str i
theorem se_non {j : Nat} : SE X C W (.Constant .none j pos) (mC .none) := se_c pe_non fun _ _ => .non
/-- a constant of the module -/
theorem se_glob {x : Str} {v : V} {u : Value} {d : PyData} (hm : X.mg x = some u) (r : RelV v u) (hd : ∀ H g, Df X.K H g v d) (hg : Gl X x := by rfl) (hdb : (x == ("__debug__" : Str)) = false := by decide) : SE X C W (.Name x pos) (mC d) := se_c (pe_glob hg hm r hdb) hd

/-! operators by what their values ask -/
def Bin (K : PySem.W.Frag) (r : R2) (f : PyData → PyData → Option PyData) : Prop :=
  ∀ (Γ : Gm) (σ : St) (H : Hp) (env : Ev) (ds : DS), Rel K Γ σ H env ds → ∀ (x y : V) (d e z : PyData), MP K Γ σ env H x d → MP K Γ σ env H y e → f d e = some z →
    ∀ Q : VK, (∀ v H', Ext Γ H H' → DrR K Γ H' ds → Df K H' (gd Γ σ env) v z → Q v H') → r x y H Q
theorem Bin.same {K : PySem.W.Frag} {r : R2} {f : PyData → PyData → Option PyData}
    (h : ∀ (Γ : Gm) (σ : St) (H : Hp) (env : Ev) (ds : DS), Rel K Γ σ H env ds → ∀ (x y : V) (d e z : PyData), MP K Γ σ env H x d → MP K Γ σ env H y e → f d e = some z → ∀ Q : VK, (∀ v, Df K H (gd Γ σ env) v z → Q v H) → r x y H Q) : Bin K r f :=
  fun Γ σ H env ds R x y d e z hx hy hf Q q => h Γ σ H env ds R x y d e z hx hy hf Q fun v hv => q v H Ext.refl R.draw hv
theorem bin_rd {K : PySem.W.Frag} {r : R2} {f : PyData → PyData → Option PyData} (hr : Bin K r f) (p1 : Pers M1) (p2 : Pers M2) {σ : St} {H : Hp} {Q : VK} (h : rdG MD K C W (mOp f ma mb) σ H Q) :
    tOp r (rdG M1 K C W ma) (rdG M2 K C W mb) σ H Q := by
  obtain ⟨Γ, env, ds, R, h⟩ := h
  refine ⟨Γ, env, ds, R, h.bind.imp fun d ds1 H1 e1 d1 q x hx => ?_⟩
  have R1 := R.go e1 d1
  refine ⟨Γ, env, ds1, R1, q.bind.imp fun e' ds2 H2 e2 d2 q y hy => ?_⟩
  obtain ⟨z, hz, q⟩ := lift_some q
  exact hr Γ σ H2 env ds2 (R1.go e2 d2) x y d e' z (p1.pk (p1.ext e2 d1 hx)) (p2.pk hy) hz Q fun v H3 e3 d3 hv => q H3 e3 d3 v hv
theorem se_op {op : Operator} {r : R2} {f : PyData → PyData → Option PyData} (ho : OpR X (binaryOp op) r) (hr : Bin X.K r f) (p1 : Pers M1) (p2 : Pers M2) (ha : PE X a (rdG M1 X.K C W ma)) (hb : PE X b (rdG M2 X.K C W mb)) : SE X C W (.BinOp a op b pos) (mOp f ma mb) :=
  PE.imp (pe_op ho ha hb) fun _ _ _ h => bin_rd hr p1 p2 h
theorem se_cmp {op : CmpOp} {r : R2} {f : PyData → PyData → Option PyData} (ho : OpR X (compareOp op) r) (hr : Bin X.K r f) (p1 : Pers M1) (p2 : Pers M2) (ha : PE X a (rdG M1 X.K C W ma)) (hb : PE X b (rdG M2 X.K C W mb)) (hm : behindInMarks op b = false) : SE X C W (.Compare a [op] [b] pos) (mOp f ma mb) :=
  PE.imp (pe_cmpR ho ha hb hm) fun _ _ _ h => bin_rd hr p1 p2 h
theorem tst_rd {K : PySem.W.Frag} {t : TE} {m : ME PyData} (ht : ∀ σ H Q, rdG MD K C W m σ H Q → t σ H Q) {σ : St} {H : Hp} {Q : Bool → Hp → Prop} (h : rdT K C W (mTst m) σ H Q) : t σ H fun x H' => ∃ k, x = .bl k ∧ Q k H' := by
  obtain ⟨Γ, env, ds, R, h⟩ := h
  refine ht σ H _ ⟨Γ, env, ds, R, h.bind.imp fun d ds1 H1 e1 d1 q x hx => ?_⟩
  obtain ⟨z, hz, q⟩ := lift_some q
  cases d with
  | bool k =>
    cases hx
    cases hz
    exact ⟨_, rfl, q H1 Ext.refl d1⟩
  | _ => cases hz
/-- a value that is True or False, as a test -/
theorem st_val (h : SE X C W e ma) (he : ∀ whole, isTrue e X.env whole = (do let v ← whole; standAt e.pos; holding [v] (truthy v)) := by intro _; rfl) : ST X C W e (mTst ma) :=
  PT.imp (pt_val h he) fun σ H Q h => by
    obtain h := tst_rd (t := rdG MD X.K C W ma) (fun _ _ _ z => z) h
    exact h
theorem st_cmp {op : CmpOp} {r : R2} {f : PyData → PyData → Option PyData} (ho : OpR X (compareOp op) r) (hr : Bin X.K r f) (p1 : Pers M1) (p2 : Pers M2) (ha : PE X a (rdG M1 X.K C W ma)) (hb : PE X b (rdG M2 X.K C W mb)) (hm : behindInMarks op b = false) : ST X C W (.Compare a [op] [b] pos) (mTst (mOp f ma mb)) :=
  PT.imp (pt_cmpR ho ha hb hm) fun _ _ _ h => tst_rd (fun _ _ _ z => bin_rd hr p1 p2 z) h
/-- a < b < c -/
def mChain (f f' : PyData → PyData → Option PyData) (a b c : ME PyData) : ME PyData := a.bind fun x => b.bind fun y => (ME.lift (f x y)).bind fun z => match z with
  | .bool true => c.bind fun u => ME.lift (f' y u)
  | .bool false => ME.pure (.bool false)
  | _ => ME.lift none
theorem chain_rd {K : PySem.W.Frag} {r r' : R2} {f f' : PyData → PyData → Option PyData} (hr : Bin K r f) (hr' : Bin K r' f') {σ : St} {H : Hp} {Q : VK} (h : rdG MD K C W (mChain f f' ma mb mc) σ H Q) :
    tChain r r' (rdG MD K C W ma) (rdG MD K C W mb) (rdG MD K C W mc) σ H Q := by
  obtain ⟨Γ, env, ds, R, h⟩ := h
  refine ⟨Γ, env, ds, R, h.bind.imp fun d ds1 H1 e1 d1 q x hx => ?_⟩
  have R1 := R.go e1 d1
  refine ⟨Γ, env, ds1, R1, q.bind.imp fun e' ds2 H2 e2 d2 q y hy => ?_⟩
  have R2 := R1.go e2 d2
  obtain ⟨z, hz, q⟩ := lift_some (Aft.bind q)
  refine hr Γ σ H2 env ds2 R2 x y d e' z (.inl (hx.ext e2 d1)) (.inl hy) hz _ fun v H3 e3 d3 hv => ?_
  have q := q H3 e3 d3
  have R3 := R2.go e3 d3
  cases z with
  | bool k =>
    cases hv
    refine ⟨k, rfl, ?_⟩
    cases k with
    | true =>
      rw [if_pos rfl]
      refine ⟨Γ, env, ds2, R3, q.bind.imp fun u ds4 H4 e4 d4 q w hw => ?_⟩
      obtain ⟨z2, hz2, q⟩ := lift_some q
      exact hr' Γ σ H4 env ds4 (R3.go e4 d4) y w e' u z2 (.inl ((hy.ext e3 d2).ext e4 d3)) (.inl hw) hz2 Q fun v H5 e5 d5 hv => q H5 e5 d5 v hv
    | false =>
      rw [if_neg Bool.false_ne_true]
      exact Aft.here q d3 _ (.bl false)
  | _ => exact q.elim
theorem se_chain {op op' : CmpOp} {r r' : R2} {f f' : PyData → PyData → Option PyData} (ho : OpR X (compareOp op) r) (ho' : OpR X (compareOp op') r') (hr : Bin X.K r f) (hr' : Bin X.K r' f') (ha : SE X C W a ma) (hb : SE X C W b mb) (hc : SE X C W c mc) (hm : lastMarks [op, op'] [b, c] = false := by with_unfolding_all rfl) : SE X C W (.Compare a [op, op'] [b, c] pos) (mChain f f' ma mb mc) :=
  PE.imp (pe_chain ho ho' ha hb hc hm) fun _ _ _ h => chain_rd hr hr' h
theorem st_chain {op op' : CmpOp} {r r' : R2} {f f' : PyData → PyData → Option PyData} (ho : OpR X (compareOp op) r) (ho' : OpR X (compareOp op') r') (hr : Bin X.K r f) (hr' : Bin X.K r' f') (ha : SE X C W a ma) (hb : SE X C W b mb) (hc : SE X C W c mc) (hm : lastMarks [op, op'] [b, c] = false := by with_unfolding_all rfl) : ST X C W (.Compare a [op, op'] [b, c] pos) (mTst (mChain f f' ma mb mc)) :=
  PT.imp (pt_chain ho ho' ha hb hc hm) fun _ _ _ h => tst_rd (fun _ _ _ z => chain_rd hr hr' z) h
end
end DL

/-! DL3: operators, displays, subscripts, slices, tests, calls of built-ins. -/
namespace DL
open PySem PySem.Spec L2
open PyProof.Rows hiding St

/-! ### what the operators give -/
def fAdd : PyData → PyData → Option PyData
  | .int i, .int j => some (.int (i + j))
  | .tuple a, .tuple b => if short (a.length + b.length) then some (.tuple (a ++ b)) else none
  | .list a, .list b => if short (a.length + b.length) then some (.list (a ++ b)) else none
  | .str a, .str b => if short (a.length + b.length) then some (.str (a ++ b)) else none
  | _, _ => none
def fSub : PyData → PyData → Option PyData
  | .int i, .int j => some (.int (i - j))
  | _, _ => none
def fMul : PyData → PyData → Option PyData
  | .int i, .int j => if decide (-(2 ^ 64) < i ∧ i < 2 ^ 64) || decide (-(2 ^ 64) < j ∧ j < 2 ^ 64) then some (.int (i * j)) else none
  | .list a, .int k => if decide (k.natAbs ≤ 1000) && decide (a.length ≤ 1000) then some (.list (List.replicate k.toNat a).flatten) else none
  | .tuple a, .int k => if !a.isEmpty && decide (2 ≤ k ∧ k ≤ 1000) && decide (a.length ≤ 1000) then some (.tuple (List.replicate k.toNat a).flatten) else none
  | _, _ => none
def fFdiv : PyData → PyData → Option PyData
  | .int i, .int j => if decide (0 < j ∧ j < 1073741824) then some (.int (i / j)) else none
  | _, _ => none
def fMod : PyData → PyData → Option PyData
  | .int i, .int j => if decide (0 < j) then some (.int (i % j)) else none
  | _, _ => none
def fShl : PyData → PyData → Option PyData
  | .int i, .int j => if decide (0 ≤ j ∧ j ≤ 1000 ∧ i.natAbs < 2 ^ 64) then some (.int (i * 2 ^ j.toNat)) else none
  | _, _ => none
def fLt : PyData → PyData → Option PyData
  | .int i, .int j => some (.bool (decide (i < j)))
  | .str i, .str j => some (.bool (decide (i.cps.toList < j.cps.toList)))
  | _, _ => none
def fLe : PyData → PyData → Option PyData
  | .int i, .int j => some (.bool (decide (i ≤ j)))
  | .str i, .str j => some (.bool (!decide (j.cps.toList < i.cps.toList)))
  | _, _ => none
def fGt : PyData → PyData → Option PyData
  | .int i, .int j => some (.bool (decide (j < i)))
  | _, _ => none
def fGe : PyData → PyData → Option PyData
  | .int i, .int j => some (.bool (decide (j ≤ i)))
  | _, _ => none
def fEq (d e : PyData) : Option PyData := if SeqAt.shaped d && SeqAt.shaped e then some (.bool (PyData.eqv d e)) else none
def fNe (d e : PyData) : Option PyData := if SeqAt.shaped d && SeqAt.shaped e then some (.bool (!PyData.eqv d e)) else none
def fIn (d e : PyData) : Option PyData := match e with
  | .list ds => if SeqAt.shaped d && SeqAt.shaped (.list ds) then some (.bool (ds.any fun z => PyData.eqv z d)) else none
  | .tuple ds => if SeqAt.shaped d && SeqAt.shaped (.tuple ds) then some (.bool (ds.any fun z => PyData.eqv z d)) else none
  | _ => none
def fNotIn (d e : PyData) : Option PyData := match e with
  | .list ds => if SeqAt.shaped d && SeqAt.shaped (.list ds) then some (.bool (!ds.any fun z => PyData.eqv z d)) else none
  | .tuple ds => if SeqAt.shaped d && SeqAt.shaped (.tuple ds) then some (.bool (!ds.any fun z => PyData.eqv z d)) else none
  | _ => none
def isNone : PyData → Bool
  | .none => true
  | _ => false
def fIs (d e : PyData) : Option PyData := match e with
  | .none => some (.bool (isNone d))
  | _ => none
def fIsNot (d e : PyData) : Option PyData := match e with
  | .none => some (.bool (!isNone d))
  | _ => none
def fIx : PyData → PyData → Option PyData
  | .tuple xs, .int i => atI xs i
  | .list xs, .int i => atI xs i
  | .str z, .int i => if short z.length then (atI z.cps.toList i).map fun c => .str ⟨#[c]⟩ else none
  | _, _ => none
def fNeg : PyData → Option PyData
  | .int i => some (.int (-i))
  | _ => none

section
variable {X : Cx} {C : Exs} {W : WX} {K : PySem.W.Frag}
/-- a new tuple, a new list of data -/
theorem new_tup {Γ : Gm} {σ : St} {H : Hp} {env : Ev} {ds : DS} {us : List V} {xs : List PyData} (R : Rel K Γ σ H env ds) (h : DfAll K H (gd Γ σ env) us xs) (hl : us.length ≤ sizeLine) {p : Addr} (hp : H p = none) :
    Ext Γ H (upd H p (.tup us)) ∧ DrR K Γ (upd H p (.tup us)) ds ∧ Df K (upd H p (.tup us)) (gd Γ σ env) (.ref p) (.tuple xs) :=
  ⟨ext_new hp, R.draw.new hp, .tup upd_same hl (h.ext (ext_new hp) R.draw)⟩
theorem new_lst {Γ : Gm} {σ : St} {H : Hp} {env : Ev} {ds : DS} {us : List V} {xs : List PyData} (R : Rel K Γ σ H env ds) (h : DfAll K H (gd Γ σ env) us xs) (hl : us.length ≤ sizeLine) {p : Addr} (hp : H p = none) :
    Ext Γ H (upd H p (.lst us)) ∧ DrR K Γ (upd H p (.lst us)) ds ∧ Df K (upd H p (.lst us)) (gd Γ σ env) (.ref p) (.list xs) :=
  ⟨ext_new hp, R.draw.new hp, .lst (R.new_gd hp) upd_same hl (h.ext (ext_new hp) R.draw)⟩

theorem len_eq {H : Hp} {g : Addr → Prop} {us : List V} {xs : List PyData} (h : DfAll K H g us xs) : us.length = xs.length := h.length
theorem short_iff {n : Nat} (h : short n = true) : n ≤ sizeLine := of_decide_eq_true h

def rAddA (K : PySem.W.Frag) : R2 := fun x y H Q => (rI0 fun i j => .int (i + j)) x y H Q ∨ rCatA K x y H Q ∨ (∃ i j, x = .str i ∧ y = .str j ∧ i.length + j.length ≤ sizeLine ∧ Q (.str (i ++ j)) H) ∨ rCat x y H Q
theorem op_addA : OpR X (binaryOp .Add) (rAddA X.K) := .or op_add (.or op_catA (.or op_add_str op_cat))
theorem bin_add : Bin K (rAddA K) fAdd := by
  intro Γ σ H env ds R x y d e z hx hy hf Q q
  unfold fAdd at hf
  split at hf
  · obtain rfl := hx.int
    obtain rfl := hy.int
    cases hf
    exact .inl ⟨_, _, rfl, rfl, q _ H Ext.refl R.draw (.int _)⟩
  · obtain ⟨a, us, rfl, hS, hl, hA⟩ := hx.tuple
    obtain ⟨b, ws, rfl, hS2, hl2, hA2⟩ := hy.tuple
    split at hf
    · rename_i hs
      cases hf
      have hs := short_iff hs
      rw [← hA.length, ← hA2.length] at hs
      refine .inr (.inl ⟨a, b, us, ws, rfl, rfl, SqT.of hS, SqT.of hS2, hs, fun z => ?_, fun _ z => ?_, fun _ _ p hp => ?_⟩)
      · subst z
        cases hA
        exact q _ H Ext.refl R.draw (.tup hS2 hl2 hA2)
      · subst z
        cases hA2
        rw [List.append_nil] at q
        exact q _ H Ext.refl R.draw (.tup hS hl hA)
      · obtain ⟨e1, d1, h1⟩ := new_tup R (hA.append hA2) (by rw [List.length_append]; exact hs) hp
        exact q _ _ e1 d1 h1
    · cases hf
  · obtain ⟨a, us, rfl, hS, hl, hA⟩ := hx.list
    obtain ⟨b, ws, rfl, hS2, hl2, hA2⟩ := hy.list
    split at hf
    · rename_i hs
      cases hf
      have hs := short_iff hs
      rw [← hA.length, ← hA2.length] at hs
      refine .inr (.inr (.inr ⟨a, b, us, ws, rfl, rfl, hS, hS2, hs, fun p hp => ?_⟩))
      obtain ⟨e1, d1, h1⟩ := new_lst R (hA.append hA2) (by rw [List.length_append]; exact hs) hp
      exact q _ _ e1 d1 h1
    · cases hf
  · obtain rfl := hx.str
    obtain rfl := hy.str
    split at hf
    · rename_i hs
      cases hf
      exact .inr (.inr (.inl ⟨_, _, rfl, rfl, short_iff hs, q _ H Ext.refl R.draw (.str _)⟩))
    · cases hf
  · cases hf
theorem bin_sub : Bin K (rI0 fun i j => .int (i - j)) fSub := Bin.same fun Γ σ H env ds R x y d e z hx hy hf Q q => by
  unfold fSub at hf
  split at hf
  · obtain rfl := hx.int
    obtain rfl := hy.int
    cases hf
    exact ⟨_, _, rfl, rfl, q _ (.int _)⟩
  · cases hf
theorem DfAll.rep {H : Hp} {g : Addr → Prop} {us : List V} {xs : List PyData} (h : DfAll K H g us xs) : ∀ n : Nat, DfAll K H g (List.replicate n us).flatten (List.replicate n xs).flatten
  | 0 => .nil
  | n + 1 => by
    rw [List.replicate_succ, List.replicate_succ, List.flatten_cons, List.flatten_cons]
    exact h.append (DfAll.rep h n)
def rMulA (K : PySem.W.Frag) : R2 := fun x y H Q => (rI CMul fun i j => .int (i * j)) x y H Q ∨ rRep x y H Q ∨ rRepT K x y H Q
theorem op_mulA : OpR X (binaryOp .Mult) (rMulA X.K) := .or op_mul (.or op_rep op_repT)
theorem rep_short {us : List V} {k : Int} (h1 : k.natAbs ≤ 1000) (h2 : us.length ≤ 1000) : us.length * k.toNat ≤ sizeLine := by
  have h3 : k.toNat ≤ 1000 := by omega
  have h4 : us.length * k.toNat ≤ 1000 * 1000 := Nat.mul_le_mul h2 h3
  have h5 : (1000 * 1000 : Nat) ≤ sizeLine := by decide
  omega
theorem absLe {k : Int} (h : 2 ≤ k ∧ k ≤ 1000) : k.natAbs ≤ 1000 := by omega
theorem bin_mul : Bin K (rMulA K) fMul := by
  intro Γ σ H env ds R x y d e z hx hy hf Q q
  unfold fMul at hf
  split at hf
  · obtain rfl := hx.int
    obtain rfl := hy.int
    split at hf
    · rename_i hc
      cases hf
      rw [Bool.or_eq_true] at hc
      refine .inl ⟨_, _, rfl, rfl, ?_, q _ H Ext.refl R.draw (.int _)⟩
      rcases hc with hc | hc
      · exact .inl (of_decide_eq_true hc)
      · exact .inr (of_decide_eq_true hc)
    · cases hf
  · obtain ⟨a, us, rfl, hS, hl, hA⟩ := hx.list
    obtain rfl := hy.int
    split at hf
    · rename_i hc
      cases hf
      rw [Bool.and_eq_true] at hc
      have h1 := of_decide_eq_true hc.1
      have h2 := of_decide_eq_true hc.2
      rw [← hA.length] at h2
      have h3 := rep_short h1 h2
      refine .inr (.inl ⟨a, _, us, rfl, rfl, hS, by omega, by omega, h3, fun p hp => ?_⟩)
      obtain ⟨e1, d1, q1⟩ := new_lst R (hA.rep _) (by rw [PyProof.Rows.lm_len_rep_flat, Nat.mul_comm]; exact h3) hp
      exact q _ _ e1 d1 q1
    · cases hf
  · obtain ⟨a, us, rfl, hS, hl, hA⟩ := hx.tuple
    obtain rfl := hy.int
    split at hf
    · rename_i hc
      cases hf
      rw [Bool.and_eq_true, Bool.and_eq_true] at hc
      have h1 := of_decide_eq_true hc.1.2
      have h2 := of_decide_eq_true hc.2
      have hne : us ≠ [] := fun z => by
        subst z
        cases hA
        exact absurd hc.1.1 (by decide)
      rw [← hA.length] at h2
      have h4 := absLe h1
      refine .inr (.inr ⟨a, _, us, rfl, rfl, SqT.of hS, hne, h1.1, h1.2, h2, fun p hp => ?_⟩)
      obtain ⟨e1, d1, q1⟩ := new_tup R (hA.rep _) (by rw [PyProof.Rows.lm_len_rep_flat, Nat.mul_comm]; exact rep_short h4 h2) hp
      exact q _ _ e1 d1 q1
    · cases hf
  · cases hf
theorem bin_fdiv : Bin K (rI CDiv fun i j => .int (i / j)) fFdiv := Bin.same fun Γ σ H env ds R x y d e z hx hy hf Q q => by
  unfold fFdiv at hf
  split at hf
  · obtain rfl := hx.int
    obtain rfl := hy.int
    split at hf
    · rename_i hc
      cases hf
      have hd := of_decide_eq_true hc
      exact ⟨_, _, rfl, rfl, hd, q _ (.int _)⟩
    · cases hf
  · cases hf
theorem bin_mod : Bin K (rI (fun _ j => 0 < j) fun i j => .int (i % j)) fMod := Bin.same fun Γ σ H env ds R x y d e z hx hy hf Q q => by
  unfold fMod at hf
  split at hf
  · obtain rfl := hx.int
    obtain rfl := hy.int
    split at hf
    · rename_i hc
      cases hf
      exact ⟨_, _, rfl, rfl, of_decide_eq_true hc, q _ (.int _)⟩
    · cases hf
  · cases hf
theorem bin_shl : Bin K (rI CPow fun i j => .int (i * 2 ^ j.toNat)) fShl := Bin.same fun Γ σ H env ds R x y d e z hx hy hf Q q => by
  unfold fShl at hf
  split at hf
  · obtain rfl := hx.int
    obtain rfl := hy.int
    split at hf
    · rename_i hc
      cases hf
      have h := of_decide_eq_true hc
      exact ⟨_, _, rfl, rfl, ⟨h.1, by omega, h.2.2⟩, q _ (.int _)⟩
    · cases hf
  · cases hf
def rLtA : R2 := fun x y H Q => (rI0 fun i j => .bl (decide (i < j))) x y H Q ∨ (∃ i j, x = .str i ∧ y = .str j ∧ Q (.bl (decide (i.cps.toList < j.cps.toList))) H)
theorem op_ltA : OpR X (compareOp .Lt) rLtA := .or op_lt op_lt_str
theorem bin_lt : Bin K rLtA fLt := Bin.same fun Γ σ H env ds R x y d e z hx hy hf Q q => by
  unfold fLt at hf
  split at hf
  · obtain rfl := hx.int
    obtain rfl := hy.int
    cases hf
    exact .inl ⟨_, _, rfl, rfl, q _ (.bl _)⟩
  · obtain rfl := hx.str
    obtain rfl := hy.str
    cases hf
    exact .inr ⟨_, _, rfl, rfl, q _ (.bl _)⟩
  · cases hf
def rLeA : R2 := fun x y H Q => (rI0 fun i j => .bl (decide (i ≤ j))) x y H Q ∨ (∃ i j, x = .str i ∧ y = .str j ∧ Q (.bl (!decide (j.cps.toList < i.cps.toList))) H)
theorem op_leA : OpR X (compareOp .LtE) rLeA := .or op_le op_le_str
theorem bin_le : Bin K rLeA fLe := Bin.same fun Γ σ H env ds R x y d e z hx hy hf Q q => by
  unfold fLe at hf
  split at hf
  · obtain rfl := hx.int
    obtain rfl := hy.int
    cases hf
    exact .inl ⟨_, _, rfl, rfl, q _ (.bl _)⟩
  · obtain rfl := hx.str
    obtain rfl := hy.str
    cases hf
    exact .inr ⟨_, _, rfl, rfl, q _ (.bl _)⟩
  · cases hf
theorem bin_gt : Bin K (rI0 fun i j => .bl (decide (j < i))) fGt := Bin.same fun Γ σ H env ds R x y d e z hx hy hf Q q => by
  unfold fGt at hf
  split at hf
  · obtain rfl := hx.int
    obtain rfl := hy.int
    cases hf
    exact ⟨_, _, rfl, rfl, q _ (.bl _)⟩
  · cases hf
theorem bin_ge : Bin K (rI0 fun i j => .bl (decide (j ≤ i))) fGe := Bin.same fun Γ σ H env ds R x y d e z hx hy hf Q q => by
  unfold fGe at hf
  split at hf
  · obtain rfl := hx.int
    obtain rfl := hy.int
    cases hf
    exact ⟨_, _, rfl, rfl, q _ (.bl _)⟩
  · cases hf
theorem bin_eq : Bin K (rEqD K) fEq := Bin.same fun Γ σ H env ds R x y d e z hx hy hf Q q => by
  unfold fEq at hf
  split at hf
  · rename_i hc
    cases hf
    rw [Bool.and_eq_true] at hc
    exact ⟨d, e, persP.dp hx, persP.dp hy, hc.1, hc.2, q _ (.bl _)⟩
  · cases hf
theorem bin_ne : Bin K (rNeD K) fNe := Bin.same fun Γ σ H env ds R x y d e z hx hy hf Q q => by
  unfold fNe at hf
  split at hf
  · rename_i hc
    cases hf
    rw [Bool.and_eq_true] at hc
    exact ⟨d, e, persP.dp hx, persP.dp hy, hc.1, hc.2, q _ (.bl _)⟩
  · cases hf
/-- x in a tuple -/
def rInTu (K : PySem.W.Frag) (b : Bool) : R2 := fun x y H Q => ∃ d ds, Dp K H x d ∧ Dp K H y (.tuple ds) ∧ SeqAt.shaped d = true ∧ SeqAt.shaped (.tuple ds) = true ∧ Q (.bl (if b then !ds.any fun z => PyData.eqv z d else ds.any fun z => PyData.eqv z d)) H
theorem op_inTu (hu : X.A.units + 65 < cLine) : OpR X (compareOp .In) (rInTu X.K false) := fun pins s σ H x y v u Q I rx ry h => by
  obtain ⟨d, ds, hd, he, sd, se, q⟩ := h
  obtain ⟨as, r1⟩ := Dp.reads I d x v hd rx
  obtain ⟨bs, r2⟩ := Dp.reads I (.tuple ds) y u he ry
  have room : X.A.units + 1 + min (PyData.depthAll ds) d.depth < cLine := by
    have := SeqAt.depth_of_shaped sd
    omega
  exact SeqAt.in_tuple_reads r2 r1 (SeqAt.canLay_of_shaped se) (SeqAt.canLay_of_shaped sd) room ⟨.bl _, H, I, rfl, q⟩
theorem op_notInTu (hu : X.A.units + 65 < cLine) : OpR X (compareOp .NotIn) (rInTu X.K true) := fun pins s σ H x y v u Q I rx ry h => by
  obtain ⟨d, ds, hd, he, sd, se, q⟩ := h
  obtain ⟨as, r1⟩ := Dp.reads I d x v hd rx
  obtain ⟨bs, r2⟩ := Dp.reads I (.tuple ds) y u he ry
  have room : X.A.units + 1 + min (PyData.depthAll ds) d.depth < cLine := by
    have := SeqAt.depth_of_shaped sd
    omega
  exact SeqAt.notIn_tuple_reads r2 r1 (SeqAt.canLay_of_shaped se) (SeqAt.canLay_of_shaped sd) room ⟨.bl _, H, I, rfl, q⟩
def rInA (K : PySem.W.Frag) : R2 := fun x y H Q => rInD K x y H Q ∨ rInTu K false x y H Q
theorem op_inA (hu : X.A.units + 65 < cLine) : OpR X (compareOp .In) (rInA X.K) := .or (op_inD hu) (op_inTu hu)
def rNotInA (K : PySem.W.Frag) : R2 := fun x y H Q => rNotInD K x y H Q ∨ rInTu K true x y H Q
theorem op_notInA (hu : X.A.units + 65 < cLine) : OpR X (compareOp .NotIn) (rNotInA X.K) := .or (op_notInD hu) (op_notInTu hu)
theorem bin_in : Bin K (rInA K) fIn := Bin.same fun Γ σ H env ds R x y d e z hx hy hf Q q => by
  unfold fIn at hf
  split at hf
  · split at hf
    · rename_i hc
      cases hf
      rw [Bool.and_eq_true] at hc
      exact .inl ⟨d, _, persP.dp hx, persP.dp hy, hc.1, hc.2, q _ (.bl _)⟩
    · cases hf
  · split at hf
    · rename_i hc
      cases hf
      rw [Bool.and_eq_true] at hc
      exact .inr ⟨d, _, persP.dp hx, persP.dp hy, hc.1, hc.2, q _ (.bl _)⟩
    · cases hf
  · cases hf
theorem bin_notIn : Bin K (rNotInA K) fNotIn := Bin.same fun Γ σ H env ds R x y d e z hx hy hf Q q => by
  unfold fNotIn at hf
  split at hf
  · split at hf
    · rename_i hc
      cases hf
      rw [Bool.and_eq_true] at hc
      exact .inl ⟨d, _, persP.dp hx, persP.dp hy, hc.1, hc.2, q _ (.bl _)⟩
    · cases hf
  · split at hf
    · rename_i hc
      cases hf
      rw [Bool.and_eq_true] at hc
      exact .inr ⟨d, _, persP.dp hx, persP.dp hy, hc.1, hc.2, q _ (.bl _)⟩
    · cases hf
  · cases hf
theorem MP.isNone {Γ : Gm} {σ : St} {env : Ev} {H : Hp} {x : V} {d : PyData} (h : MP K Γ σ env H x d) : decide (x = .non) = isNone d := by
  rcases h with h | ⟨a, xs, ds, e1, e2, e3, e4, e5, e6⟩
  · cases h <;> rfl
  · subst e1 e2
    rfl
theorem bin_is : Bin K (fun x y H Q => y = .non ∧ Q (.bl (decide (x = .non))) H) fIs := Bin.same fun Γ σ H env ds R x y d e z hx hy hf Q q => by
  unfold fIs at hf
  split at hf
  · cases hf
    refine ⟨hy.none, ?_⟩
    rw [hx.isNone]
    exact q _ (.bl _)
  · cases hf
theorem bin_isNot : Bin K (fun x y H Q => y = .non ∧ Q (.bl (!decide (x = .non))) H) fIsNot := Bin.same fun Γ σ H env ds R x y d e z hx hy hf Q q => by
  unfold fIsNot at hf
  split at hf
  · cases hf
    refine ⟨hy.none, ?_⟩
    rw [hx.isNone]
    exact q _ (.bl _)
  · cases hf

/-! ### subscripts and slices -/
theorem atI_get {α : Type} {xs : List α} {i : Int} {z : α} (h : atI xs i = some z) : ∃ j, ixN xs.length i = some j ∧ xs[j]? = some z := by
  unfold atI at h
  cases q : ixN xs.length i with
  | none => rw [q] at h; cases h
  | some j => rw [q] at h; exact ⟨j, rfl, h⟩
theorem atI_df {H : Hp} {g : Addr → Prop} {us : List V} {xs : List PyData} {i : Int} {z : PyData} (h : DfAll K H g us xs) (e : atI xs i = some z) : ∃ v, atI us i = some v ∧ Df K H g v z := by
  obtain ⟨j, e1, e2⟩ := atI_get e
  obtain ⟨v, e3, e4⟩ := h.get e2
  refine ⟨v, ?_, e4⟩
  unfold atI
  rw [h.length, e1]
  exact e3
theorem bin_ix : Bin K (rIx K) fIx := Bin.same fun Γ σ H env ds R x y d e z hx hy hf Q q => by
  unfold fIx at hf
  split at hf
  · obtain ⟨a, us, rfl, hS, hl, hA⟩ := hx.tuple
    obtain rfl := hy.int
    obtain ⟨v, e1, e2⟩ := atI_df hA hf
    exact .inr (.inl ⟨a, us, _, v, rfl, rfl, (SqT.of hS), e1, q v e2⟩)
  · obtain ⟨a, us, rfl, hS, hl, hA⟩ := hx.list
    obtain rfl := hy.int
    obtain ⟨v, e1, e2⟩ := atI_df hA hf
    exact .inl ⟨a, us, _, v, rfl, rfl, SqL.of hS, e1, q v e2⟩
  · obtain rfl := hx.str
    obtain rfl := hy.int
    split at hf
    · rename_i hs
      cases e1 : atI (Str.cps (by assumption)).toList (by assumption) with
      | none => rw [e1] at hf; cases hf
      | some c =>
        rw [e1] at hf
        cases hf
        exact .inr (.inr ⟨_, _, c, rfl, rfl, short_iff hs, e1, q _ (.str _)⟩)
    · cases hf
  · cases hf
variable {a b c : Expr} {ma mb mc : ME PyData} {M M1 M2 : Md} {pos p2 : Pos}
theorem se_ix (p1 : Pers M1) (p2 : Pers M2) (ha : PE X a (rdG M1 X.K C W ma)) (hb : PE X b (rdG M2 X.K C W mb)) (hs : PlainIx b := by exact fun _ _ => rfl) : SE X C W (.Subscript a b pos) (mOp fIx ma mb) :=
  PE.imp (pe_ix ix_seq ha hb hs) fun _ _ _ h => bin_rd bin_ix p1 p2 h
theorem se_un {op : UnaryOp} {r : V → Hp → VK → Prop} {f : PyData → Option PyData} (ho : UnR X (unaryOp op) r) (hr : ∀ (Γ : Gm) (σ : St) (H : Hp) (env : Ev) (x : V) (d z : PyData), MP X.K Γ σ env H x d → f d = some z → ∀ Q : VK, (∀ v, Df X.K H (gd Γ σ env) v z → Q v H) → r x H Q)
    (p1 : Pers M1) (ha : PE X a (rdG M1 X.K C W ma)) : SE X C W (.UnaryOp op a pos) (mUn f ma) :=
  PE.imp (pe_un ho ha) fun σ H Q ⟨Γ, env, ds, R, h⟩ => ⟨Γ, env, ds, R, h.bind.imp fun d ds1 H1 e1 d1 q x hx => by
    obtain ⟨z, hz, q⟩ := lift_some q
    exact hr Γ σ H1 env x d z (p1.pk hx) hz Q fun v hv => q H1 Ext.refl d1 v hv⟩
theorem se_neg (ha : SE X C W a ma) : SE X C W (.UnaryOp .USub a pos) (mUn fNeg ma) := se_un un_neg (fun Γ σ H env x d z hx hf Q q => by
  unfold fNeg at hf
  split at hf
  · obtain rfl := hx.int
    cases hf
    exact ⟨_, rfl, q _ (.int _)⟩
  · cases hf) persD ha

/-! ### tests -/
theorem st_not (h : ST X C W a m) : ST X C W (.UnaryOp .Not a pos) (mNot m) := PT.imp (pt_not h) fun σ H Q ⟨Γ, env, ds, R, h⟩ => ⟨Γ, env, ds, R, h.bind.imp fun d ds1 H1 e1 d1 q => Aft.here q d1⟩
abbrev SW (X : Cx) (C : Exs) (W : WX) (e : Expr) (m : ME Bool) : Prop := PW X e (rdT X.K C W m)
variable {rest : List Expr} {m m1 m2 : ME Bool}
theorem PW.imp {X : Cx} {e : Expr} {t t' : TT} (h : PW X e t) (f : ∀ σ H Q, t' σ H Q → t σ H Q) : PW X e t' := ⟨fun wh pins s σ H Q I q => h.run wh pins s σ H Q I (f σ H Q q)⟩
theorem sw_and1 (ha : ST X C W a m) : SW X C W (.BoolOp .And [a] pos) m := pw_and1 ha
theorem sw_or1 (ha : ST X C W a m) : SW X C W (.BoolOp .Or [a] pos) m := pw_or1 ha
theorem and_rd {K : PySem.W.Frag} {σ : St} {H : Hp} {Q : Bool → Hp → Prop} (h : rdT K C W (mAnd m1 m2) σ H Q) : tAnd (rdT K C W m1) (rdT K C W m2) σ H Q := by
  obtain ⟨Γ, env, ds, R, h⟩ := h
  refine ⟨Γ, env, ds, R, h.bind.imp fun d ds1 H1 e1 d1 q => ?_⟩
  cases d with
  | true =>
    rw [if_pos rfl]
    exact ⟨Γ, env, ds1, R.go e1 d1, q⟩
  | false =>
    rw [if_neg Bool.false_ne_true]
    exact Aft.here q d1
theorem or_rd {K : PySem.W.Frag} {σ : St} {H : Hp} {Q : Bool → Hp → Prop} (h : rdT K C W (mOr m1 m2) σ H Q) : tOr (rdT K C W m1) (rdT K C W m2) σ H Q := by
  obtain ⟨Γ, env, ds, R, h⟩ := h
  refine ⟨Γ, env, ds, R, h.bind.imp fun d ds1 H1 e1 d1 q => ?_⟩
  cases d with
  | true =>
    rw [if_pos rfl]
    exact Aft.here q d1
  | false =>
    rw [if_neg Bool.false_ne_true]
    exact ⟨Γ, env, ds1, R.go e1 d1, q⟩
theorem sw_and (ha : ST X C W a m1) (hb : SW X C W (.BoolOp .And (b :: rest) pos) m2) : SW X C W (.BoolOp .And (a :: b :: rest) pos) (mAnd m1 m2) := PW.imp (pw_and ha hb) fun _ _ _ h => and_rd h
theorem sw_or (ha : ST X C W a m1) (hb : SW X C W (.BoolOp .Or (b :: rest) pos) m2) : SW X C W (.BoolOp .Or (a :: b :: rest) pos) (mOr m1 m2) := PW.imp (pw_or ha hb) fun _ _ _ h => or_rd h
/-- and, or, not of truth values, as a value -/
def mAndV (a b : ME PyData) : ME PyData := a.bind fun x => match x with
  | .bool true => b
  | .bool false => ME.pure (.bool false)
  | _ => ME.lift none
def mOrV (a b : ME PyData) : ME PyData := a.bind fun x => match x with
  | .bool true => ME.pure (.bool true)
  | .bool false => b
  | _ => ME.lift none
def fNot : PyData → Option PyData
  | .bool b => some (.bool (!b))
  | _ => none
theorem se_one {op} (h : SE X C W a ma) : SE X C W (.BoolOp op [a] pos) ma := pe_one h
theorem se_and (ha : SE X C W a ma) (hb : SE X C W (.BoolOp .And (b :: rest) pos) mb) : SE X C W (.BoolOp .And (a :: b :: rest) pos) (mAndV ma mb) :=
  PE.imp (pe_and ha hb) fun σ H Q ⟨Γ, env, ds, R, h⟩ => ⟨Γ, env, ds, R, h.bind.imp fun d ds1 H1 e1 d1 q x hx => by
    cases d with
    | bool k =>
      cases hx
      refine ⟨_, rfl, ?_⟩
      cases k with
      | true =>
        rw [if_pos rfl]
        exact ⟨Γ, env, ds1, R.go e1 d1, q⟩
      | false =>
        rw [if_neg Bool.false_ne_true]
        exact Aft.here q d1 _ (.bl false)
    | _ => exact q.elim⟩
theorem se_or (ha : SE X C W a ma) (hb : SE X C W (.BoolOp .Or (b :: rest) pos) mb) : SE X C W (.BoolOp .Or (a :: b :: rest) pos) (mOrV ma mb) :=
  PE.imp (pe_or ha hb) fun σ H Q ⟨Γ, env, ds, R, h⟩ => ⟨Γ, env, ds, R, h.bind.imp fun d ds1 H1 e1 d1 q x hx => by
    cases d with
    | bool k =>
      cases hx
      refine ⟨_, rfl, ?_⟩
      cases k with
      | true =>
        rw [if_pos rfl]
        exact Aft.here q d1 _ (.bl true)
      | false =>
        rw [if_neg Bool.false_ne_true]
        exact ⟨Γ, env, ds1, R.go e1 d1, q⟩
    | _ => exact q.elim⟩
theorem se_not (ha : SE X C W a ma) : SE X C W (.UnaryOp .Not a pos) (mUn fNot ma) :=
  PE.imp (pe_not ha) fun σ H Q ⟨Γ, env, ds, R, h⟩ => ⟨Γ, env, ds, R, h.bind.imp fun d ds1 H1 e1 d1 q x hx => by
    obtain ⟨z, hz, q⟩ := lift_some q
    cases d with
    | bool k =>
      cases hx
      cases hz
      exact ⟨_, rfl, q H1 Ext.refl d1 _ (.bl _)⟩
    | _ => cases hz⟩
/-- a if c else b -/
theorem se_if (hc : ST X C W c m) (ha : SE X C W a ma) (hb : SE X C W b mb) : SE X C W (.IfExp c a b pos) (mIf m ma mb) :=
  PE.imp (pe_ifExp hc ha hb) fun σ H Q ⟨Γ, env, ds, R, h⟩ => ⟨Γ, env, ds, R, h.bind.imp fun d ds1 H1 e1 d1 q => by
    cases d with
    | true =>
      rw [if_pos rfl]
      exact ⟨Γ, env, ds1, R.go e1 d1, q⟩
    | false =>
      rw [if_neg Bool.false_ne_true]
      exact ⟨Γ, env, ds1, R.go e1 d1, q⟩⟩

/-! ### argument lists, displays -/
variable {e : Expr} {es : List Expr} {me : ME PyData} {ms : ME (List PyData)}
theorem sa_nil : SA X C W [] mNil := PA.imp pa_nil fun σ H Q ⟨Γ, env, ds, R, h⟩ => Aft.here h R.draw _ .nil
theorem sa_cons (he : SE X C W e me) (hr : SA X C W es ms) (hs : starEach (e :: es) X.env = (false, eval e X.env) :: starEach es X.env := by rfl) : SA X C W (e :: es) (mCons me ms) :=
  PA.imp (pa_cons he hr hs) fun σ H Q ⟨Γ, env, ds, R, h⟩ => ⟨Γ, env, ds, R, h.bind.imp fun d ds1 H1 e1 d1 q x hx => ⟨Γ, env, ds1, R.go e1 d1, q.bind.imp fun xs ds2 H2 e2 d2 q vs hv =>
    Aft.here q d2 _ (.cons (Df.ext e2 d1 hx) hv)⟩⟩
theorem se_tup {n : Nat} (h : SA X C W es ms) : SE X C W (.Tuple es n pos) (mTup ms) :=
  PE.imp (pe_tup h) fun σ H Q ⟨Γ, env, ds, R, h⟩ => ⟨Γ, env, ds, R, h.bind.imp fun xs ds1 H1 e1 d1 q vs hv => by
    obtain ⟨z, hz, q⟩ := lift_some q
    split at hz
    · rename_i hs
      cases hz
      have hs := short_iff hs
      rw [← hv.length] at hs
      refine ⟨hs, fun p hp => ?_⟩
      obtain ⟨e2, d2, h2⟩ := new_tup (R.go e1 d1) hv hs hp
      exact q _ e2 d2 _ h2
    · cases hz⟩
theorem sf_lst (h : SA X C W es ms) : SF X C W (.List es pos) (mLst ms) :=
  PE.imp (pe_lst h) fun σ H Q ⟨Γ, env, ds, R, h⟩ => ⟨Γ, env, ds, R, h.bind.imp fun xs ds1 H1 e1 d1 q vs hv => by
    obtain ⟨z, hz, q⟩ := lift_some q
    split at hz
    · rename_i hs
      cases hz
      have hs := short_iff hs
      rw [← hv.length] at hs
      refine ⟨hs, fun p hp => ?_⟩
      refine q _ (ext_new hp) (d1.new hp) p vs ?_ upd_same hs ((hv.avoid hp).mono (fun a u q e => ⟨q, ext_new (Γ := Γ) hp a _ q.1.2.2 e⟩) fun _ _ q => tup_ext (ext_new hp) d1 q)
      cases k : H p with
      | none => rfl
      | some o =>
        have := e1 p o ((R.go e1 d1).new_gd hp).2.2 k
        rw [hp] at this
        cases this
    · cases hz⟩
end
end DL

/-! DL4: calls of built-ins, slices. -/
namespace DL
open PySem PySem.Spec L2
open PyProof.Rows hiding St

theorem CallR.or {X : Cx} {f : Value} {r r' : List V → Hp → VK → Prop} (h : CallR X f r) (h' : CallR X f r') : CallR X f fun xs H Q => r xs H Q ∨ r' xs H Q := by
  intro pins s σ H xs us Q I rx q
  rcases q with q | q
  · exact h pins s σ H xs us Q I rx q
  · exact h' pins s σ H xs us Q I rx q

section
variable {X : Cx} {C : Exs} {W : WX} {K : PySem.W.Frag} {a b : Expr} {ma mb : ME PyData} {M M1 M2 : Md} {pos p2 p : Pos} {x : Str} {bid T : String}
/-- a call of one argument, by values -/
def Un1 (K : PySem.W.Frag) (r : List V → Hp → VK → Prop) (f : PyData → Option PyData) : Prop :=
  ∀ (Γ : Gm) (σ : St) (H : Hp) (env : Ev) (ds : DS), Rel K Γ σ H env ds → ∀ (x : V) (d z : PyData), MP K Γ σ env H x d → f d = some z →
    ∀ Q : VK, (∀ v H', Ext Γ H H' → DrR K Γ H' ds → Df K H' (gd Γ σ env) v z → Q v H') → r [x] H Q
theorem Un1.same {r : List V → Hp → VK → Prop} {f : PyData → Option PyData} (h : ∀ (Γ : Gm) (σ : St) (H : Hp) (env : Ev) (x : V) (d z : PyData), MP K Γ σ env H x d → f d = some z → ∀ Q : VK, (∀ v, Df K H (gd Γ σ env) v z → Q v H) → r [x] H Q) : Un1 K r f :=
  fun Γ σ H env ds R x d z hx hf Q q => h Γ σ H env x d z hx hf Q fun v hv => q v H Ext.refl R.draw hv
theorem un1_rd {r : List V → Hp → VK → Prop} {f : PyData → Option PyData} (hr : Un1 K r f) (p1 : Pers M) {σ : St} {H : Hp} {Q : VK} (h : rdG MD K C W (mUn f ma) σ H Q) : tCB r (tCons (rdG M K C W ma) tNil) σ H Q := by
  obtain ⟨Γ, env, ds, R, h⟩ := h
  refine ⟨Γ, env, ds, R, h.bind.imp fun d ds1 H1 e1 d1 q x hx => ?_⟩
  obtain ⟨z, hz, q⟩ := lift_some q
  exact hr Γ σ H1 env ds1 (R.go e1 d1) x d z (p1.pk hx) hz Q fun v H3 e3 d3 hv => q H3 e3 d3 v hv
theorem se_callB {r : List V → Hp → VK → Prop} {f : PyData → Option PyData} (hc : CallR X (.builtin bid) r) (hr : Un1 X.K r f) (p1 : Pers M) (hm : X.mg x = none) (hv : bootBuiltins x = some (.builtin bid)) (ha : PE X a (rdG M X.K C W ma)) (hg : Gl X x := by rfl)
    (hn : x ≠ "__name__" := by decide) (hdb : (x == ("__debug__" : Str)) = false := by decide) (he : starEach (a :: []) X.env = (false, eval a X.env) :: starEach [] X.env := by rfl) (hpl : (backTo pos (starEach [] X.env)).any (·.1) = false := by rfl) : SE X C W (.Call (.Name x p) [a] [] pos) (mUn f ma) :=
  PE.imp (pe_callB hc hg hm hv (pa_cons ha pa_nil he) hn hdb he hpl) fun _ _ _ h => un1_rd hr p1 h
theorem se_callTy {r : List V → Hp → VK → Prop} {f : PyData → Option PyData} (hc : CallR X (.type T) r) (hr : Un1 X.K r f) (p1 : Pers M) (hm : X.mg x = none) (hv : bootBuiltins x = some (.type T)) (ha : PE X a (rdG M X.K C W ma)) (hg : Gl X x := by rfl)
    (hn : x ≠ "__name__" := by decide) (hdb : (x == ("__debug__" : Str)) = false := by decide) (he : starEach (a :: []) X.env = (false, eval a X.env) :: starEach [] X.env := by rfl) (hpl : (backTo pos (starEach [] X.env)).any (·.1) = false := by rfl) : SE X C W (.Call (.Name x p) [a] [] pos) (mUn f ma) :=
  PE.imp (pe_callTy hc hg hm hv (pa_cons ha pa_nil he) hn hdb he hpl) fun _ _ _ h => un1_rd hr p1 h
/-- .. that gives a new list -/
def mUnF (f : PyData → Option (List PyData)) (a : ME PyData) : ME (List PyData) := a.bind fun x => ME.lift (f x)
def Un1F (K : PySem.W.Frag) (r : List V → Hp → VK → Prop) (f : PyData → Option (List PyData)) : Prop :=
  ∀ (Γ : Gm) (σ : St) (H : Hp) (env : Ev) (ds : DS), Rel K Γ σ H env ds → ∀ (x : V) (d : PyData) (z : List PyData), MP K Γ σ env H x d → f d = some z →
    ∀ Q : VK, (∀ p us, H p = none → us.length ≤ sizeLine → DfAll K H (gd Γ σ env) us z → Q (.ref p) (upd H p (.lst us))) → r [x] H Q
theorem Rel.none_back {Γ : Gm} {σ : St} {H H1 : Hp} {env : Ev} {ds ds1 : DS} (R : Rel K Γ σ H env ds) (e : Ext Γ H H1) (d : DrR K Γ H1 ds1) {p : Addr} (h : H1 p = none) : H p = none := by
  cases k : H p with
  | none => rfl
  | some o =>
    have := e p o ((R.go e d).new_gd h).2.2 k
    rw [h] at this
    cases this
theorem DfAll.newx {Γ : Gm} {σ : St} {env : Ev} {H : Hp} {ds : DS} {p : Addr} {o : HO} {us : List V} {xs : List PyData} (h : DfAll K H (gd Γ σ env) us xs) (hp : H p = none) (d : DrR K Γ H ds) : DfAll K (upd H p o) (gdx Γ σ env p) us xs :=
  (h.avoid hp).mono (fun a u q e => ⟨q, ext_new (Γ := Γ) hp a _ q.1.2.2 e⟩) fun _ _ q => tup_ext (ext_new hp) d q
theorem un1F_rd {r : List V → Hp → VK → Prop} {f : PyData → Option (List PyData)} (hr : Un1F K r f) (p1 : Pers M) {σ : St} {H : Hp} {Q : VK} (h : rdF K C W (mUnF f ma) σ H Q) : tCB r (tCons (rdG M K C W ma) tNil) σ H Q := by
  obtain ⟨Γ, env, ds, R, h⟩ := h
  refine ⟨Γ, env, ds, R, h.bind.imp fun d ds1 H1 e1 d1 q x hx => ?_⟩
  obtain ⟨z, hz, q⟩ := lift_some q
  exact hr Γ σ H1 env ds1 (R.go e1 d1) x d z (p1.pk hx) hz Q fun p us hp hl hA => q _ (ext_new hp) (d1.new hp) p us (R.none_back e1 d1 hp) upd_same hl (hA.newx hp d1)
theorem sf_callB {r : List V → Hp → VK → Prop} {f : PyData → Option (List PyData)} (hc : CallR X (.builtin bid) r) (hr : Un1F X.K r f) (p1 : Pers M) (hm : X.mg x = none) (hv : bootBuiltins x = some (.builtin bid)) (ha : PE X a (rdG M X.K C W ma)) (hg : Gl X x := by rfl)
    (hn : x ≠ "__name__" := by decide) (hdb : (x == ("__debug__" : Str)) = false := by decide) (he : starEach (a :: []) X.env = (false, eval a X.env) :: starEach [] X.env := by rfl) (hpl : (backTo pos (starEach [] X.env)).any (·.1) = false := by rfl) : SF X C W (.Call (.Name x p) [a] [] pos) (mUnF f ma) :=
  PE.imp (pe_callB hc hg hm hv (pa_cons ha pa_nil he) hn hdb he hpl) fun _ _ _ h => un1F_rd hr p1 h
theorem sf_callTy {r : List V → Hp → VK → Prop} {f : PyData → Option (List PyData)} (hc : CallR X (.type T) r) (hr : Un1F X.K r f) (p1 : Pers M) (hm : X.mg x = none) (hv : bootBuiltins x = some (.type T)) (ha : PE X a (rdG M X.K C W ma)) (hg : Gl X x := by rfl)
    (hn : x ≠ "__name__" := by decide) (hdb : (x == ("__debug__" : Str)) = false := by decide) (he : starEach (a :: []) X.env = (false, eval a X.env) :: starEach [] X.env := by rfl) (hpl : (backTo pos (starEach [] X.env)).any (·.1) = false := by rfl) : SF X C W (.Call (.Name x p) [a] [] pos) (mUnF f ma) :=
  PE.imp (pe_callTy hc hg hm hv (pa_cons ha pa_nil he) hn hdb he hpl) fun _ _ _ h => un1F_rd hr p1 h

/-! the built-ins -/
def fLen : PyData → Option PyData
  | .list xs => some (.int xs.length)
  | .tuple xs => some (.int xs.length)
  | .str z => if short z.length then some (.int z.length) else none
  | _ => none
theorem un_len : Un1 K (fun xs H Q => (∃ p ys, xs = [.ref p] ∧ (SqL K H p ys ∨ SqT K H p ys) ∧ Q (.int ys.length) H) ∨ ∃ z, xs = [.str z] ∧ z.length ≤ sizeLine ∧ Q (.int z.length) H) fLen := Un1.same fun Γ σ H env x d z hx hf Q q => by
  unfold fLen at hf
  split at hf
  · obtain ⟨a, us, rfl, hS, hl, hA⟩ := hx.list
    cases hf
    refine .inl ⟨a, us, rfl, .inl (SqL.of hS), ?_⟩
    rw [hA.length]
    exact q _ (.int _)
  · obtain ⟨a, us, rfl, hS, hl, hA⟩ := hx.tuple
    cases hf
    refine .inl ⟨a, us, rfl, .inr (SqT.of hS), ?_⟩
    rw [hA.length]
    exact q _ (.int _)
  · obtain rfl := hx.str
    split at hf
    · rename_i hs
      cases hf
      exact .inr ⟨_, rfl, short_iff hs, q _ (.int _)⟩
    · cases hf
  · cases hf
theorem call_lenA : CallR X (.builtin "len") (fun xs H Q => (∃ p ys, xs = [.ref p] ∧ (SqL X.K H p ys ∨ SqT X.K H p ys) ∧ Q (.int ys.length) H) ∨ ∃ z, xs = [.str z] ∧ z.length ≤ sizeLine ∧ Q (.int z.length) H) := .or call_len_seq call_len_str
def fTuple : PyData → Option PyData
  | .list xs => some (.tuple xs)
  | .tuple xs => some (.tuple xs)
  | _ => none
theorem un_tuple : Un1 K (fun xs H Q => ∃ p ys, xs = [.ref p] ∧ ((SqL K H p ys ∧ ∀ l, H l = none → Q (.ref l) (upd H l (.tup ys))) ∨ (SqT K H p ys ∧ Q (.ref p) H))) fTuple := fun Γ σ H env ds R x d z hx hf Q q => by
  unfold fTuple at hf
  split at hf
  · obtain ⟨a, us, rfl, hS, hl, hA⟩ := hx.list
    cases hf
    refine ⟨a, us, rfl, .inl ⟨SqL.of hS, fun p hp => ?_⟩⟩
    obtain ⟨e1, d1, h1⟩ := new_tup R hA hl hp
    exact q _ _ e1 d1 h1
  · obtain ⟨a, us, rfl, hS, hl, hA⟩ := hx.tuple
    cases hf
    exact ⟨a, us, rfl, .inr ⟨SqT.of hS, q _ H Ext.refl R.draw (.tup hS hl hA)⟩⟩
  · cases hf
def fList : PyData → Option (List PyData)
  | .list xs => some xs
  | .tuple xs => some xs
  | _ => none
theorem un_list : Un1F K (fun xs H Q => ∃ p ys, xs = [.ref p] ∧ (SqL K H p ys ∨ SqT K H p ys) ∧ ∀ l, H l = none → Q (.ref l) (upd H l (.lst ys))) fList := fun Γ σ H env ds R x d z hx hf Q q => by
  unfold fList at hf
  split at hf
  · obtain ⟨a, us, rfl, hS, hl, hA⟩ := hx.list
    cases hf
    exact ⟨a, us, rfl, .inl (SqL.of hS), fun p hp => q p us hp hl hA⟩
  · obtain ⟨a, us, rfl, hS, hl, hA⟩ := hx.tuple
    cases hf
    exact ⟨a, us, rfl, .inr (SqT.of hS), fun p hp => q p us hp hl hA⟩
  · cases hf
def boolsOf : List PyData → Option (List Bool)
  | [] => some []
  | .bool b :: r => (boolsOf r).map (b :: ·)
  | _ => none
def intsOf : List PyData → Option (List Int)
  | [] => some []
  | .int b :: r => (intsOf r).map (b :: ·)
  | _ => none
theorem boolsOf_eq : ∀ {xs : List PyData} {bs : List Bool}, boolsOf xs = some bs → xs = bs.map .bool
  | [], _, h => by cases h; rfl
  | .bool b :: r, _, h => by
    unfold boolsOf at h
    cases q : boolsOf r with
    | none => rw [q] at h; cases h
    | some bs' => rw [q] at h; cases h; rw [boolsOf_eq q]; rfl
  | .none :: _, _, h => by cases h
  | .int _ :: _, _, h => by cases h
  | .str _ :: _, _, h => by cases h
  | .list _ :: _, _, h => by cases h
  | .tuple _ :: _, _, h => by cases h
  | .dict _ :: _, _, h => by cases h
theorem intsOf_eq : ∀ {xs : List PyData} {bs : List Int}, intsOf xs = some bs → xs = bs.map .int
  | [], _, h => by cases h; rfl
  | .int b :: r, _, h => by
    unfold intsOf at h
    cases q : intsOf r with
    | none => rw [q] at h; cases h
    | some bs' => rw [q] at h; cases h; rw [intsOf_eq q]; rfl
  | .none :: _, _, h => by cases h
  | .bool _ :: _, _, h => by cases h
  | .str _ :: _, _, h => by cases h
  | .list _ :: _, _, h => by cases h
  | .tuple _ :: _, _, h => by cases h
  | .dict _ :: _, _, h => by cases h
theorem boolsOf_map : ∀ bs : List Bool, boolsOf (bs.map .bool) = some bs
  | [] => rfl
  | b :: r => by show (boolsOf (r.map .bool)).map (b :: ·) = _; rw [boolsOf_map r]; rfl
theorem intsOf_map : ∀ bs : List Int, intsOf (bs.map .int) = some bs
  | [] => rfl
  | b :: r => by show (intsOf (r.map .int)).map (b :: ·) = _; rw [intsOf_map r]; rfl
def fAll : PyData → Option PyData
  | .list xs => (boolsOf xs).map fun bs => .bool (bs.all id)
  | _ => none
def fAny : PyData → Option PyData
  | .list xs => (boolsOf xs).map fun bs => .bool (bs.any id)
  | _ => none
def fSum : PyData → Option PyData
  | .list xs => (intsOf xs).map fun bs => .int bs.sum
  | _ => none
theorem un_all : Un1 K (rAll K) fAll := Un1.same fun Γ σ H env x d z hx hf Q q => by
  unfold fAll at hf
  split at hf
  · obtain ⟨a, us, rfl, hS, hl, hA⟩ := hx.list
    obtain ⟨bs, e1, e2⟩ := Option.map_eq_some_iff.mp hf
    subst e2
    obtain rfl := boolsOf_eq e1
    rw [hA.bls_inv] at hS
    exact ⟨a, bs, rfl, SqL.of hS, q _ (.bl _)⟩
  · cases hf
theorem un_any : Un1 K (rAny K) fAny := Un1.same fun Γ σ H env x d z hx hf Q q => by
  unfold fAny at hf
  split at hf
  · obtain ⟨a, us, rfl, hS, hl, hA⟩ := hx.list
    obtain ⟨bs, e1, e2⟩ := Option.map_eq_some_iff.mp hf
    subst e2
    obtain rfl := boolsOf_eq e1
    rw [hA.bls_inv] at hS
    exact ⟨a, bs, rfl, SqL.of hS, q _ (.bl _)⟩
  · cases hf
theorem un_sum : Un1 K (rSum K) fSum := Un1.same fun Γ σ H env x d z hx hf Q q => by
  unfold fSum at hf
  split at hf
  · obtain ⟨a, us, rfl, hS, hl, hA⟩ := hx.list
    obtain ⟨bs, e1, e2⟩ := Option.map_eq_some_iff.mp hf
    subst e2
    obtain rfl := intsOf_eq e1
    rw [hA.ints_inv] at hS
    exact ⟨a, bs, rfl, SqL.of hS, q _ (.int _)⟩
  · cases hf
def fAbs : PyData → Option PyData
  | .int i => some (.int (if i < 0 then -i else i))
  | _ => none
theorem un_abs : Un1 K (fun xs H Q => ∃ i, xs = [.int i] ∧ Q (.int (if i < 0 then -i else i)) H) fAbs := Un1.same fun Γ σ H env x d z hx hf Q q => by
  unfold fAbs at hf
  split at hf
  · obtain rfl := hx.int
    cases hf
    exact ⟨_, rfl, q _ (.int _)⟩
  · cases hf
def fInt : PyData → Option PyData
  | .int i => some (.int i)
  | .bool b => some (.int (if b then 1 else 0))
  | _ => none
theorem un_int : Un1 K (fun xs H Q => (∃ i, xs = [.int i] ∧ Q (.int i) H) ∨ ∃ k, xs = [.bl k] ∧ Q (.int (if k then 1 else 0)) H) fInt := Un1.same fun Γ σ H env x d z hx hf Q q => by
  unfold fInt at hf
  split at hf
  · obtain rfl := hx.int
    cases hf
    exact .inl ⟨_, rfl, q _ (.int _)⟩
  · obtain rfl := hx.bool
    cases hf
    exact .inr ⟨_, rfl, q _ (.int _)⟩
  · cases hf
def maxOf : Int → List Int → Int
  | m, [] => m
  | m, x :: r => maxOf (if x > m then x else m) r
def minOf : Int → List Int → Int
  | m, [] => m
  | m, x :: r => minOf (if x < m then x else m) r
theorem maxOf_ge : ∀ (r : List Int) (m : Int), m ≤ maxOf m r ∧ (∀ x ∈ r, x ≤ maxOf m r) ∧ (maxOf m r = m ∨ maxOf m r ∈ r)
  | [], m => ⟨Int.le_refl _, (fun _ h => by cases h), .inl rfl⟩
  | x :: r, m => by
    obtain ⟨h1, h2, h3⟩ := maxOf_ge r (if x > m then x else m)
    refine ⟨?_, fun y hy => ?_, ?_⟩
    · show m ≤ maxOf (if x > m then x else m) r
      by_cases k : x > m
      · rw [if_pos k] at h1 ⊢; omega
      · rw [if_neg k] at h1 ⊢; exact h1
    · show y ≤ maxOf (if x > m then x else m) r
      rcases List.mem_cons.mp hy with rfl | hy
      · by_cases k : y > m
        · rw [if_pos k] at h1 ⊢; exact h1
        · rw [if_neg k] at h1 ⊢; omega
      · exact h2 y hy
    · show maxOf (if x > m then x else m) r = m ∨ maxOf (if x > m then x else m) r ∈ x :: r
      rcases h3 with h3 | h3
      · by_cases k : x > m
        · rw [if_pos k] at h3 ⊢; exact .inr (List.mem_cons.mpr (.inl h3))
        · rw [if_neg k] at h3 ⊢; exact .inl h3
      · exact .inr (List.mem_cons_of_mem _ h3)
theorem minOf_le : ∀ (r : List Int) (m : Int), minOf m r ≤ m ∧ (∀ x ∈ r, minOf m r ≤ x) ∧ (minOf m r = m ∨ minOf m r ∈ r)
  | [], m => ⟨Int.le_refl _, (fun _ h => by cases h), .inl rfl⟩
  | x :: r, m => by
    obtain ⟨h1, h2, h3⟩ := minOf_le r (if x < m then x else m)
    refine ⟨?_, fun y hy => ?_, ?_⟩
    · show minOf (if x < m then x else m) r ≤ m
      by_cases k : x < m
      · rw [if_pos k] at h1 ⊢; omega
      · rw [if_neg k] at h1 ⊢; exact h1
    · show minOf (if x < m then x else m) r ≤ y
      rcases List.mem_cons.mp hy with rfl | hy
      · by_cases k : y < m
        · rw [if_pos k] at h1 ⊢; exact h1
        · rw [if_neg k] at h1 ⊢; omega
      · exact h2 y hy
    · show minOf (if x < m then x else m) r = m ∨ minOf (if x < m then x else m) r ∈ x :: r
      rcases h3 with h3 | h3
      · by_cases k : x < m
        · rw [if_pos k] at h3 ⊢; exact .inr (List.mem_cons.mpr (.inl h3))
        · rw [if_neg k] at h3 ⊢; exact .inl h3
      · exact .inr (List.mem_cons_of_mem _ h3)
def fMax : PyData → Option PyData
  | .list xs => (intsOf xs).bind fun bs => match bs with | [] => none | m :: r => some (.int (maxOf m r))
  | _ => none
def fMin : PyData → Option PyData
  | .list xs => (intsOf xs).bind fun bs => match bs with | [] => none | m :: r => some (.int (minOf m r))
  | _ => none
theorem un_max : Un1 K (rMax K) fMax := Un1.same fun Γ σ H env x d z hx hf Q q => by
  unfold fMax at hf
  split at hf
  · obtain ⟨a, us, rfl, hS, hl, hA⟩ := hx.list
    obtain ⟨bs, e1, e2⟩ := Option.bind_eq_some_iff.mp hf
    obtain rfl := intsOf_eq e1
    rw [hA.ints_inv] at hS
    cases bs with
    | nil => cases e2
    | cons m r =>
      cases e2
      refine ⟨a, _, rfl, SqL.of hS, Nat.succ_pos _, fun k hk hle => ?_⟩
      obtain ⟨h1, h2, h3⟩ := maxOf_ge r m
      have e : k = maxOf m r := by
        have t1 : k ≤ maxOf m r := by
          rcases List.mem_cons.mp hk with rfl | hk
          · exact h1
          · exact h2 k hk
        have t2 : maxOf m r ≤ k := by
          rcases h3 with h3 | h3
          · rw [h3]; exact hle m List.mem_cons_self
          · exact hle _ (List.mem_cons_of_mem _ h3)
        omega
      rw [e]
      exact q _ (.int _)
  · cases hf
theorem un_min : Un1 K (rMin K) fMin := Un1.same fun Γ σ H env x d z hx hf Q q => by
  unfold fMin at hf
  split at hf
  · obtain ⟨a, us, rfl, hS, hl, hA⟩ := hx.list
    obtain ⟨bs, e1, e2⟩ := Option.bind_eq_some_iff.mp hf
    obtain rfl := intsOf_eq e1
    rw [hA.ints_inv] at hS
    cases bs with
    | nil => cases e2
    | cons m r =>
      cases e2
      refine ⟨a, _, rfl, SqL.of hS, Nat.succ_pos _, fun k hk hle => ?_⟩
      obtain ⟨h1, h2, h3⟩ := minOf_le r m
      have e : k = minOf m r := by
        have t1 : minOf m r ≤ k := by
          rcases List.mem_cons.mp hk with rfl | hk
          · exact h1
          · exact h2 k hk
        have t2 : k ≤ minOf m r := by
          rcases h3 with h3 | h3
          · rw [h3]; exact hle m List.mem_cons_self
          · exact hle _ (List.mem_cons_of_mem _ h3)
        omega
      rw [e]
      exact q _ (.int _)
  · cases hf
/-- isinstance(x, T) -/
def isOf (n : String) : PyData → Option Bool
  | .none => if n = "int" ∨ n = "bool" ∨ n = "tuple" ∨ n = "str" ∨ n = "list" then some false else none
  | .bool _ => if n = "int" ∨ n = "bool" then some true else if n = "tuple" ∨ n = "str" ∨ n = "list" then some false else none
  | .int _ => if n = "int" then some true else if n = "bool" ∨ n = "tuple" ∨ n = "str" ∨ n = "list" then some false else none
  | .str _ => if n = "str" then some true else if n = "bool" ∨ n = "tuple" ∨ n = "int" ∨ n = "list" then some false else none
  | .list _ => if n = "list" then some true else if n = "bool" ∨ n = "tuple" ∨ n = "int" ∨ n = "str" then some false else none
  | .tuple _ => if n = "tuple" then some true else if n = "bool" ∨ n = "list" ∨ n = "int" ∨ n = "str" then some false else none
  | .dict _ => none
def mIsi (n : Nat) (a : ME PyData) : ME PyData := a.bind fun x => ME.lift ((isOf (["int", "bool", "tuple", "str", "list"].getD n "") x).map .bool)
theorem tyX_of {Γ : Gm} {σ : St} {env : Ev} {H : Hp} {v : V} {d : PyData} (h : MP K Γ σ env H v d) : (d = .none ∧ TyX K H v (.type "NoneType")) ∨ ((∃ b, d = .bool b) ∧ TyX K H v (.type "bool")) ∨ ((∃ b, d = .int b) ∧ TyX K H v (.type "int")) ∨
    ((∃ b, d = .str b) ∧ TyX K H v (.type "str")) ∨ ((∃ b, d = .list b) ∧ TyX K H v (.type "list")) ∨ ((∃ b, d = .tuple b) ∧ TyX K H v (.type "tuple")) := by
  cases d with
  | none => obtain rfl := h.none; exact .inl ⟨rfl, .base .non⟩
  | bool b => obtain rfl := h.bool; exact .inr (.inl ⟨⟨_, rfl⟩, .base (.bl _)⟩)
  | int b => obtain rfl := h.int; exact .inr (.inr (.inl ⟨⟨_, rfl⟩, .base (.int _)⟩))
  | str b => obtain rfl := h.str; exact .inr (.inr (.inr (.inl ⟨⟨_, rfl⟩, .base (.str _)⟩)))
  | list b =>
    obtain ⟨a, us, rfl, hS, hl, hA⟩ := h.list
    exact .inr (.inr (.inr (.inr (.inl ⟨⟨_, rfl⟩, .base (.lst hS)⟩))))
  | tuple b =>
    obtain ⟨a, us, rfl, hS, hl, hA⟩ := h.tuple
    refine .inr (.inr (.inr (.inr (.inr ⟨⟨_, rfl⟩, ?_⟩))))
    exact .base (.tup hS)
  | dict b =>
    rcases h with h | ⟨a, xs, ds, e1, e2, e3, e4, e5, e6⟩
    · cases h
    · cases e2
theorem kit_tab (a n : String) (b : Bool) (h : (a, n, b) ∈ [("NoneType", "int", false), ("NoneType", "bool", false), ("NoneType", "tuple", false), ("NoneType", "str", false), ("NoneType", "list", false), ("bool", "int", true), ("bool", "bool", true), ("bool", "tuple", false), ("bool", "str", false), ("bool", "list", false),
    ("int", "int", true), ("int", "bool", false), ("int", "tuple", false), ("int", "str", false), ("int", "list", false), ("str", "int", false), ("str", "bool", false), ("str", "tuple", false), ("str", "str", true), ("str", "list", false),
    ("list", "int", false), ("list", "bool", false), ("list", "tuple", false), ("list", "str", false), ("list", "list", true), ("tuple", "int", false), ("tuple", "bool", false), ("tuple", "tuple", true), ("tuple", "str", false), ("tuple", "list", false)]) : PySem.W.kitOne K (.type a) (.type n) = some b := by
  refine kit_ty ?_
  revert h
  have key : ([("NoneType", "int", false), ("NoneType", "bool", false), ("NoneType", "tuple", false), ("NoneType", "str", false), ("NoneType", "list", false), ("bool", "int", true), ("bool", "bool", true), ("bool", "tuple", false), ("bool", "str", false), ("bool", "list", false),
    ("int", "int", true), ("int", "bool", false), ("int", "tuple", false), ("int", "str", false), ("int", "list", false), ("str", "int", false), ("str", "bool", false), ("str", "tuple", false), ("str", "str", true), ("str", "list", false),
    ("list", "int", false), ("list", "bool", false), ("list", "tuple", false), ("list", "str", false), ("list", "list", true), ("tuple", "int", false), ("tuple", "bool", false), ("tuple", "tuple", true), ("tuple", "str", false), ("tuple", "list", false)].all fun (t : String × String × Bool) => decide (kitB t.1 t.2.1 = some t.2.2)) = true := by decide +kernel
  intro h
  exact of_decide_eq_true (List.all_eq_true.mp key _ h)
theorem se_isi {n : Nat} {q : Pos} {y : Str} (p1 : Pers M) (ha : PE X a (rdG M X.K C W ma)) (hm : X.mg "isinstance" = none) (hmn : X.mg y = none) (hy : bootBuiltins y = some (.type (["int", "bool", "tuple", "str", "list"].getD n ""))) (hn : n < 5) (hg : Gl X "isinstance" := by rfl) (hgn : Gl X y := by rfl)
    (hyn : y ≠ "__name__" := by decide) (hyd : (y == ("__debug__" : Str)) = false := by decide)
    (he : starEach [a, Expr.Name y q] X.env = (false, eval a X.env) :: starEach [Expr.Name y q] X.env := by rfl) (hs2 : starEach [Expr.Name y q] X.env = (false, eval (Expr.Name y q) X.env) :: starEach [] X.env := by rfl) (hpl : (backTo pos (starEach [Expr.Name y q] X.env)).any (·.1) = false := by rfl) :
    SE X C W (.Call (.Name "isinstance" p) [a, .Name y q] [] pos) (mIsi n ma) := by
  refine PE.imp (pe_callB call_isi hg hm PyProof.Rows.boot_isinstance (pa_cons ha (pa_cons (pe_bltn (v := .ty (["int", "bool", "tuple", "str", "list"].getD n "")) hgn hmn hy rfl hyn hyd) pa_nil hs2) he) (by decide) (by decide) he hpl) fun σ H Q ⟨Γ, env, ds, R, h⟩ => ⟨Γ, env, ds, R, h.bind.imp fun d ds1 H1 e1 d1 q x hx => ?_⟩
  obtain ⟨z, hz, q⟩ := lift_some q
  obtain ⟨b, hb, rfl⟩ := Option.map_eq_some_iff.mp hz
  have fin : ∀ t, TyX X.K H1 x (.type t) → PySem.W.kitOne X.K (.type t) (.type (["int", "bool", "tuple", "str", "list"].getD n "")) = some b → tCons (tC (V.ty (["int", "bool", "tuple", "str", "list"].getD n ""))) tNil σ H1 (fun xs H2 => rIsi X.K (x :: xs) H2 Q) := fun t ty k =>
    ⟨x, _, _, _, b, rfl, .ty _, ty, k, q H1 Ext.refl d1 _ (.bl b)⟩
  have hn5 : n = 0 ∨ n = 1 ∨ n = 2 ∨ n = 3 ∨ n = 4 := by omega
  rcases tyX_of (p1.pk hx) with ⟨rfl, ty⟩ | ⟨⟨_, rfl⟩, ty⟩ | ⟨⟨_, rfl⟩, ty⟩ | ⟨⟨_, rfl⟩, ty⟩ | ⟨⟨_, rfl⟩, ty⟩ | ⟨⟨_, rfl⟩, ty⟩ <;> rcases hn5 with rfl | rfl | rfl | rfl | rfl <;>
    (refine fin _ ty (kit_tab _ _ _ ?_); cases hb; decide)

/-! slices -/
def mPart (a : ME PyData) : ME (Option Int) := a.bind fun x => ME.lift (match x with | .int i => some (some i) | _ => none)
def mNoPart : ME (Option Int) := ME.pure none
def rdO (K : PySem.W.Frag) (C : Exs) (W : WX) (m : ME (Option Int)) : TO := fun σ H Q => ∃ Γ env ds, Rel K Γ σ H env ds ∧ Aft K C W Γ σ H (m env ds) fun o _ H' => Q o H'
abbrev SO (X : Cx) (C : Exs) (W : WX) (e : Option Expr) (m : ME (Option Int)) : Prop := PO X e (rdO X.K C W m)
theorem PO.imp {e : Option Expr} {t t' : TO} (h : PO X e t) (f : ∀ σ H Q, t' σ H Q → t σ H Q) : PO X e t' := ⟨fun pins s σ H Q I q => h.run pins s σ H Q I (f σ H Q q)⟩
theorem so_none : SO X C W none mNoPart := PO.imp po_none fun σ H Q ⟨Γ, env, ds, R, h⟩ => Aft.here h R.draw
theorem so_some (h : SE X C W a ma) : SO X C W (some a) (mPart ma) := PO.imp (po_some h) fun σ H Q ⟨Γ, env, ds, R, h⟩ => ⟨Γ, env, ds, R, h.bind.imp fun d ds1 H1 e1 d1 q x hx => by
  obtain ⟨z, hz, q⟩ := lift_some q
  cases d with
  | int i =>
    cases hx
    cases hz
    exact ⟨_, rfl, q H1 Ext.refl d1⟩
  | _ => cases hz⟩
def cutL {α : Type} (xs : List α) (lo hi : Option Int) : List α := (xs.drop (HT.sIx xs.length 0 lo)).take (HT.sIx xs.length xs.length hi - HT.sIx xs.length 0 lo)
def fSlice (d : PyData) (lo hi : Option Int) : Option PyData := match d with
  | .tuple xs => some (.tuple (cutL xs lo hi))
  | .list xs => some (.list (cutL xs lo hi))
  | .str z => if short z.length then some (.str (cutS z lo hi)) else none
  | _ => none
def mSlice (a : ME PyData) (l h : ME (Option Int)) : ME PyData := a.bind fun x => l.bind fun lo => h.bind fun hi => ME.lift (fSlice x lo hi)
theorem DfAll.cut {H : Hp} {g : Addr → Prop} {us : List V} {xs : List PyData} (h : DfAll K H g us xs) (lo hi : Option Int) : DfAll K H g (cutV us lo hi) (cutL xs lo hi) := by
  unfold cutV cutL
  rw [h.length]
  exact (h.drop _).take _
variable {lo hi : Option Expr} {ml mh : ME (Option Int)}
theorem se_slice (p1 : Pers M) (ha : PE X a (rdG M X.K C W ma)) (hl : SO X C W lo ml) (hh : SO X C W hi mh) : SE X C W (.Subscript a (.Slice lo hi none p2) pos) (mSlice ma ml mh) :=
  PE.imp (pe_slice (SlR.or sl_tupA (SlR.or sl_list sl_str)) ha hl hh) fun σ H Q ⟨Γ, env, ds, R, h⟩ => ⟨Γ, env, ds, R, h.bind.imp fun d ds1 H1 e1 d1 q x hx => ⟨Γ, env, ds1, R.go e1 d1, q.bind.imp fun l ds2 H2 e2 d2 q => ⟨Γ, env, ds2, (R.go e1 d1).go e2 d2, q.bind.imp fun u ds3 H3 e3 d3 q => by
    obtain ⟨z, hz, q⟩ := lift_some q
    have hx3 := p1.pk (p1.ext e3 d2 (p1.ext e2 d1 hx))
    have R3 := ((R.go e1 d1).go e2 d2).go e3 d3
    unfold fSlice at hz
    split at hz
    · obtain ⟨p, us, rfl, hS, hl, hA⟩ := hx3.tuple
      cases hz
      refine .inl ⟨p, us, rfl, SqT.of hS, fun hw => ?_, fun _ t ht => ?_⟩
      · refine q H3 Ext.refl d3 _ ?_
        rw [show cutL _ l u = _ from by unfold cutL; rw [← hA.length, hw.1, hw.2, List.drop_zero, Nat.sub_zero, hA.length, List.take_length]]
        exact .tup hS hl hA
      · obtain ⟨e4, d4, h4⟩ := new_tup R3 (hA.cut l u) (Nat.le_trans (cutV_length _ _ _) hl) ht
        exact q _ e4 d4 _ h4
    · obtain ⟨p, us, rfl, hS, hl, hA⟩ := hx3.list
      cases hz
      refine .inr (.inl ⟨p, us, rfl, SqL.of hS, fun t ht => ?_⟩)
      obtain ⟨e4, d4, h4⟩ := new_lst R3 (hA.cut l u) (Nat.le_trans (cutV_length _ _ _) hl) ht
      exact q _ e4 d4 _ h4
    · obtain rfl := hx3.str
      split at hz
      · rename_i hs
        cases hz
        exact .inr (.inr ⟨_, rfl, short_iff hs, q H3 Ext.refl d3 _ (.str _)⟩)
      · cases hz
    · cases hz⟩⟩⟩
/-- a slice of a list as a new list -/
def mSliceF (a : ME PyData) (l h : ME (Option Int)) : ME (List PyData) := a.bind fun x => l.bind fun lo => h.bind fun hi => ME.lift (match x with | .list xs => some (cutL xs lo hi) | _ => none)
theorem sf_slice (p1 : Pers M) (ha : PE X a (rdG M X.K C W ma)) (hl : SO X C W lo ml) (hh : SO X C W hi mh) : SF X C W (.Subscript a (.Slice lo hi none p2) pos) (mSliceF ma ml mh) :=
  PE.imp (pe_slice sl_list ha hl hh) fun σ H Q ⟨Γ, env, ds, R, h⟩ => ⟨Γ, env, ds, R, h.bind.imp fun d ds1 H1 e1 d1 q x hx => ⟨Γ, env, ds1, R.go e1 d1, q.bind.imp fun l ds2 H2 e2 d2 q => ⟨Γ, env, ds2, (R.go e1 d1).go e2 d2, q.bind.imp fun u ds3 H3 e3 d3 q => by
    obtain ⟨z, hz, q⟩ := lift_some q
    have hx3 := p1.pk (p1.ext e3 d2 (p1.ext e2 d1 hx))
    have R2 := (R.go e1 d1).go e2 d2
    cases d with
    | list xs =>
      obtain ⟨p, us, rfl, hS, hl, hA⟩ := hx3.list
      cases hz
      refine ⟨p, us, rfl, SqL.of hS, fun t ht => ?_⟩
      exact q _ (ext_new ht) (d3.new ht) t _ (R.none_back ((e1.trans e2).trans e3) d3 ht) upd_same (Nat.le_trans (cutV_length _ _ _) hl) ((hA.cut l u).newx ht d3)
    | _ => cases hz⟩⟩⟩
end
end DL

/-! DL5: statements by their meaning. -/
namespace DL
open PySem PySem.Spec L2
open PyProof.Rows hiding St

/-! ### slots stored -/
section
variable {K : PySem.W.Frag} {Γ : Gm} {σ : St} {H H1 : Hp} {env env' : Ev} {ds ds1 : DS}
/-- a slot that may be stored: it isn't walked -/
def notLk (env : Ev) (i : Nat) : Bool := match env[i]? with
  | some (.lk _) => false
  | _ => true
def put (i : Nat) (x : Sl) (env : Ev) : Option Ev := if notLk env i && decide (i < env.length) then some (env.set i x) else none
theorem put_some {i : Nat} {x : Sl} (h : put i x env = some env') : (∀ xs, env[i]? ≠ some (.lk xs)) ∧ i < env.length ∧ env' = env.set i x := by
  unfold put at h
  split at h
  · rename_i hc
    rw [Bool.and_eq_true] at hc
    cases h
    refine ⟨fun xs q => ?_, of_decide_eq_true hc.2, rfl⟩
    have := hc.1
    unfold notLk at this
    rw [q] at this
    cases this
  · cases h
theorem owned_set_d {i : Nat} {v : V} {x : Sl} (hx : x.own = false) {a : Addr} (h : owned (σ.set i (some v)) (env.set i x) a) : owned σ env a ∧ True := by
  obtain ⟨j, y, h1, h2, h3⟩ := h
  refine ⟨?_, trivial⟩
  by_cases e : i = j
  · subst e
    by_cases hl : i < env.length
    · rw [List.getElem?_set_self hl] at h1
      cases h1
      rw [hx] at h2
      cases h2
    · rw [List.getElem?_eq_none (by rw [List.length_set]; omega)] at h1
      cases h1
  · rw [List.getElem?_set_ne e] at h1 h3
    exact ⟨j, y, h1, h2, h3⟩
theorem gd_set_d {i : Nat} {v : V} {x : Sl} (hx : x.own = false) {a : Addr} (h : gd Γ σ env a) : gd Γ (σ.set i (some v)) (env.set i x) a := ⟨h.1, fun q => h.2.1 (owned_set_d hx q).1, h.2.2⟩
/-- what a slot tells, under more good addresses -/
theorem SlR.mono {g g' : Addr → Prop} {v : Option (Option V)} {x : Sl} (h : SlR K Γ H g v x) (hg : ∀ a, g a → g' a) : SlR K Γ H g' v x := by
  have m : ∀ {us : List V} {xs : List PyData}, DfAll K H g us xs → DfAll K H g' us xs := fun q => q.mono (fun a u z e => ⟨hg a z, e⟩) fun _ _ z => z
  cases x with
  | un => trivial
  | d y =>
    obtain ⟨u, e1, e2⟩ := h
    exact ⟨u, e1, e2.mono (fun a u z e => ⟨hg a z, e⟩) fun _ _ z => z⟩
  | l xs =>
    obtain ⟨a, us, e1, e2, e3, e4⟩ := h
    exact ⟨a, us, e1, e2, m e3, e4⟩
  | lk xs =>
    obtain ⟨a, us, e1, e2, e3, e4⟩ := h
    exact ⟨a, us, e1, e2, m e3, e4⟩
  | dc t0 xs =>
    obtain ⟨a, us, e1, e2, e3, e4⟩ := h
    exact ⟨a, us, e1, e2, m e3, e4⟩
  | drw => exact h
  | scr ns => exact h
/-- a slot is stored with what owns nothing -/
theorem Rel.set_n (R : Rel K Γ σ H env ds) {i : Nat} {v : V} {x : Sl} (hx : x.own = false) (h : SlR K Γ H (gd Γ σ env) (some (some v)) x) (hp : put i x env = some env') : Rel K Γ (σ.set i (some v)) H env' ds := by
  obtain ⟨h1, h2, rfl⟩ := put_some hp
  refine ⟨by rw [List.length_set, List.length_set]; exact R.len, fun j y hy => ?_, fun j k y z hjk hj hk oj ok => ?_, R.okf, R.ext, R.draw, fun p e q => R.drc p e (owned_set_d hx q).1, fun p hp => ?_⟩
  · by_cases e : i = j
    · subst e
      rw [List.getElem?_set_self h2] at hy
      cases hy
      rw [List.getElem?_set_self (by rw [R.len]; exact h2)]
      exact h.mono fun a q => gd_set_d hx q
    · rw [List.getElem?_set_ne e] at hy ⊢
      exact (R.slot j y hy).mono fun a q => gd_set_d hx q
  · have n1 : i ≠ j := fun e => by
      subst e
      rw [List.getElem?_set_self h2] at hj
      cases hj
      rw [hx] at oj
      cases oj
    have n2 : i ≠ k := fun e => by
      subst e
      rw [List.getElem?_set_self h2] at hk
      cases hk
      rw [hx] at ok
      cases ok
    rw [List.getElem?_set_ne n1] at hj ⊢
    rw [List.getElem?_set_ne n2] at hk ⊢
    exact R.sep j k y z hjk hj hk oj ok
  · obtain ⟨xs, e1, e2⟩ := R.lkd p hp
    have n1 : i ≠ p.1 := fun e => by
      subst e
      exact h1 xs e1
    exact ⟨xs, by rw [List.getElem?_set_ne n1]; exact e1, by rw [List.getElem?_set_ne n1]; exact e2⟩
theorem Rel.set_d (R : Rel K Γ σ H env ds) {i : Nat} {v : V} {x : PyData} (h : Df K H (gd Γ σ env) v x) (hp : put i (.d x) env = some env') : Rel K Γ (σ.set i (some v)) H env' ds := R.set_n (x := .d x) rfl ⟨v, rfl, h⟩ hp
/-- a slot is stored with a new list: at H the address was free, since then H1 came about -/
theorem Rel.set_l (R : Rel K Γ σ H env ds) (e : Ext Γ H H1) (d : DrR K Γ H1 ds1) {i : Nat} {p : Addr} {us : List V} {xs : List PyData} (hf : H p = none) (hH : H1 p = some (.lst us)) (hl : us.length ≤ sizeLine) (hA : DfAll K H1 (gdx Γ σ env p) us xs) (hp : put i (.l xs) env = some env') :
    Rel K Γ (σ.set i (some (.ref p))) H1 env' ds1 := by
  obtain ⟨h1, h2, rfl⟩ := put_some hp
  have h3 : i < σ.length := by rw [R.len]; exact h2
  have R1 := R.go e d
  have np := R.new_gd hf
  -- what owns afterwards: p, or another slot
  have ow : ∀ a, owned (σ.set i (some (.ref p))) (env.set i (.l xs)) a → a = p ∨ owned σ env a := by
    rintro a ⟨j, y, q1, q2, q3⟩
    by_cases z : i = j
    · subst z
      rw [List.getElem?_set_self h3] at q3
      cases q3
      exact .inl rfl
    · rw [List.getElem?_set_ne z] at q1 q3
      exact .inr ⟨j, y, q1, q2, q3⟩
  have gx : ∀ a, gd Γ σ env a → a ≠ p → gd Γ (σ.set i (some (.ref p))) (env.set i (.l xs)) a := fun a q n => ⟨q.1, fun z => (ow a z).elim n q.2.1, q.2.2⟩
  -- what was told at H keeps away from p
  have keep : ∀ {v : Option (Option V)} {y : Sl}, SlR K Γ H (gd Γ σ env) v y → SlR K Γ H1 (gd Γ (σ.set i (some (.ref p))) (env.set i (.l xs))) v y := by
    intro v y q
    have m : ∀ {u : V} {x : PyData}, Df K H (gd Γ σ env) u x → Df K H1 (gd Γ (σ.set i (some (.ref p))) (env.set i (.l xs))) u x := fun q =>
      (q.avoid hf).mono (fun a u z k => ⟨gx a z.1 z.2, e a _ z.1.2.2 k⟩) fun _ _ z => tup_ext e R.draw z
    have ms : ∀ {u : List V} {x : List PyData}, DfAll K H (gd Γ σ env) u x → DfAll K H1 (gd Γ (σ.set i (some (.ref p))) (env.set i (.l xs))) u x := fun q =>
      (q.avoid hf).mono (fun a u z k => ⟨gx a z.1 z.2, e a _ z.1.2.2 k⟩) fun _ _ z => tup_ext e R.draw z
    cases y with
    | un => trivial
    | d x =>
      obtain ⟨u, q1, q2⟩ := q
      exact ⟨u, q1, m q2⟩
    | l x =>
      obtain ⟨a, u, q1, q2, q3, q4, q5, q6⟩ := q
      exact ⟨a, u, q1, e a _ q6 q2, ms q3, q4, q5, q6⟩
    | lk x =>
      obtain ⟨a, u, q1, q2, q3, q4, q5, q6⟩ := q
      exact ⟨a, u, q1, e a _ q6 q2, ms q3, q4, q5, q6⟩
    | dc t0 x =>
      obtain ⟨a, u, q1, q2, q3, q4, q5, q6⟩ := q
      exact ⟨a, u, q1, e a _ q6 q2, ms q3, q4, q5, q6⟩
    | drw => exact q
    | scr ns =>
      obtain ⟨a, q1, q2, q3⟩ := q
      exact ⟨a, q1, scr_ext e R.draw q2, q3⟩
  have free : Γ.H0 p = none := by
    cases q : Γ.H0 p with
    | none => rfl
    | some o =>
      have := R.ext p o np.2.2 q
      rw [hf] at this
      cases this
  -- an owning slot stands elsewhere
  have apart : ∀ (j : Nat) (y : Sl), env[j]? = some y → y.own = true → σ[j]? ≠ some (some (.ref p)) := fun j y hy oy z => by
    obtain ⟨us', q, _⟩ := R.own_at ⟨j, y, hy, oy, z⟩
    rw [hf] at q
    cases q
  refine ⟨by rw [List.length_set, List.length_set]; exact R.len, fun j y hy => ?_, fun j k y z hjk hj hk oj ok => ?_, R.okf, R1.ext, d, fun q eq z => ?_, fun q hq => ?_⟩
  · by_cases z : i = j
    · subst z
      rw [List.getElem?_set_self h2] at hy
      cases hy
      rw [List.getElem?_set_self h3]
      exact ⟨p, us, rfl, hH, hA.mono (fun a u q k => ⟨gx a q.1 q.2, k⟩) (fun _ _ q => q), hl, free, np.2.2⟩
    · rw [List.getElem?_set_ne z] at hy ⊢
      exact keep (R.slot j y hy)
  · by_cases n1 : i = j
    · subst n1
      have n2 : i ≠ k := hjk
      rw [List.getElem?_set_ne n2] at hk ⊢
      rw [List.getElem?_set_self h3]
      exact fun z' => apart k z hk ok z'.symm
    · rw [List.getElem?_set_ne n1] at hj ⊢
      by_cases n2 : i = k
      · subst n2
        rw [List.getElem?_set_self h3]
        exact fun z' => apart j y hj oj z'
      · rw [List.getElem?_set_ne n2] at hk ⊢
        exact R.sep j k y z hjk hj hk oj ok
  · rcases ow _ z with z | z
    · -- the cells' list was there at H
      have dd := R.draw
      unfold DrR at dd
      rw [eq] at dd
      cases hds : ds with
      | none => rw [hds] at dd; exact dd
      | some s =>
        rw [hds] at dd
        have := dd.2.1
        rw [z, hf] at this
        cases this
    · exact R.drc q eq z
  · obtain ⟨ys, e1, e2⟩ := R.lkd q hq
    have n1 : i ≠ q.1 := fun z => by
      subst z
      exact h1 ys e1
    exact ⟨ys, by rw [List.getElem?_set_ne n1]; exact e1, by rw [List.getElem?_set_ne n1]; exact e2⟩
/-- one's own list is changed -/
theorem Rel.upd_l (R : Rel K Γ σ H env ds) {i : Nat} {a : Addr} {us' : List V} {xs xs' : List PyData} (hs : env[i]? = some (.l xs)) (hv : σ[i]? = some (some (.ref a))) (hl : us'.length ≤ sizeLine) (hA : DfAll K H (gd Γ σ env) us' xs') :
    Rel K Γ σ (upd H a (.lst us')) (env.set i (.l xs')) ds := by
  have q := R.slot i _ hs
  obtain ⟨b, us0, e1, e2, e3, e4, e5, e6⟩ := q
  rw [hv] at e1
  cases e1
  have h2 : i < env.length := (List.getElem?_eq_some_iff.mp hs).1
  have oa : owned σ env a := ⟨i, _, hs, rfl, hv⟩
  have ow : ∀ c, owned σ (env.set i (.l xs')) c ↔ owned σ env c := fun c => by
    constructor
    · rintro ⟨j, y, q1, q2, q3⟩
      by_cases z : i = j
      · subst z
        exact ⟨i, _, hs, rfl, q3⟩
      · rw [List.getElem?_set_ne z] at q1
        exact ⟨j, y, q1, q2, q3⟩
    · rintro ⟨j, y, q1, q2, q3⟩
      by_cases z : i = j
      · subst z
        exact ⟨i, .l xs', by rw [List.getElem?_set_self h2], rfl, q3⟩
      · exact ⟨j, y, by rw [List.getElem?_set_ne z]; exact q1, q2, q3⟩
  have gg : ∀ c, gd Γ σ env c → gd Γ σ (env.set i (.l xs')) c ∧ c ≠ a := fun c q => ⟨⟨q.1, fun z => q.2.1 ((ow c).mp z), q.2.2⟩, fun z => q.2.1 (by rw [z]; exact oa)⟩
  have tq : ∀ c u, H c = some (.tup u) → upd H a (.lst us') c = some (.tup u) := fun c u q => by
    rw [upd_ne (ne_of q e2 (by intro z; cases z))]; exact q
  have m : ∀ {u : V} {x : PyData}, Df K H (gd Γ σ env) u x → Df K (upd H a (.lst us')) (gd Γ σ (env.set i (.l xs'))) u x := fun q =>
    q.mono (fun c u z k => ⟨(gg c z).1, by rw [upd_ne (gg c z).2]; exact k⟩) tq
  have ms : ∀ {u : List V} {x : List PyData}, DfAll K H (gd Γ σ env) u x → DfAll K (upd H a (.lst us')) (gd Γ σ (env.set i (.l xs'))) u x := fun q =>
    q.mono (fun c u z k => ⟨(gg c z).1, by rw [upd_ne (gg c z).2]; exact k⟩) tq
  refine ⟨by rw [List.length_set]; exact R.len, fun j y hy => ?_, fun j k y z hjk hj hk oj ok => ?_, R.okf, fun c o n q => ?_, ?_, fun p e z => R.drc p e ((ow _).mp z), fun p hp => ?_⟩
  · by_cases z : i = j
    · subst z
      rw [List.getElem?_set_self h2] at hy
      cases hy
      exact ⟨a, us', hv, upd_same, ms hA, hl, e5, e6⟩
    · rw [List.getElem?_set_ne z] at hy
      have q := R.slot j y hy
      have ne : ∀ b, y.own = true → σ[j]? = some (some (.ref b)) → b ≠ a := fun b oy e w => R.sep i j _ y z hs hy rfl oy (by rw [hv, e, w])
      cases y with
      | un => trivial
      | d x =>
        obtain ⟨u, q1, q2⟩ := q
        exact ⟨u, q1, m q2⟩
      | l x =>
        obtain ⟨b, u, q1, q2, q3, q4⟩ := q
        exact ⟨b, u, q1, by rw [upd_ne (ne b rfl q1)]; exact q2, ms q3, q4⟩
      | lk x =>
        obtain ⟨b, u, q1, q2, q3, q4⟩ := q
        exact ⟨b, u, q1, by rw [upd_ne (ne b rfl q1)]; exact q2, ms q3, q4⟩
      | dc t0 x =>
        obtain ⟨b, u, q1, q2, q3, q4⟩ := q
        exact ⟨b, u, q1, by rw [upd_ne (ne b rfl q1)]; exact q2, ms q3, q4⟩
      | drw => exact q
      | scr ns =>
        obtain ⟨b, q1, q2, q3⟩ := q
        refine ⟨b, q1, ?_, q3⟩
        rcases q2 with ⟨o, q2⟩ | q2
        · refine .inl ⟨o, ?_⟩
          rw [upd_ne (ne_of q2 e2 (by intro z; cases z))]
          exact q2
        · exact .inr q2
  · have hj' : ∃ y', env[j]? = some y' ∧ y'.own = true := by
      by_cases z : i = j
      · subst z; exact ⟨_, hs, rfl⟩
      · rw [List.getElem?_set_ne z] at hj; exact ⟨y, hj, oj⟩
    have hk' : ∃ y', env[k]? = some y' ∧ y'.own = true := by
      by_cases z : i = k
      · subst z; exact ⟨_, hs, rfl⟩
      · rw [List.getElem?_set_ne z] at hk; exact ⟨_, hk, ok⟩
    obtain ⟨y1, q1, q2⟩ := hj'
    obtain ⟨y2, q3, q4⟩ := hk'
    exact R.sep j k y1 y2 hjk q1 q3 q2 q4
  · have w := R.ext c o n q
    have : c ≠ a := fun z => by rw [z, e5] at q; cases q
    rw [upd_ne this]
    exact w
  · have dd := R.draw
    unfold DrR at dd ⊢
    cases hdr : Γ.dr with
    | none =>
      rw [hdr] at dd
      cases ds with
      | none => trivial
      | some s => exact dd
    | some p =>
      rw [hdr] at dd
      cases ds with
      | none => exact dd
      | some s =>
        obtain ⟨d1, d2, d3⟩ := dd
        refine ⟨by rw [upd_ne fun z => e6 p hdr z.symm]; exact d1, ?_, d3⟩
        have : p.2 ≠ a := fun z => R.drc p hdr (by rw [z]; exact oa)
        rw [upd_ne this]
        exact d2
  · obtain ⟨ys, q1, q2⟩ := R.lkd p hp
    have n1 : i ≠ p.1 := fun z => by
      subst z
      rw [hs] at q1
      cases q1
    exact ⟨ys, by rw [List.getElem?_set_ne n1]; exact q1, q2⟩
end

/-! ### meanings of statements -/
inductive Fl where
  | nx (env : Ev)
  | bk (env : Ev)
  | ct (env : Ev)
  | rt (d : PyData)
  | ex (x : Exn) (env : Ev)
abbrev MS := Ev → DS → Option (Fl × DS)
/-- what is handed back: data; where fr, a new list -/
def RetR (fr : Bool) (K : PySem.W.Frag) (Γ : Gm) (H : Hp) (ds : DS) (v : V) (d : PyData) : Prop :=
  Ext Γ Γ.H0 H ∧ DrR K Γ H ds ∧ if fr = true then ∃ p us xs, v = .ref p ∧ d = .list xs ∧ Γ.H0 p = none ∧ Γ.nd p ∧ H p = some (.lst us) ∧ us.length ≤ sizeLine ∧ DfAll K H (fun a => (Γ.ok a ∧ Γ.nd a) ∧ a ≠ p) us xs
    else Df K H (fun a => Γ.ok a ∧ Γ.nd a) v d
def rdS (K : PySem.W.Frag) (C : Exs) (W : WX) (fr : Bool) (m : MS) : TS := fun D σ H => ∃ Γ env ds, Rel K Γ σ H env ds ∧
  match m env ds with
  | some (.nx env', ds') => ∀ σ' H', Rel K Γ σ' H' env' ds' → D.nx σ' H'
  | some (.bk env', ds') => ∀ σ' H', Rel K Γ σ' H' env' ds' → D.bk σ' H'
  | some (.ct env', ds') => ∀ σ' H', Rel K Γ σ' H' env' ds' → D.ct σ' H'
  | some (.rt d, ds') => ∀ v H', RetR fr K Γ H' ds' v d → D.rt v H'
  | some (.ex x env', ds') => ∀ cls dd σ' H', Rel K Γ σ' H' env' ds' → ExR C x cls dd H' → W cls dd σ' H'
  | none => False
/-- the same as a statement about a result -/
def Aft2 (K : PySem.W.Frag) (C : Exs) (W : WX) (fr : Bool) (Γ : Gm) (D : Ends) (r : Option (Fl × DS)) : Prop :=
  match r with
  | some (.nx env', ds') => ∀ σ' H', Rel K Γ σ' H' env' ds' → D.nx σ' H'
  | some (.bk env', ds') => ∀ σ' H', Rel K Γ σ' H' env' ds' → D.bk σ' H'
  | some (.ct env', ds') => ∀ σ' H', Rel K Γ σ' H' env' ds' → D.ct σ' H'
  | some (.rt d, ds') => ∀ v H', RetR fr K Γ H' ds' v d → D.rt v H'
  | some (.ex x env', ds') => ∀ cls dd σ' H', Rel K Γ σ' H' env' ds' → ExR C x cls dd H' → W cls dd σ' H'
  | none => False
theorem rdS_iff {K : PySem.W.Frag} {C : Exs} {W : WX} {fr : Bool} {m : MS} {D : Ends} {σ : St} {H : Hp} : rdS K C W fr m D σ H ↔ ∃ Γ env ds, Rel K Γ σ H env ds ∧ Aft2 K C W fr Γ D (m env ds) := Iff.rfl
abbrev SS (X : Cx) (C : Exs) (W : WX) (fr : Bool) (st : Stmt) (m : MS) : Prop := PS X st (rdS X.K C W fr m)
abbrev SSs (X : Cx) (C : Exs) (W : WX) (fr : Bool) (st : List Stmt) (m : MS) : Prop := PSs X st (rdS X.K C W fr m)
theorem PS.imp {X : Cx} {st : Stmt} {t t' : TS} (h : PS X st t) (f : ∀ D σ H, t' D σ H → t D σ H) : PS X st t' := ⟨fun pins s σ H D I q => h.run pins s σ H D I (f D σ H q)⟩
theorem PSs.imp {X : Cx} {st : List Stmt} {t t' : TS} (h : PSs X st t) (f : ∀ D σ H, t' D σ H → t D σ H) : PSs X st t' := ⟨fun pins s σ H D I q => h.run pins s σ H D I (f D σ H q)⟩
/-- from an expression's result to a statement's -/
def exS {α : Type} (a : ME α) (f : α → MS) : MS := fun env ds => match a env ds with
  | some (.ok x, ds') => f x env ds'
  | some (.exc e, ds') => some (.ex e env, ds')
  | none => none
def mSkip : MS := fun env ds => some (.nx env, ds)
def mSeq (a b : MS) : MS := fun env ds => match a env ds with
  | some (.nx env', ds') => b env' ds'
  | r => r
def mSet (i : Nat) (a : ME PyData) : MS := exS a fun x env ds => match put i (.d x) env with
  | some env' => some (.nx env', ds)
  | none => none
def mSetL (i : Nat) (a : ME (List PyData)) : MS := exS a fun xs env ds => match put i (.l xs) env with
  | some env' => some (.nx env', ds)
  | none => none
def mDrop (a : ME PyData) : MS := exS a fun _ => mSkip
def mRet (a : ME PyData) : MS := exS a fun x _ ds => some (.rt x, ds)
def mRetF (a : ME (List PyData)) : MS := exS a fun x _ ds => some (.rt (.list x), ds)
def mRetN : MS := fun _ ds => some (.rt .none, ds)
def mIfS (c : ME Bool) (a b : MS) : MS := exS c fun x => if x then a else b
def mRaise (x : Exn) : MS := fun env ds => some (.ex x env, ds)
def mBrk : MS := fun env ds => some (.bk env, ds)
def mCont : MS := fun env ds => some (.ct env, ds)
def mNever : MS := fun _ _ => none

section
variable {X : Cx} {C : Exs} {W : WX} {fr : Bool} {st : Stmt} {rest : List Stmt} {m m1 m2 : MS} {e : Expr} {me : ME PyData} {mf : ME (List PyData)} {pos : Pos}
theorem exS_aft {K : PySem.W.Frag} {α : Type} {a : ME α} {f : α → MS} {Γ : Gm} {σ : St} {H : Hp} {env : Ev} {ds : DS} {D : Ends} (R : Rel K Γ σ H env ds) (h : Aft2 K C W fr Γ D (exS a f env ds)) :
    Aft K C W Γ σ H (a env ds) fun x ds1 H1 => Aft2 K C W fr Γ D (f x env ds1) := by
  unfold exS at h
  unfold Aft
  rcases q : a env ds with _ | ⟨x | x, ds1⟩
  · rw [q] at h; exact h
  · rw [q] at h; exact fun H1 e1 d1 => h
  · rw [q] at h
    exact fun cls d H1 e1 d1 hx => h cls d σ H1 (R.go e1 d1) hx
theorem ss_pass : SS X C W fr (.Pass pos) mSkip := PS.imp ps_pass fun D σ H ⟨Γ, env, ds, R, h⟩ => h σ H R
theorem ss_break : SS X C W fr (.Break pos) mBrk := PS.imp ps_break fun D σ H ⟨Γ, env, ds, R, h⟩ => h σ H R
theorem ss_cont : SS X C W fr (.Continue pos) mCont := PS.imp ps_continue fun D σ H ⟨Γ, env, ds, R, h⟩ => h σ H R
theorem sss_nil : SSs X C W fr [] mSkip := PSs.imp pss_nil fun D σ H ⟨Γ, env, ds, R, h⟩ => h σ H R
theorem sss_one (h : SS X C W fr st m) : SSs X C W fr [st] m := pss_one h
theorem seq_aft {K : PySem.W.Frag} {Γ : Gm} {D : Ends} {env : Ev} {ds : DS} (h : Aft2 K C W fr Γ D (mSeq m1 m2 env ds)) : Aft2 K C W fr Γ { D with nx := rdS K C W fr m2 D } (m1 env ds) := by
  unfold mSeq at h
  rcases q : m1 env ds with _ | ⟨f, ds1⟩
  · rw [q] at h; exact h
  · rw [q] at h
    cases f with
    | nx env' => exact fun σ' H' R' => ⟨Γ, env', ds1, R', h⟩
    | bk env' => exact h
    | ct env' => exact h
    | rt d => exact h
    | ex x env' => exact h
theorem sss_cons (h1 : SS X C W fr st m1) (h2 : SSs X C W fr rest m2) : SSs X C W fr (st :: rest) (mSeq m1 m2) :=
  PSs.imp (pss_cons h1 h2) fun D σ H ⟨Γ, env, ds, R, h⟩ => ⟨Γ, env, ds, R, seq_aft h⟩
theorem ss_set (i : Nat) {x : Str} {pos' : Pos} (hN : X.N.Nodup) (he : SE X C W e me) (hi : X.N[i]? = some x := by rfl) (hx : Loc X.env.scope x := by exact .inl rfl) (hs : swapsWith e (some (.Name x pos')) pos.line X.env = pure false := by rfl)
    (hf : X.fn x = true ∨ X.env.scope.names.lookup x = some .local := by first | exact .inl rfl | exact .inr rfl) : SS X C W fr (.Assign [.Name x pos'] e pos) (mSet i me) :=
  PS.imp (ps_set hN hi hx he hs hf) fun D σ H ⟨Γ, env, ds, R, h⟩ => ⟨Γ, env, ds, R, (exS_aft R h).imp fun d ds1 H1 e1 d1 q v hv => by
    cases hp : put i (.d d) env with
    | none => rw [hp] at q; exact q.elim
    | some env' =>
      rw [hp] at q
      exact q _ _ ((R.go e1 d1).set_d hv hp)⟩
theorem ss_setL (i : Nat) {x : Str} {pos' : Pos} (hN : X.N.Nodup) (he : SF X C W e mf) (hi : X.N[i]? = some x := by rfl) (hx : Loc X.env.scope x := by exact .inl rfl) (hs : swapsWith e (some (.Name x pos')) pos.line X.env = pure false := by rfl)
    (hf : X.fn x = true ∨ X.env.scope.names.lookup x = some .local := by first | exact .inl rfl | exact .inr rfl) : SS X C W fr (.Assign [.Name x pos'] e pos) (mSetL i mf) :=
  PS.imp (ps_set hN hi hx he hs hf) fun D σ H ⟨Γ, env, ds, R, h⟩ => ⟨Γ, env, ds, R, (exS_aft R h).imp fun d ds1 H1 e1 d1 q a us h1 h2 h3 h4 => by
    cases hp : put i (.l d) env with
    | none => rw [hp] at q; exact q.elim
    | some env' =>
      rw [hp] at q
      exact q _ _ (R.set_l e1 d1 h1 h2 h3 h4 hp)⟩
theorem ss_expr (he : SE X C W e me) (hs : swapsWith e none pos.line X.env = pure false := by rfl) : SS X C W fr (.Expr e pos) (mDrop me) :=
  PS.imp (ps_expr he hs) fun D σ H ⟨Γ, env, ds, R, h⟩ => ⟨Γ, env, ds, R, (exS_aft R h).imp fun d ds1 H1 e1 d1 q v hv => q _ _ (R.go e1 d1)⟩
theorem ss_ret (he : SE X C W e me) : SS X C W false (.Return (some e) pos) (mRet me) :=
  PS.imp (ps_ret he) fun D σ H ⟨Γ, env, ds, R, h⟩ => ⟨Γ, env, ds, R, (exS_aft R h).imp fun d ds1 H1 e1 d1 q v hv => q v H1 ⟨R.ext.trans e1, d1, hv.mono (fun a u z k => ⟨⟨z.1, z.2.2⟩, k⟩) fun _ _ z => z⟩⟩
theorem ss_retN : SS X C W false (.Return none pos) mRetN :=
  PS.imp ps_retN fun D σ H ⟨Γ, env, ds, R, h⟩ => h .non H ⟨R.ext, R.draw, .non⟩
theorem ss_retF (he : SF X C W e mf) : SS X C W true (.Return (some e) pos) (mRetF mf) :=
  PS.imp (ps_ret he) fun D σ H ⟨Γ, env, ds, R, h⟩ => ⟨Γ, env, ds, R, (exS_aft R h).imp fun d ds1 H1 e1 d1 q a us h1 h2 h3 h4 => by
    have np := R.new_gd h1
    refine q (.ref a) H1 ⟨R.ext.trans e1, d1, ?_⟩
    rw [if_pos rfl]
    refine ⟨a, us, d, rfl, rfl, ?_, np.2.2, h2, h3, h4.mono (fun b u z k => ⟨⟨⟨z.1.1, z.1.2.2⟩, z.2⟩, k⟩) fun _ _ z => z⟩
    cases q' : Γ.H0 a with
    | none => rfl
    | some o =>
      have := R.ext a o np.2.2 q'
      rw [h1] at this
      cases this⟩
/-- one's own list is handed back -/
def mRetL (i : Nat) : MS := fun env ds => match env[i]? with
  | some (.l xs) => some (.rt (.list xs), ds)
  | _ => none
theorem ss_retL (i : Nat) {x : Str} {p : Pos} (hN : X.N[i]? = some x := by rfl) (hv : Vis X.env.scope x := by first | exact Or.inl rfl | exact Or.inr (Or.inl rfl) | exact Or.inr (Or.inr rfl)) (hd : (x == ("__debug__" : Str)) = false := by decide)
    (hcd : (x == ("__classdict__" : Str)) = false := by decide) (fr : Bool) : SS X C W fr (.Return (some (.Name x p)) pos) (mRetL i) :=
  PS.imp (ps_ret (pe_var hN hv hd hcd)) fun D σ H ⟨Γ, env, ds, R, h⟩ => by
    unfold mRetL at h
    cases q : env[i]? with
    | none => rw [q] at h; exact h.elim
    | some x =>
      rw [q] at h
      have s := R.slot i x q
      cases x with
      | l xs =>
        obtain ⟨a, us, e1, e2, e3, e4, e5, e6⟩ := s
        refine ⟨_, e1, h (.ref a) H ⟨R.ext, R.draw, ?_⟩⟩
        have oa : owned σ env a := ⟨i, _, q, rfl, e1⟩
        cases fr with
        | true =>
          rw [if_pos rfl]
          exact ⟨a, us, xs, rfl, rfl, e5, e6, e2, e4, e3.mono (fun b u z k => ⟨⟨⟨z.1, z.2.2⟩, fun w => z.2.1 (by rw [w]; exact oa)⟩, k⟩) fun _ _ z => z⟩
        | false =>
          rw [if_neg Bool.false_ne_true]
          exact .lst ⟨R.okf a e5, e6⟩ e2 e4 (e3.mono (fun b u z k => ⟨⟨z.1, z.2.2⟩, k⟩) fun _ _ z => z)
      | _ => exact h.elim
theorem ss_if {c : Expr} {a b : List Stmt} {mc : ME Bool} (hc : ST X C W c mc) (ha : SSs X C W fr a m1) (hb : SSs X C W fr b m2) : SS X C W fr (.If c a b pos) (mIfS mc m1 m2) :=
  PS.imp (ps_if hc ha hb) fun D σ H ⟨Γ, env, ds, R, h⟩ => ⟨Γ, env, ds, R, (exS_aft R h).imp fun d ds1 H1 e1 d1 q => by
    cases d with
    | true =>
      rw [if_pos rfl]
      exact ⟨Γ, env, ds1, R.go e1 d1, q⟩
    | false =>
      rw [if_neg Bool.false_ne_true]
      exact ⟨Γ, env, ds1, R.go e1 d1, q⟩⟩
theorem ss_raise {x n : Str} {j : Nat} {p p2 p3 : Pos} {Cm : Addr} (hc : X.calm = true) (tk : Takes X W) (hC : C.m = Cm) (q : PySem.W.excIn X.K Cm [.type "ValueError", .type "Exception", .type "BaseException", .type "object"] "ValueError.__new__" = true) (gC : X.mg x = some (.ref Cm)) (kC : PySem.W.keepIn X.K (.ref Cm) = true) (r : Raises X (.ref Cm)) (hg : Gl X x)
    (hdb : (x == ("__debug__" : Str)) = false := by decide) : SS X C W fr (.Raise (some (.Call (.Name x p) [.Constant (.str n) j p2] [] p3)) none pos) (mRaise .malformed) :=
  PS.imp (ps_raise hc tk (pmk_own PySem.F.excBase_ValueError q gC kC r hg hdb)) fun D σ H ⟨Γ, env, ds, R, h⟩ => h _ none σ H R ⟨by rw [hC], rfl⟩
end
end DL

/-! DL6: targets, loops, comprehensions. -/
namespace DL
open PySem PySem.Spec L2
open PyProof.Rows hiding St

/-! ### another ground -/
section
variable {K : PySem.W.Frag} {C : Exs} {W : WX} {fr : Bool} {Γ : Gm} {σ σ' : St} {H H1 H' : Hp} {env env' : Ev} {ds ds' : DS}
open Classical in
noncomputable def Gm.at (Γ : Gm) (σ : St) (env : Ev) (H : Hp) : Gm := { Γ with H0 := fun a => if owned σ env a then none else H a }
open Classical in
theorem Gm.at_some {a : Addr} {o : HO} (h : ¬ owned σ env a) (e : H a = some o) : (Γ.at σ env H).H0 a = some o := by
  show (if owned σ env a then none else H a) = some o
  rw [if_neg h]
  exact e
open Classical in
theorem Gm.at_none {a : Addr} (h : (Γ.at σ env H).H0 a = none) : owned σ env a ∨ H a = none := by
  by_cases q : owned σ env a
  · exact .inl q
  · refine .inr ?_
    have h' : (if owned σ env a then none else H a) = none := h
    rw [if_neg q] at h'
    exact h'
open Classical in
theorem Gm.at_le {a : Addr} {o : HO} (h : (Γ.at σ env H).H0 a = some o) : H a = some o := by
  have h' : (if owned σ env a then none else H a) = some o := h
  split at h'
  · cases h'
  · exact h'
open Classical in
theorem Gm.at_owned {a : Addr} (h : owned σ env a) : (Γ.at σ env H).H0 a = none := by
  show (if owned σ env a then none else H a) = none
  rw [if_pos h]
theorem Rel.rebase (R : Rel K Γ σ H env ds) : Rel K (Γ.at σ env H) σ H env ds where
  len := R.len
  slot := fun i x hx => by
    have q := R.slot i x hx
    cases x with
    | un => trivial
    | d y => exact q
    | l xs =>
      obtain ⟨a, us, e1, e2, e3, e4, e5, e6⟩ := q
      exact ⟨a, us, e1, e2, e3, e4, Gm.at_owned ⟨i, _, hx, rfl, e1⟩, e6⟩
    | lk xs =>
      obtain ⟨a, us, e1, e2, e3, e4, e5, e6⟩ := q
      exact ⟨a, us, e1, e2, e3, e4, Gm.at_owned ⟨i, _, hx, rfl, e1⟩, e6⟩
    | dc t0 xs =>
      obtain ⟨a, us, e1, e2, e3, e4, e5, e6⟩ := q
      exact ⟨a, us, e1, e2, e3, e4, Gm.at_owned ⟨i, _, hx, rfl, e1⟩, e6⟩
    | drw => exact q
    | scr ns => exact q
  sep := R.sep
  okf := fun a h => by
    rcases Gm.at_none h with q | q
    · obtain ⟨_, _, _, e, _⟩ := R.own_at q
      exact R.okf a e
    · exact (R.new_gd q).1
  ext := fun a o _ h => Gm.at_le h
  draw := R.draw
  drc := R.drc
  lkd := R.lkd
theorem Gm.at_free (R : Rel K Γ σ H env ds) {a : Addr} (h : (Γ.at σ env H).H0 a = none) : Γ.H0 a = none := by
  rcases Gm.at_none h with q | q
  · obtain ⟨_, _, _, e, _⟩ := R.own_at q
    exact e
  · cases k : Γ.H0 a with
    | none => rfl
    | some o =>
      have := R.ext a o (R.new_gd q).2.2 k
      rw [q] at this
      cases this
theorem Gm.at_ext (R : Rel K Γ σ H env ds) (e : Ext (Γ.at σ env H) (Γ.at σ env H).H0 H') : Ext Γ Γ.H0 H' := fun a o n h => by
  refine e a o n (Gm.at_some (fun q => ?_) (R.ext a o n h))
  obtain ⟨_, _, _, z, _⟩ := R.own_at q
  rw [h] at z
  cases z
theorem Rel.unbase (R : Rel K Γ σ H env ds) (R' : Rel K (Γ.at σ env H) σ' H' env' ds') : Rel K Γ σ' H' env' ds' where
  len := R'.len
  slot := fun i x hx => by
    have q := R'.slot i x hx
    cases x with
    | un => trivial
    | d y => exact q
    | l xs =>
      obtain ⟨a, us, e1, e2, e3, e4, e5, e6⟩ := q
      exact ⟨a, us, e1, e2, e3, e4, Gm.at_free R e5, e6⟩
    | lk xs =>
      obtain ⟨a, us, e1, e2, e3, e4, e5, e6⟩ := q
      exact ⟨a, us, e1, e2, e3, e4, Gm.at_free R e5, e6⟩
    | dc t0 xs =>
      obtain ⟨a, us, e1, e2, e3, e4, e5, e6⟩ := q
      exact ⟨a, us, e1, e2, e3, e4, Gm.at_free R e5, e6⟩
    | drw => exact q
    | scr ns => exact q
  sep := R'.sep
  okf := R.okf
  ext := Gm.at_ext R R'.ext
  draw := R'.draw
  drc := R'.drc
  lkd := R'.lkd
theorem RetR.unbase (R : Rel K Γ σ H env ds) {v : V} {d : PyData} (h : RetR fr K (Γ.at σ env H) H' ds' v d) : RetR fr K Γ H' ds' v d := by
  obtain ⟨h1, h2, h3⟩ := h
  refine ⟨Gm.at_ext R h1, h2, ?_⟩
  cases fr with
  | true =>
    rw [if_pos rfl] at h3 ⊢
    obtain ⟨p, us, xs, e1, e2, e3, e4⟩ := h3
    exact ⟨p, us, xs, e1, e2, Gm.at_free R e3, e4⟩
  | false => exact h3
theorem Aft2.rebase (R : Rel K Γ σ H env ds) {D : Ends} {r : Option (Fl × DS)} (h : Aft2 K C W fr Γ D r) : Aft2 K C W fr (Γ.at σ env H) D r := by
  rcases r with _ | ⟨f, ds1⟩
  · exact h
  · cases f with
    | nx e => exact fun σ' H' R' => h σ' H' (R.unbase R')
    | bk e => exact fun σ' H' R' => h σ' H' (R.unbase R')
    | ct e => exact fun σ' H' R' => h σ' H' (R.unbase R')
    | rt d => exact fun v H' q => h v H' (q.unbase R)
    | ex x e => exact fun cls dd σ' H' R' hx => h cls dd σ' H' (R.unbase R') hx
end

/-! ### targets -/
abbrev Tg := PyData → Ev → Option Ev
abbrev Tgs := List PyData → Ev → Option Ev
/-- slots but those of is stand as they stood -/
def SameBut (is : List Nat) (σ σ' : St) : Prop := σ'.length = σ.length ∧ ∀ j, j ∉ is → σ'[j]? = σ[j]?
def EvBut (is : List Nat) (env env' : Ev) : Prop := env'.length = env.length ∧ ∀ j, j ∉ is → env'[j]? = env[j]?
def rdTg (K : PySem.W.Frag) (is : List Nat) (t : Tg) : TG := fun v σ H Q => ∃ Γ env ds d env', Rel K Γ σ H env ds ∧ Df K H (gd Γ σ env) v d ∧ t d env = some env' ∧ ∀ σ', Rel K Γ σ' H env' ds → SameBut is σ σ' → EvBut is env env' → Q σ' H
def rdTgs (K : PySem.W.Frag) (is : List Nat) (t : Tgs) : TGs := fun vs σ H Q => ∃ Γ env ds d env', Rel K Γ σ H env ds ∧ DfAll K H (gd Γ σ env) vs d ∧ t d env = some env' ∧ ∀ σ', Rel K Γ σ' H env' ds → (∀ a, gd Γ σ env a → gd Γ σ' env' a) → SameBut is σ σ' → EvBut is env env' → Q σ' H
def rdTgm (K : PySem.W.Frag) (is : List Nat) (t : Tg) : TG := fun v σ H Q => ∃ Γ env ds d env', Rel K Γ σ H env ds ∧ Df K H (gd Γ σ env) v d ∧ t d env = some env' ∧ ∀ σ', Rel K Γ σ' H env' ds → (∀ a, gd Γ σ env a → gd Γ σ' env' a) → SameBut is σ σ' → EvBut is env env' → Q σ' H
abbrev SG (X : Cx) (tg : Expr) (is : List Nat) (t : Tg) : Prop := PG X tg (rdTgm X.K is t)
abbrev SGs (X : Cx) (tg : List Expr) (is : List Nat) (t : Tgs) : Prop := PGs X tg (rdTgs X.K is t)
def tName (i : Nat) : Tg := fun d env => put i (.d d) env
def tTup (n : Nat) (ts : Tgs) : Tg := fun d env => match d with
  | .tuple xs => if xs.length = n then ts xs env else none
  | _ => none
def tNilT : Tgs := fun xs env => if xs.isEmpty then some env else none
def tConsT (t : Tg) (ts : Tgs) : Tgs := fun xs env => match xs with
  | x :: r => (t x env).bind (ts r)
  | [] => none
section
variable {X : Cx} {e : Expr} {es : List Expr} {is js : List Nat} {t : Tg} {ts : Tgs} {pos : Pos}
theorem PG.imp {X : Cx} {e : Expr} {t t' : TG} (h : PG X e t) (f : ∀ v σ H Q, t' v σ H Q → t v σ H Q) : PG X e t' := ⟨fun pins s σ H v u Q I r q => h.run pins s σ H v u Q I r (f v σ H Q q)⟩
theorem PGs.imp {X : Cx} {e : List Expr} {t t' : TGs} (h : PGs X e t) (f : ∀ v σ H Q, t' v σ H Q → t v σ H Q) : PGs X e t' := ⟨fun pins s σ H vs us Q I r q => h.run pins s σ H vs us Q I r (f vs σ H Q q)⟩
theorem sg_name (i : Nat) {x : Str} (hN : X.N.Nodup) (hi : X.N[i]? = some x := by rfl) (hx : Loc X.env.scope x := by exact .inl rfl) (hf : X.fn x = true ∨ X.env.scope.names.lookup x = some .local := by first | exact .inl rfl | exact .inr rfl) : SG X (.Name x pos) [i] (tName i) :=
  PG.imp (pg_name hN hi hx hf) fun v σ H Q ⟨Γ, env, ds, d, env', R, hv, ht, q⟩ => by
    obtain ⟨h1, h2, h3⟩ := put_some ht
    refine q _ (R.set_d hv ht) (fun a z => by rw [h3]; exact gd_set_d rfl z) ⟨List.length_set .., fun j hj => ?_⟩ ⟨by rw [h3, List.length_set], fun j hj => ?_⟩
    · rw [List.getElem?_set_ne fun z => hj (by rw [z]; exact List.mem_cons_self)]
    · rw [h3, List.getElem?_set_ne fun z => hj (by rw [z]; exact List.mem_cons_self)]
theorem sgs_nil : SGs X [] [] tNilT := PGs.imp pgs_nil fun v σ H Q ⟨Γ, env, ds, d, env', R, hv, ht, q⟩ => by
  unfold tNilT at ht
  split at ht
  · rename_i hd
    cases ht
    cases d with
    | nil =>
      cases hv
      exact ⟨rfl, q σ R (fun _ z => z) ⟨rfl, fun _ _ => rfl⟩ ⟨rfl, fun _ _ => rfl⟩⟩
    | cons x r => cases hd
  · cases ht
theorem sgs_cons (h1 : SG X e is t) (h2 : SGs X es js ts) (hs : (assignEach (e :: es) X.env).map (·.2) = assign e X.env :: (assignEach es X.env).map (·.2) := by rfl) : SGs X (e :: es) (is ++ js) (tConsT t ts) :=
  PGs.imp (pgs_cons h1 h2 hs) fun v σ H Q ⟨Γ, env, ds, d, env', R, hv, ht, q⟩ => by
    cases hv with
    | nil => cases ht
    | cons a b =>
      obtain ⟨env1, q1, q2⟩ := Option.bind_eq_some_iff.mp (show (t _ env).bind _ = some env' from ht)
      refine ⟨_, _, rfl, Γ, env, ds, _, env1, R, a, q1, fun σ1 R1 g1 s1 v1 => ?_⟩
      refine ⟨Γ, env1, ds, _, env', R1, b.mono (fun c u z k => ⟨g1 c z, k⟩) (fun _ _ z => z), q2, fun σ2 R2 g2 s2 v2 => ?_⟩
      refine q σ2 R2 (fun c z => g2 c (g1 c z)) ⟨s2.1.trans s1.1, fun j hj => ?_⟩ ⟨v2.1.trans v1.1, fun j hj => ?_⟩
      · exact (s2.2 j fun z => hj (List.mem_append_right _ z)).trans (s1.2 j fun z => hj (List.mem_append_left _ z))
      · exact (v2.2 j fun z => hj (List.mem_append_right _ z)).trans (v1.2 j fun z => hj (List.mem_append_left _ z))
theorem sg_tup {k n : Nat} (hc : X.calm = true) (h : SGs X es is ts) (hn : (assignEach es X.env).length = n := by rfl) (hst : (assignEach es X.env).findIdx? (·.1) = none := by rfl) : SG X (.Tuple es k pos) is (tTup n ts) :=
  PG.imp (pg_tup hc h hn hst) fun v σ H Q ⟨Γ, env, ds, d, env', R, hv, ht, q⟩ => by
    unfold tTup at ht
    split at ht
    · split at ht
      · rename_i hl
        cases hv with
        | tup a1 a2 a3 => exact ⟨_, _, rfl, SqT.of a1, a3.length.trans hl, Γ, env, ds, _, env', R, a3, ht, q⟩
      · cases ht
    · cases ht
/-- target = data -/
def mAsg (t : Tg) (a : ME PyData) : MS := exS a fun x env ds => match t x env with
  | some env' => some (.nx env', ds)
  | none => none
theorem ss_asg {C : Exs} {W : WX} {fr : Bool} {tg : Expr} {me : ME PyData} (he : SE X C W e me) (hg : SG X tg is t) (hs : swapsWithSole [tg] e pos.line X.env = pure false := by rfl) (hw : swappedStores [tg] e X.env = pure none := by rfl)
    (h1 : (assignEach [tg] X.env).map (·.2) = [assign tg X.env] := by rfl) : SS X C W fr (.Assign [tg] e pos) (mAsg t me) :=
  PS.imp (ps_asg he hg hs hw h1) fun D σ H ⟨Γ, env, ds, R, h⟩ => ⟨Γ, env, ds, R, (exS_aft R h).imp fun d ds1 H1 e1 d1 q v hv => by
    cases ht : t d env with
    | none => rw [ht] at q; exact q.elim
    | some env' =>
      rw [ht] at q
      exact ⟨Γ, env, ds1, d, env', R.go e1 d1, hv, ht, fun σ' R' _ _ _ => q σ' H1 R'⟩⟩
end

/-! ### what is walked -/
structure Wlk (K : PySem.W.Frag) (J : It) (items : List PyData) (g : Addr → Prop) (H : Hp) : Prop where
  go : ∀ i, i < items.length → J.go i H
  yld : ∀ i x H', i < items.length → J.yld i H x H' → ∃ d, items[i]? = some d ∧ (∀ a o, H a = some o → H' a = some o) ∧ Df K H' g x d
  stop : ∀ i, items.length ≤ i → J.stop i H
theorem Wlk.mono {K : PySem.W.Frag} {J : It} {items : List PyData} {g g' : Addr → Prop} {H : Hp} (h : Wlk K J items g H) (hg : ∀ a, g a → g' a) : Wlk K J items g' H :=
  ⟨h.go, fun i x H' hi q => let ⟨d, e1, e2, e3⟩ := h.yld i x H' hi q; ⟨d, e1, e2, e3.mono (fun a u z k => ⟨hg a z, k⟩) fun _ _ z => z⟩, h.stop⟩
def Kept (Γ : Gm) (σ : St) (env : Ev) (H H' : Hp) : Prop := ∀ a o, ¬ owned σ env a → Γ.nd a → (∀ us, o = .lst us → Γ.ok a) → H a = some o → H' a = some o
def Wk (K : PySem.W.Frag) (Γ : Gm) (σ : St) (env : Ev) (J : It) (items : List PyData) (H : Hp) : Prop := ∀ H2, Kept Γ σ env H H2 → Wlk K J items (fun b => gd Γ σ env b ∧ H b ≠ none) H2
def rdI (K : PySem.W.Frag) (C : Exs) (W : WX) (mi : ME (List PyData)) : TI := fun σ H R => ∃ Γ env ds, Rel K Γ σ H env ds ∧ Aft K C W Γ σ H (mi env ds) fun items _ H' => ∀ J, Wk K Γ σ env J items H' → R J H'
abbrev SI (X : Cx) (C : Exs) (W : WX) (tg iter : Expr) (mi : ME (List PyData)) : Prop := PI X tg iter (rdI X.K C W mi)
theorem PI.imp {X : Cx} {tg e : Expr} {t t' : TI} (h : PI X tg e t) (f : ∀ σ H Q, t' σ H Q → t σ H Q) : PI X tg e t' := ⟨fun pins s σ H Q I q => h.run pins s σ H Q I (f σ H Q q)⟩
section
variable {K : PySem.W.Frag} {Γ : Gm} {σ : St} {env : Ev} {H H2 : Hp} {ds : DS}
theorem kept_nd (R : Rel K Γ σ H env ds) {a : Addr} {o : HO} (h : H a = some o) (hn : ¬ MutO o) : ¬ owned σ env a ∧ Γ.nd a := by
  refine ⟨fun q => ?_, fun p e z => ?_⟩
  · obtain ⟨_, e, mo, _⟩ := R.own_at q
    rw [h] at e
    cases e
    exact hn mo
  · have d := R.draw
    unfold DrR at d
    rw [e] at d
    cases ds with
    | none => exact d
    | some s =>
      have := d.1
      rw [← z, h] at this
      cases this
      exact hn (.inl ⟨_, rfl⟩)
theorem kept_sqT (R : Rel K Γ σ H env ds) (k : Kept Γ σ env H H2) {a : Addr} {u : List V} (h : SqT K H a u) : SqT K H2 a u := by
  rcases h with (h | ⟨o, h⟩) | h
  · obtain ⟨n1, n2⟩ := kept_nd R h imm_tup
    exact .inl (.inl (k a _ n1 n2 (fun _ z => by cases z) h))
  · obtain ⟨n1, n2⟩ := kept_nd R h imm_frz
    exact .inl (.inr ⟨o, k a _ n1 n2 (fun _ z => by cases z) h⟩)
  · exact .inr h
theorem kept_tup (R : Rel K Γ σ H env ds) (k : Kept Γ σ env H H2) {a : Addr} {u : List V} (h : H a = some (.tup u)) : H2 a = some (.tup u) := by
  obtain ⟨n1, n2⟩ := kept_nd R h imm_tup
  exact k a _ n1 n2 (fun _ z => by cases z) h
theorem kept_dfAll (R : Rel K Γ σ H env ds) (k : Kept Γ σ env H H2) {u : List V} {x : List PyData} (h : DfAll K H (gd Γ σ env) u x) : DfAll K H2 (fun b => gd Γ σ env b ∧ H b ≠ none) u x :=
  h.mono (fun a u z e => ⟨⟨z, by rw [e]; intro w; cases w⟩, k a _ z.2.1 z.2.2 (fun _ _ => z.1) e⟩) fun _ _ z => kept_tup R k z
/-- SqL, SqT tell one thing, by the data's length and items -/
theorem wk_list (R : Rel K Γ σ H env ds) {a : Addr} {us : List V} {xs : List PyData} (h1 : gd Γ σ env a) (h2 : H a = some (.lst us)) (h3 : DfAll K H (gd Γ σ env) us xs) : Wk K Γ σ env (Itl K a) xs H := fun H2 k => by
  have s2 : H2 a = some (.lst us) := k a _ h1.2.1 h1.2.2 (fun _ _ => h1.1) h2
  have d2 := kept_dfAll R k h3
  refine ⟨fun i hi => ?_, fun i x H' hi q => ?_, fun i hi => ⟨us, SqL.of s2, by rw [h3.length]; exact hi⟩⟩
  · rw [← h3.length] at hi
    exact ⟨us, us[i], SqL.of s2, List.getElem?_eq_getElem hi⟩
  · obtain ⟨rfl, q⟩ := q
    obtain ⟨d, e1, e2⟩ := d2.getV (q us (SqL.of s2))
    exact ⟨d, e1, fun _ _ z => z, e2⟩
theorem wk_tup (R : Rel K Γ σ H env ds) {a : Addr} {us : List V} {xs : List PyData} (h2 : SqT K H a us) (h3 : DfAll K H (gd Γ σ env) us xs) : Wk K Γ σ env (Itt K a) xs H := fun H2 k => by
  have s2 := kept_sqT R k h2
  have d2 := kept_dfAll R k h3
  refine ⟨fun i hi => ?_, fun i x H' hi q => ?_, fun i hi => ⟨us, s2, by rw [h3.length]; exact hi⟩⟩
  · rw [← h3.length] at hi
    exact ⟨us, us[i], s2, List.getElem?_eq_getElem hi⟩
  · obtain ⟨rfl, q⟩ := q
    obtain ⟨d, e1, e2⟩ := d2.getV (q us s2)
    exact ⟨d, e1, fun _ _ z => z, e2⟩
def rangeD (lo : Int) (n : Nat) : List PyData := (List.range n).map fun (k : Nat) => PyData.int (lo + (k : Int))
theorem wk_range {lo : Int} {n : Nat} : Wk K Γ σ env (Itr lo n) (rangeD lo n) H := fun H2 k => by
  have hl : (rangeD lo n).length = n := by unfold rangeD; rw [List.length_map, List.length_range]
  refine ⟨fun i hi => by rw [hl] at hi; exact hi, fun i x H' hi q => ?_, fun i hi => by rw [hl] at hi; exact hi⟩
  obtain ⟨rfl, rfl⟩ := q
  rw [hl] at hi
  refine ⟨_, ?_, fun _ _ z => z, .int _⟩
  unfold rangeD
  rw [List.getElem?_map, List.getElem?_range hi]
  rfl
end
/-! sources -/
def itemsOf : PyData → Option (List PyData)
  | .list xs => some xs
  | .tuple xs => some xs
  | _ => none
def mItems (a : ME PyData) : ME (List PyData) := a.bind fun x => ME.lift (itemsOf x)
def mRng1 (a : ME PyData) : ME (List PyData) := a.bind fun x => ME.lift (match x with | .int j => if decide (-(2 ^ 62) ≤ j ∧ j < 2 ^ 62) then some (rangeD 0 j.toNat) else none | _ => none)
def mRng2 (a b : ME PyData) : ME (List PyData) := a.bind fun x => b.bind fun y => ME.lift (match x, y with | .int i, .int j => if decide (-(2 ^ 62) ≤ i ∧ i < 2 ^ 62 ∧ -(2 ^ 62) ≤ j ∧ j < 2 ^ 62) then some (rangeD i (j - i).toNat) else none | _, _ => none)
section
variable {X : Cx} {C : Exs} {W : WX} {tg e a b : Expr} {me ma mb : ME PyData} {p pos : Pos}
/-- a list or a tuple that is walked -/
def iSeq (K : PySem.W.Frag) (tl : TE) : TI := fun σ H R => tl σ H fun x H1 => ∃ a, x = .ref a ∧ (((∃ xs, SqL K H1 a xs) ∧ R (Itl K a) H1) ∨ ((∃ xs, SqT K H1 a xs) ∧ R (Itt K a) H1))
theorem pi_seq {tl : TE} (hl : PE X e tl) : PI X tg e (iSeq X.K tl) := ⟨fun pins s σ H R I h =>
  thn (hl.run pins s σ H _ I h) fun v s1 ⟨x, H1, I1, r1, a, ex, q⟩ => by
    subst ex
    cases r1
    rcases q with ⟨⟨xs, hq⟩, q⟩ | ⟨⟨xs, hq⟩, q⟩
    · obtain ⟨its, rv, pl, hz⟩ := I1.list hq
      exact wpAny_pyIter_list pl.isList (pi_one (tk := s1.toks) I1 _ (turn_list a _) ⟨_, Heap.get?_push_size _ rfl, rfl, rfl⟩ q)
    · obtain ⟨its, rv, pl, hz⟩ := I1.tuple hq
      exact wpAny_pyIter_tuple (show s1.heap.IsTuple a its.toArray from pl) (pi_one (tk := s1.toks) I1 _ (turn_tuple a _) ⟨_, Heap.get?_push_size _ rfl, rfl, rfl⟩ q)⟩
theorem si_seq (he : SE X C W e me) : SI X C W tg e (mItems me) :=
  PI.imp (pi_seq he) fun σ H Q ⟨Γ, env, ds, R, h⟩ => ⟨Γ, env, ds, R, h.bind.imp fun d ds1 H1 e1 d1 q v hv => by
    obtain ⟨z, hz, q⟩ := lift_some q
    have R1 := R.go e1 d1
    cases d with
    | list xs =>
      cases hz
      cases hv with
      | lst a1 a2 a3 a4 => exact ⟨_, rfl, .inl ⟨⟨_, SqL.of a2⟩, q H1 Ext.refl d1 _ (wk_list R1 a1 a2 a4)⟩⟩
    | tuple xs =>
      cases hz
      cases hv with
      | tup a2 a3 a4 => exact ⟨_, rfl, .inr ⟨⟨_, SqT.of a2⟩, q H1 Ext.refl d1 _ (wk_tup R1 (SqT.of a2) a4)⟩⟩
    | _ => cases hz⟩
theorem si_rng1 (hm : X.mg "range" = none) (ha : SE X C W a ma) (hg : Gl X "range" := by rfl) (h1 : starEach (a :: []) X.env = (false, eval a X.env) :: starEach [] X.env := by rfl) (hs : starEach [a] X.env = [(false, eval a X.env)] := by rfl) : SI X C W tg (.Call (.Name "range" p) [a] [] pos) (mRng1 ma) :=
  PI.imp (pi_range1 hg hm (pa_cons ha pa_nil h1) hs) fun σ H Q ⟨Γ, env, ds, R, h⟩ => ⟨Γ, env, ds, R, h.bind.imp fun d ds1 H1 e1 d1 q v hv => by
    obtain ⟨z, hz, q⟩ := lift_some q
    cases d with
    | int j =>
      cases hv
      dsimp only at hz
      split at hz
      · rename_i hc
        cases hz
        have hc := of_decide_eq_true hc
        exact ⟨j, rfl, hc.1, hc.2, q H1 Ext.refl d1 _ wk_range⟩
      · cases hz
    | _ => cases hz⟩
theorem si_rng2 (hm : X.mg "range" = none) (ha : SE X C W a ma) (hb : SE X C W b mb) (hg : Gl X "range" := by rfl) (h1 : starEach (a :: [b]) X.env = (false, eval a X.env) :: starEach [b] X.env := by rfl) (h2 : starEach (b :: []) X.env = (false, eval b X.env) :: starEach [] X.env := by rfl)
    (h3 : starEach [a, b] X.env = [(false, eval a X.env), (false, eval b X.env)] := by rfl) : SI X C W tg (.Call (.Name "range" p) [a, b] [] pos) (mRng2 ma mb) :=
  PI.imp (pi_range2 hg hm (pa_cons ha (pa_cons hb pa_nil h2) h1) h3 h2) fun σ H Q ⟨Γ, env, ds, R, h⟩ => ⟨Γ, env, ds, R, h.bind.imp fun d ds1 H1 e1 d1 q v hv => ⟨Γ, env, ds1, R.go e1 d1, q.bind.imp fun d2 ds2 H2 e2 d2' q w hw => by
    obtain ⟨z, hz, q⟩ := lift_some q
    cases d with
    | int i =>
      cases d2 with
      | int j =>
        cases hv
        cases hw
        dsimp only at hz
        split at hz
        · rename_i hc
          cases hz
          have hc := of_decide_eq_true hc
          exact ⟨i, j, rfl, hc, q H2 Ext.refl d2' _ wk_range⟩
        · cases hz
      | _ => cases hz
    | _ => cases hz⟩⟩
end

/-! ### for -/
def forGo (t : Tg) (body : MS) : List PyData → Ev → DS → Option (Fl × DS)
  | [], env, ds => some (.nx env, ds)
  | x :: r, env, ds => match t x env with
    | none => none
    | some env1 => match body env1 ds with
      | some (.nx e, ds') => forGo t body r e ds'
      | some (.ct e, ds') => forGo t body r e ds'
      | some (.bk e, ds') => some (.nx e, ds')
      | some (.rt d, ds') => some (.rt d, ds')
      | some (.ex x e, ds') => some (.ex x e, ds')
      | none => none
def mFor (mi : ME (List PyData)) (t : Tg) (body : MS) : MS := exS mi fun items env ds => forGo t body items env ds
section
variable {K : PySem.W.Frag} {C : Exs} {W : WX} {fr : Bool} {Γ : Gm} {σ : St} {H : Hp} {env : Ev} {ds : DS} {J : It} {items : List PyData} {t : Tg} {is : List Nat} {body : MS} {D : Ends}
theorem drR_kept {H' : Hp} (d : DrR K Γ H ds) (k : ∀ a o, H a = some o → H' a = some o) : DrR K Γ H' ds := by
  unfold DrR at d ⊢
  cases e : Γ.dr with
  | none =>
    rw [e] at d
    cases ds with
    | none => trivial
    | some s => exact d
  | some p =>
    rw [e] at d
    cases ds with
    | none => exact d
    | some s => exact ⟨k _ _ d.1, k _ _ d.2.1, d.2.2⟩
theorem for_loop (hw : ∀ σ' H' env' ds', Rel K Γ σ' H' env' ds' → Wlk K J items (gd Γ σ' env') H') (R : Rel K Γ σ H env ds) (h : Aft2 K C W fr Γ D (forGo t body items env ds)) :
    ∃ W' : Nat → Nat → St → Hp → Prop, (∃ m, W' 0 m σ H) ∧ ∀ i m σ H, W' i m σ H → (J.stop i H ∧ D.nx σ H) ∨ (J.go i H ∧ ∃ N : St → Hp → Prop, (∀ σ' H', N σ' H' → ∃ m', m' < m ∧ W' (i + 1) m' σ' H') ∧
      ∀ x H', J.yld i H x H' → rdTgm K is t x σ H' fun σ2 H2 => rdS K C W fr body { D with nx := N, ct := N, bk := D.nx } σ2 H2) := by
  refine ⟨fun i m σ H => m = items.length - i ∧ i ≤ items.length ∧ ∃ env ds, Rel K Γ σ H env ds ∧ Aft2 K C W fr Γ D (forGo t body (items.drop i) env ds), ⟨_, rfl, Nat.zero_le _, env, ds, R, h⟩, ?_⟩
  rintro i m σ H ⟨rfl, hi, env, ds, R, h⟩
  have wl := hw σ H env ds R
  by_cases hlt : i < items.length
  · refine .inr ⟨wl.go i hlt, fun σ' H' => (items.length - (i + 1)) = items.length - (i + 1) ∧ i + 1 ≤ items.length ∧ ∃ env ds, Rel K Γ σ' H' env ds ∧ Aft2 K C W fr Γ D (forGo t body (items.drop (i + 1)) env ds), fun σ' H' n => ⟨items.length - (i + 1), by omega, n⟩, fun x H' y => ?_⟩
    obtain ⟨d, e1, k, hx⟩ := wl.yld i x H' hlt y
    have e2 : items.drop i = d :: items.drop (i + 1) := by
      rw [List.drop_eq_getElem_cons hlt]
      rw [List.getElem?_eq_getElem hlt] at e1
      rw [Option.some.inj e1]
    rw [e2] at h
    have R' : Rel K Γ σ H' env ds := R.go (fun a o _ q => k a o q) (drR_kept R.draw k)
    unfold forGo at h
    cases ht : t d env with
    | none => rw [ht] at h; exact h.elim
    | some env1 =>
      rw [ht] at h
      dsimp only at h
      refine ⟨Γ, env, ds, d, env1, R', hx, ht, fun σ2 R2 _ _ _ => ⟨Γ, env1, ds, R2, ?_⟩⟩
      show Aft2 K C W fr Γ _ (body env1 ds)
      rcases q : body env1 ds with _ | ⟨f, ds1⟩
      · rw [q] at h; exact h
      · rw [q] at h
        cases f with
        | nx e => exact fun σ' H' R' => ⟨rfl, hlt, e, ds1, R', h⟩
        | ct e => exact fun σ' H' R' => ⟨rfl, hlt, e, ds1, R', h⟩
        | bk e => exact h
        | rt d => exact h
        | ex x e => exact h
  · refine .inl ⟨wl.stop i (by omega), ?_⟩
    rw [List.drop_eq_nil_of_le (by omega)] at h
    exact h σ H R
end
section
variable {X : Cx} {C : Exs} {W : WX} {fr : Bool} {tg iter : Expr} {mi : ME (List PyData)} {t : Tg} {is : List Nat} {body : List Stmt} {m : MS} {pos : Pos}
theorem wk_at {K : PySem.W.Frag} {Γ : Gm} {σ : St} {H : Hp} {env : Ev} {ds : DS} {J : It} {items : List PyData} (R : Rel K Γ σ H env ds) (wk : Wk K Γ σ env J items H) : ∀ σ' H' env' ds', Rel K (Γ.at σ env H) σ' H' env' ds' → Wlk K J items (gd (Γ.at σ env H) σ' env') H' := fun σ' H' env' ds' R' => by
  refine (wk H' fun a o n1 n2 _ q => R'.ext a o n2 (Gm.at_some n1 q)).mono fun a ⟨z, hz⟩ => ⟨z.1, fun q => ?_, z.2.2⟩
  obtain ⟨_, _, _, e, _⟩ := R'.own_at q
  rcases Gm.at_none e with w | w
  · exact z.2.1 w
  · exact hz w
theorem ss_for (hp : PassesOwn (model X.prog X.w) X.A X.env X.xe) (hc : X.calm = true) (hi : SI X C W tg iter mi) (hg : SG X tg is t) (hb : SSs X C W fr body m) (hs : ∀ x, foldedSetIterable iter X.env x = pure x := by intro _; rfl) : SS X C W fr (.For tg iter body [] pos) (mFor mi t m) :=
  PS.imp (ps_for hp hc hi hg hb hs) fun D σ H ⟨Γ, env, ds, R, h⟩ => ⟨Γ, env, ds, R, (exS_aft R h).imp fun items ds1 H1 e1 d1 q J wk =>
    have R1 := R.go e1 d1
    for_loop (wk_at R1 wk) R1.rebase (q.rebase R1)⟩

/-! ### for over one's own list: it is locked meanwhile -/
def mForV (i : Nat) (t : Tg) (body : MS) : MS := fun env ds => match env[i]? with
  | some (.l xs) => match forGo t body xs (env.set i (.lk xs)) ds with
    | some (.nx e, ds') => match e[i]? with
      | some (.lk ys) => some (.nx (e.set i (.l ys)), ds')
      | _ => none
    | some (.bk _, _) => none
    | some (.ct _, _) => none
    | r => r
  | _ => none
end

/-! ### while -/
def whileGo (c : ME Bool) (body : MS) : Nat → Ev → DS → Option (Fl × DS)
  | 0, _, _ => none
  | n + 1, env, ds => match c env ds with
    | some (.ok true, ds1) => match body env ds1 with
      | some (.nx e, ds') => whileGo c body n e ds'
      | some (.ct e, ds') => whileGo c body n e ds'
      | some (.bk e, ds') => some (.nx e, ds')
      | some (.rt d, ds') => some (.rt d, ds')
      | some (.ex x e, ds') => some (.ex x e, ds')
      | none => none
    | some (.ok false, ds1) => some (.nx env, ds1)
    | some (.exc x, ds1) => some (.ex x env, ds1)
    | none => none
section
variable {X : Cx} {C : Exs} {W : WX} {fr : Bool} {c : Expr} {mc : ME Bool} {body : List Stmt} {m : MS} {pos : Pos}
theorem ss_while (n : Nat) (hp : PassesOwn (model X.prog X.w) X.A X.env X.xe) (hc : ST X C W c mc) (hb : SSs X C W fr body m) : SS X C W fr (.While c body [] pos) (whileGo mc m n) :=
  PS.imp (ps_while hp hc hb) fun D σ H ⟨Γ, env, ds, R, h⟩ => by
    refine ⟨fun k σ H => ∃ env ds, Rel X.K Γ σ H env ds ∧ Aft2 X.K C W fr Γ D (whileGo mc m k env ds), ⟨n, env, ds, R, h⟩, ?_⟩
    rintro k σ H ⟨env, ds, R, h⟩
    cases k with
    | zero => exact h.elim
    | succ k =>
      refine ⟨Γ, env, ds, R, ?_⟩
      unfold whileGo at h
      unfold Aft
      rcases q : mc env ds with _ | ⟨b | x, ds1⟩
      · rw [q] at h; exact h
      · rw [q] at h
        intro H1 e1 d1
        cases b with
        | true =>
          rw [if_pos rfl]
          refine ⟨fun σ' H' => ∃ env ds, Rel X.K Γ σ' H' env ds ∧ Aft2 X.K C W fr Γ D (whileGo mc m k env ds), fun σ' H' z => ⟨k, Nat.lt_succ_self _, z⟩, Γ, env, ds1, R.go e1 d1, ?_⟩
          show Aft2 X.K C W fr Γ _ (m env ds1)
          dsimp only at h
          rcases q2 : m env ds1 with _ | ⟨f, ds2⟩
          · rw [q2] at h; exact h
          · rw [q2] at h
            cases f with
            | nx e => exact fun σ' H' R' => ⟨e, ds2, R', h⟩
            | ct e => exact fun σ' H' R' => ⟨e, ds2, R', h⟩
            | bk e => exact h
            | rt d => exact h
            | ex x e => exact h
        | false =>
          rw [if_neg Bool.false_ne_true]
          exact h σ H1 (R.go e1 d1)
      · rw [q] at h
        exact fun cls dd H' e1 d1 hx => h cls dd σ H' (R.go e1 d1) hx
end
end DL

/-! DL7: comprehensions. -/
namespace DL
open PySem PySem.Spec L2
open PyProof.Rows hiding St

/-- a slot of the comprehension's own: told nothing; it may not hold a list of one's own -/
def wipeE (env : Ev) : List Nat → Option Ev
  | [] => some env
  | v :: vs => (wipeE env vs).bind fun e => match e[v]? with
    | some (.l _) => none
    | some (.lk _) => none
    | some (.dc _ _) => none
    | _ => some (e.set v .un)
section
variable {K : PySem.W.Frag} {C : Exs} {W : WX} {Γ : Gm} {σ : St} {H H1 : Hp} {env env' : Ev} {ds : DS} {D : Addr}
theorem wipeE_ok : ∀ {vs : List Nat} {env' : Ev}, wipeE env vs = some env' → env'.length = env.length ∧ (∀ (j : Nat) (x : Sl), env'[j]? = some x → x = .un ∨ (j ∉ vs ∧ env[j]? = some x)) ∧ ∀ (j : Nat) (x : Sl), env[j]? = some x → x.own = true → j ∉ vs ∧ env'[j]? = some x
  | [], env', h => by
    cases h
    exact ⟨rfl, fun j x q => .inr ⟨List.not_mem_nil, q⟩, fun j x q _ => ⟨List.not_mem_nil, q⟩⟩
  | v :: vs, env', h => by
    obtain ⟨e1, h1, h2⟩ := Option.bind_eq_some_iff.mp h
    obtain ⟨i1, i2, i3⟩ := wipeE_ok h1
    have nown : (∀ xs, e1[v]? ≠ some (.l xs)) ∧ (∀ xs, e1[v]? ≠ some (.lk xs)) ∧ (∀ t xs, e1[v]? ≠ some (.dc t xs)) ∧ env' = e1.set v .un := by
      revert h2
      split
      · intro h2; cases h2
      · intro h2; cases h2
      · intro h2; cases h2
      · rename_i n1 n2 n3
        intro h2
        cases h2
        exact ⟨fun xs q => n1 xs q, fun xs q => n2 xs q, fun t xs q => n3 t xs q, rfl⟩
    obtain ⟨n1, n2, n3, rfl⟩ := nown
    refine ⟨by rw [List.length_set]; exact i1, fun j x q => ?_, fun j x q ox => ?_⟩
    · by_cases z : v = j
      · subst z
        by_cases hl : v < e1.length
        · rw [List.getElem?_set_self hl] at q
          cases q
          exact .inl rfl
        · rw [List.getElem?_eq_none (by rw [List.length_set]; omega)] at q
          cases q
      · rw [List.getElem?_set_ne z] at q
        rcases i2 j x q with w | ⟨w1, w2⟩
        · exact .inl w
        · exact .inr ⟨fun m => (List.mem_cons.mp m).elim (fun e => z e.symm) w1, w2⟩
    · obtain ⟨w1, w2⟩ := i3 j x q ox
      have z : v ≠ j := fun z => by
        subst z
        cases x with
        | l xs => exact n1 xs w2
        | lk xs => exact n2 xs w2
        | dc t0 xs => exact n3 t0 xs w2
        | _ => cases ox
      exact ⟨fun m => (List.mem_cons.mp m).elim (fun e => z e.symm) w1, by rw [List.getElem?_set_ne z]; exact w2⟩
theorem wipe_get : ∀ {vs : List Nat} {j : Nat}, j ∉ vs → (wipe σ vs)[j]? = σ[j]?
  | [], j, _ => rfl
  | v :: vs, j, h => by
    show ((wipe σ vs).set v none)[j]? = σ[j]?
    rw [List.getElem?_set_ne fun z => h (by rw [z]; exact List.mem_cons_self)]
    exact wipe_get fun z => h (List.mem_cons_of_mem _ z)
theorem wipe_in : ∀ {vs : List Nat} {j : Nat}, j ∈ vs → j < σ.length → (wipe σ vs)[j]? = some none
  | v :: vs, j, h, hl => by
    show ((wipe σ vs).set v none)[j]? = some none
    by_cases z : v = j
    · subst z
      rw [List.getElem?_set_self (by rw [wipe_length]; exact hl)]
    · rw [List.getElem?_set_ne z]
      exact wipe_in ((List.mem_cons.mp h).resolve_left fun e => z e.symm) hl
/-- slots that stand but for those of vs are alike when vs are wiped -/
theorem wipe_same {vs is : List Nat} {σ' : St} (h : SameBut is σ σ') (hs : ∀ i ∈ is, i ∈ vs) : wipe σ' vs = wipe σ vs := by
  refine List.ext_getElem? fun j => ?_
  by_cases hj : j ∈ vs
  · by_cases hl : j < σ.length
    · rw [wipe_in hj hl, wipe_in hj (by rw [h.1]; exact hl)]
    · rw [List.getElem?_eq_none (by rw [wipe_length, h.1]; omega), List.getElem?_eq_none (by rw [wipe_length]; omega)]
  · rw [wipe_get hj, wipe_get hj]
    exact h.2 j fun z => hj (hs j z)
theorem wipe_idem {vs : List Nat} : wipe (wipe σ vs) vs = wipe σ vs := by
  refine List.ext_getElem? fun j => ?_
  by_cases hj : j ∈ vs
  · by_cases hl : j < σ.length
    · rw [wipe_in hj (by rw [wipe_length]; exact hl), wipe_in hj hl]
    · rw [List.getElem?_eq_none (by rw [wipe_length, wipe_length]; omega), List.getElem?_eq_none (by rw [wipe_length]; omega)]
  · rw [wipe_get hj]
theorem owned_wipe {vs : List Nat} (h : wipeE env vs = some env') {a : Addr} : owned (wipe σ vs) env' a ↔ owned σ env a := by
  obtain ⟨h1, h2, h3⟩ := wipeE_ok h
  constructor
  · rintro ⟨j, x, q1, q2, q3⟩
    rcases h2 j x q1 with rfl | ⟨w1, w2⟩
    · cases q2
    · rw [wipe_get w1] at q3
      exact ⟨j, x, w2, q2, q3⟩
  · rintro ⟨j, x, q1, q2, q3⟩
    obtain ⟨w1, w2⟩ := h3 j x q1 q2
    exact ⟨j, x, w2, q2, by rw [wipe_get w1]; exact q3⟩
/-- the ground of a block: D is apart -/
noncomputable def Gm.blk (Γ : Gm) (σ : St) (env : Ev) (H : Hp) (D : Addr) : Gm := { Γ.at σ env H with ok := fun a => Γ.ok a ∧ a ≠ D, lk := [] }
theorem Rel.cell_ne (R : Rel K Γ σ H1 env ds) (hf : H1 D = none) (p : Addr × Addr) (e : Γ.dr = some p) : p.2 ≠ D := fun z => by
  have d := R.draw
  unfold DrR at d
  rw [e] at d
  cases ds with
  | none => exact d
  | some s =>
    have := d.2.1
    rw [z, hf] at this
    cases this
theorem DrR.blkR {Hb : Hp} (d : DrR K Γ H ds) (cn : ∀ p, Γ.dr = some p → p.2 ≠ D) : DrR K (Γ.blk σ env Hb D) H ds := by
  unfold DrR at d ⊢
  rw [show (Γ.blk σ env Hb D).dr = Γ.dr from rfl]
  cases hdr : Γ.dr with
  | none =>
    rw [hdr] at d
    cases ds with
    | none => trivial
    | some s => exact d
  | some p =>
    rw [hdr] at d
    cases ds with
    | none => exact d
    | some s => exact ⟨d.1, d.2.1, d.2.2.1, d.2.2.2.1, d.2.2.2.2, cn p hdr⟩
theorem DrR.unblk {Hb : Hp} (d : DrR K (Γ.blk σ env Hb D) H ds) : DrR K Γ H ds := by
  unfold DrR at d ⊢
  rw [show (Γ.blk σ env Hb D).dr = Γ.dr from rfl] at d
  cases hdr : Γ.dr with
  | none =>
    rw [hdr] at d
    cases ds with
    | none => trivial
    | some s => exact d
  | some p =>
    rw [hdr] at d
    cases ds with
    | none => exact d
    | some s => exact ⟨d.1, d.2.1, d.2.2.1, d.2.2.2.1, d.2.2.2.2.1⟩
theorem Rel.blk {vs : List Nat} {ds1 : DS} (R1 : Rel K Γ σ H1 env ds1) (hf : H1 D = none) (e : Ext Γ H1 H) (d : DrR K Γ H ds) (hD : ∃ o, H D = some o) (h : wipeE env vs = some env') : Rel K (Γ.blk σ env H D) (wipe σ vs) H env' ds := by
  obtain ⟨h1, h2, h3⟩ := wipeE_ok h
  have R := R1.go e d
  have B := R.rebase
  have oD : ¬ owned σ env D := fun q => by
    obtain ⟨_, w, _⟩ := R1.own_at q
    rw [hf] at w
    cases w
  have cD' : ∀ a, owned σ env a → a ≠ D := fun a q z => oD (by rw [← z]; exact q)
  have gq : ∀ {a : Addr}, H a = none → a ≠ D := fun {a} q z => by
    obtain ⟨o, e⟩ := hD
    rw [z, e] at q
    cases q
  have gg : ∀ a, gd Γ σ env a → a ≠ D → gd (Γ.blk σ env H D) (wipe σ vs) env' a := fun a q n => ⟨⟨q.1, n⟩, fun w => q.2.1 ((owned_wipe h).mp w), q.2.2⟩
  have dm : ∀ {v : V} {x : PyData}, Df K H1 (gd Γ σ env) v x → Df K H (gd (Γ.blk σ env H D) (wipe σ vs) env') v x := fun q =>
    (q.avoid hf).mono (fun a u z k => ⟨gg a z.1 z.2, e a _ z.1.2.2 k⟩) fun _ _ z => tup_ext e R1.draw z
  have dms : ∀ {v : List V} {x : List PyData}, DfAll K H1 (gd Γ σ env) v x → DfAll K H (gd (Γ.blk σ env H D) (wipe σ vs) env') v x := fun q =>
    (q.avoid hf).mono (fun a u z k => ⟨gg a z.1 z.2, e a _ z.1.2.2 k⟩) fun _ _ z => tup_ext e R1.draw z
  refine ⟨by rw [wipe_length, h1]; exact R.len, fun j x q => ?_, fun i j x y hij hi hj oi oj => ?_, fun a q => ⟨B.okf a q, ?_⟩, B.ext, ?_, fun p e q => R.drc p e ((owned_wipe h).mp q), fun p hp => by cases hp⟩
  · rcases h2 j x q with rfl | ⟨w1, w2⟩
    · trivial
    · rw [wipe_get w1]
      have q1 := R1.slot j x w2
      have q2 := B.slot j x w2
      cases x with
      | un => trivial
      | d y =>
        obtain ⟨u, e1, e2⟩ := q1
        exact ⟨u, e1, dm e2⟩
      | l xs =>
        obtain ⟨a, us, e1, e2, e3, e4, e5, e6⟩ := q1
        obtain ⟨a', us', f1, f2, f3, f4, f5, f6⟩ := q2
        rw [e1] at f1
        cases f1
        exact ⟨a, us, e1, e a _ e6 e2, dms e3, e4, f5, e6⟩
      | lk xs =>
        obtain ⟨a, us, e1, e2, e3, e4, e5, e6⟩ := q1
        obtain ⟨a', us', f1, f2, f3, f4, f5, f6⟩ := q2
        rw [e1] at f1
        cases f1
        exact ⟨a, us, e1, e a _ e6 e2, dms e3, e4, f5, e6⟩
      | dc t0 xs =>
        obtain ⟨a, us, e1, e2, e3, e4, e5, e6⟩ := q1
        obtain ⟨a', us', f1, f2, f3, f4, f5, f6⟩ := q2
        rw [e1] at f1
        cases f1
        exact ⟨a, us, e1, e a _ e6 e2, dms e3, e4, f5, e6⟩
      | drw => exact q2
      | scr ns => exact q2
  · obtain ⟨w1, w2⟩ := (h2 i x hi).resolve_left (fun e => by rw [e] at oi; cases oi)
    obtain ⟨w3, w4⟩ := (h2 j y hj).resolve_left (fun e => by rw [e] at oj; cases oj)
    rw [wipe_get w1, wipe_get w3]
    exact R.sep i j x y hij w2 w4 oi oj
  · rcases Gm.at_none (Γ := Γ) q with w | w
    · exact cD' a w
    · exact gq w
  · exact d.blkR (R1.cell_ne hf)
/-- what is told in the block holds outside -/
theorem Gm.blk_gd {vs : List Nat} {σ' : St} {env2 : Ev} {is : List Nat} (h : wipeE env vs = some env') (hs : ∀ i ∈ is, i ∈ vs) (s : SameBut is (wipe σ vs) σ') (v : EvBut is env' env2) {a : Addr} (q : gd (Γ.blk σ env H D) σ' env2 a) : gdx Γ σ env D a := by
  refine ⟨⟨q.1.1, fun w => q.2.1 ?_, q.2.2⟩, q.1.2⟩
  obtain ⟨j, x, w1, w2, w3⟩ := w
  obtain ⟨h1, h2, h3⟩ := wipeE_ok h
  obtain ⟨z1, z2⟩ := h3 j x w1 w2
  have nj : j ∉ is := fun z => z1 (hs j z)
  exact ⟨j, x, by rw [v.2 j nj]; exact z2, w2, by rw [s.2 j nj, wipe_get z1]; exact w3⟩
end

/-! ### the meanings -/
def compGo (t : Tg) (c : ME Bool) (elt : ME PyData) (env : Ev) : List PyData → DS → List PyData → Option (List PyData × DS)
  | [], ds, acc => some (acc, ds)
  | x :: r, ds, acc => match t x env with
    | none => none
    | some env1 => match c env1 ds with
      | some (.ok true, ds1) => match elt env1 ds1 with
        | some (.ok y, ds2) => if decide (acc.length < sizeLine) then compGo t c elt env r ds2 (acc ++ [y]) else none
        | _ => none
      | some (.ok false, ds1) => compGo t c elt env r ds1 acc
      | _ => none
def mComp (vs : List Nat) (mi : ME (List PyData)) (t : Tg) (c : ME Bool) (elt : ME PyData) : ME (List PyData) := mi.bind fun items env ds => match wipeE env vs with
  | none => none
  | some env1 => match compGo t c elt env1 items ds [] with
    | some (xs, ds') => some (.ok xs, ds')
    | none => none
def mYes : ME Bool := ME.pure true
abbrev STs (X : Cx) (C : Exs) (W : WX) (ifs : List Expr) (m : ME Bool) : Prop := PTs X ifs (rdT X.K C W m)
theorem PTs.imp {X : Cx} {e : List Expr} {t t' : TT} (h : PTs X e t) (f : ∀ σ H Q, t' σ H Q → t σ H Q) : PTs X e t' := ⟨fun pins s σ H Q I q => h.run pins s σ H Q I (f σ H Q q)⟩
theorem sts_nil {X : Cx} {C : Exs} {W : WX} : STs X C W [] mYes := PTs.imp pts_nil fun σ H Q ⟨Γ, env, ds, R, h⟩ => Aft.here h R.draw
theorem sts_one {X : Cx} {C : Exs} {W : WX} {c : Expr} {m : ME Bool} (h : ST X C W c m) : STs X C W [c] m := pts_one h
/-- within a comprehension nothing is raised -/
def W0 : WX := fun _ _ _ _ => False
section
variable {K : PySem.W.Frag} {C : Exs} {W : WX} {Γ : Gm} {σ : St} {H1 : Hp} {env env1 : Ev} {ds1 : DS} {D : Addr} {J : It} {items : List PyData} {t : Tg} {is vs : List Nat} {c : ME Bool} {elt : ME PyData} {Qd : Hp → Prop}
/-- what stands between two turns -/
structure CIn (K : PySem.W.Frag) (Γ : Gm) (σ : St) (env : Ev) (H1 : Hp) (D : Addr) (H : Hp) (ds : DS) (acc : List PyData) : Prop where
  ext : Ext Γ H1 H
  draw : DrR K Γ H ds
  lst : ∃ us, H D = some (.lst us) ∧ us.length ≤ sizeLine ∧ DfAll K H (gdx Γ σ env D) us acc
theorem CIn.grow {H H' : Hp} {ds ds' : DS} {acc : List PyData} (R1 : Rel K Γ σ H1 env ds1) (hf : H1 D = none) (c : CIn K Γ σ env H1 D H ds acc) (e : Ext Γ H H') (d : DrR K Γ H' ds') (y : PyData) (v : V) (hy : Df K H' (gdx Γ σ env D) v y) (hs : acc.length < sizeLine) :
    ∃ us, H' D = some (.lst us) ∧ us.length < sizeLine ∧ CIn K Γ σ env H1 D (upd H' D (.lst (us ++ [v]))) ds' (acc ++ [y]) := by
  obtain ⟨us, q1, q2, q3⟩ := c.lst
  have nD := (R1.new_gd hf).2.2
  have h' := e D _ nD q1
  have ln := q3.length
  have tq : ∀ a u, H' a = some (.tup u) → upd H' D (.lst (us ++ [v])) a = some (.tup u) := fun a u q => by
    rw [upd_ne (ne_of q h' (by intro z; cases z))]; exact q
  have q4 : DfAll K H' (gdx Γ σ env D) us acc := q3.mono (fun a u z k => ⟨z, e a _ z.1.2.2 k⟩) fun _ _ z => tup_ext e c.draw z
  refine ⟨us, h', by rw [ln]; exact hs, fun a o n q => ?_, ?_, us ++ [v], upd_same, by rw [List.length_append, ln]; exact hs, ?_⟩
  · rw [upd_ne (ne_of_none q hf)]
    exact e a o n (c.ext a o n q)
  · have cn := R1.cell_ne hf
    unfold DrR at d ⊢
    cases hdr : Γ.dr with
    | none =>
      rw [hdr] at d
      cases ds' with
      | none => trivial
      | some s => exact d
    | some p =>
      rw [hdr] at d
      cases ds' with
      | none => exact d
      | some s =>
        refine ⟨by rw [upd_ne fun z => nD p hdr z.symm]; exact d.1, by rw [upd_ne (cn p hdr)]; exact d.2.1, d.2.2⟩
  · exact (q4.append (.cons hy .nil)).mono (fun a u z k => ⟨z, by rw [upd_ne z.2]; exact k⟩) tq
/-- a turn that goes on -/
theorem CIn.on {H H' : Hp} {ds ds' : DS} {acc : List PyData} (R1 : Rel K Γ σ H1 env ds1) (hf : H1 D = none) (c : CIn K Γ σ env H1 D H ds acc) (e : Ext Γ H H') (d : DrR K Γ H' ds') : CIn K Γ σ env H1 D H' ds' acc := by
  obtain ⟨us, q1, q2, q3⟩ := c.lst
  exact ⟨c.ext.trans e, d, us, e D _ (R1.new_gd hf).2.2 q1, q2, q3.mono (fun a u z k => ⟨z, e a _ z.1.2.2 k⟩) fun _ _ z => tup_ext e c.draw z⟩
theorem CIn.start (R1 : Rel K Γ σ H1 env ds1) (hf : H1 D = none) : CIn K Γ σ env H1 D (upd H1 D (.lst [])) ds1 [] := ⟨ext_new hf, R1.draw.new hf, [], upd_same, Nat.zero_le _, .nil⟩
theorem Wlk.blk {H : Hp} (R1 : Rel K Γ σ H1 env ds1) (hf : H1 D = none) (e : Ext Γ H1 H) (wk : Wk K Γ σ env J items H1) (h : wipeE env vs = some env1) : Wlk K J items (gd (Γ.blk σ env H D) (wipe σ vs) env1) H :=
  (wk H fun a o _ n _ q => e a o n q).mono fun a z => ⟨⟨z.1.1, fun w => z.2 (by rw [w]; exact hf)⟩, fun w => z.1.2.1 ((owned_wipe h).mp w), z.1.2.2⟩
theorem aft_blk {α : Type} {H Hb : Hp} {σ' : St} {r : Rz α} {P : α → DS → Hp → Prop} (h : match r with | some (.ok a, ds') => ∀ H', Ext Γ H H' → DrR K Γ H' ds' → P a ds' H' | _ => False) : Aft K C W0 (Γ.blk σ env Hb D) σ' H r P := by
  unfold Aft
  rcases r with _ | ⟨a | x, ds'⟩
  · exact h
  · exact fun H' e d => h H' e d.unblk
  · exact h.elim
theorem comp_loop (hsub : ∀ i ∈ is, i ∈ vs) (R1 : Rel K Γ σ H1 env ds1) (wk : Wk K Γ σ env J items H1) (hD : H1 D = none) (hw : wipeE env vs = some env1)
    (h : match compGo t c elt env1 items ds1 [] with | some (xs, ds') => ∀ H', CIn K Γ σ env H1 D H' ds' xs → Qd H' | none => False) :
    ∃ W' : Nat → Nat → Hp → Prop, (∃ m, W' 0 m (upd H1 D (.lst []))) ∧ ∀ i m H, W' i m H →
      (J.stop i H ∧ Qd H) ∨ (J.go i H ∧ ∃ Nx : Hp → Prop, (∀ H', Nx H' → ∃ m', m' < m ∧ W' (i + 1) m' H') ∧ ∀ x H', J.yld i H x H' → rdTgm K is t x (wipe σ vs) H' fun σ2 H2 => wipe σ2 vs = wipe σ vs ∧ rdT K C W0 c σ2 H2 fun b H3 =>
        if b = true then rdG MD K C W0 elt σ2 H3 fun y H4 => ∃ acc, H4 D = some (.lst acc) ∧ acc.length < sizeLine ∧ Nx (upd H4 D (.lst (acc ++ [y]))) else Nx H3) := by
  refine ⟨fun i m H => m = items.length - i ∧ i ≤ items.length ∧ ∃ ds acc, CIn K Γ σ env H1 D H ds acc ∧ match compGo t c elt env1 (items.drop i) ds acc with | some (xs, ds') => ∀ H', CIn K Γ σ env H1 D H' ds' xs → Qd H' | none => False,
    ⟨_, rfl, Nat.zero_le _, ds1, [], CIn.start R1 hD, h⟩, ?_⟩
  rintro i m H ⟨rfl, hi, ds, acc, ci, h⟩
  have wl := Wlk.blk R1 hD ci.ext wk hw
  by_cases hlt : i < items.length
  · refine .inr ⟨wl.go i hlt, fun H' => (items.length - (i + 1)) = items.length - (i + 1) ∧ i + 1 ≤ items.length ∧ ∃ ds acc, CIn K Γ σ env H1 D H' ds acc ∧ match compGo t c elt env1 (items.drop (i + 1)) ds acc with | some (xs, ds') => ∀ H', CIn K Γ σ env H1 D H' ds' xs → Qd H' | none => False,
      fun H' n => ⟨items.length - (i + 1), by omega, n⟩, fun x H' y => ?_⟩
    obtain ⟨d, e1, k, hx⟩ := wl.yld i x H' hlt y
    have e2 : items.drop i = d :: items.drop (i + 1) := by
      rw [List.drop_eq_getElem_cons hlt]
      rw [List.getElem?_eq_getElem hlt] at e1
      rw [Option.some.inj e1]
    rw [e2] at h
    have ci' : CIn K Γ σ env H1 D H' ds acc := ci.on R1 hD (fun a o _ q => k a o q) (drR_kept ci.draw k)
    obtain ⟨us, l1, l2, l3⟩ := ci.lst
    have hx' : Df K H' (gd (Γ.blk σ env H' D) (wipe σ vs) env1) x d := hx.mono (fun a u z q => ⟨z, q⟩) fun _ _ z => z
    have RB := R1.blk hD ci'.ext ci'.draw ⟨_, k D _ l1⟩ hw
    unfold compGo at h
    cases ht : t d env1 with
    | none => rw [ht] at h; exact h.elim
    | some env2 =>
      rw [ht] at h
      dsimp only at h
      refine ⟨Γ.blk σ env H' D, env1, ds, d, env2, RB, hx', ht, fun σ2 R2 _ s2 v2 => ⟨(wipe_same s2 hsub).trans wipe_idem, Γ.blk σ env H' D, env2, ds, R2, aft_blk ?_⟩⟩
      rcases q : c env2 ds with _ | ⟨b | ex, ds2⟩
      · rw [q] at h; exact h.elim
      · rw [q] at h
        intro H3 e3 d3
        have ci3 := ci'.on R1 hD e3 d3
        cases b with
        | false =>
          rw [if_neg Bool.false_ne_true]
          exact ⟨rfl, hlt, ds2, acc, ci3, h⟩
        | true =>
          rw [if_pos rfl]
          have g3 := R2.go (H1 := H3) e3 (by
            have RB3 := R1.blk (vs := vs) hD ci3.ext ci3.draw (let ⟨us, l1, _⟩ := ci3.lst; ⟨_, l1⟩) hw
            exact RB3.draw)
          refine ⟨Γ.blk σ env H' D, env2, ds2, g3, aft_blk ?_⟩
          dsimp only at h
          rcases q2 : elt env2 ds2 with _ | ⟨y | ex, ds3⟩
          · rw [q2] at h; exact h.elim
          · rw [q2] at h
            intro H4 e4 d4 v hv
            dsimp only at h
            by_cases hs : acc.length < sizeLine
            · rw [if_pos (decide_eq_true hs)] at h
              have hy : Df K H4 (gdx Γ σ env D) v y := hv.mono (fun a u z q => ⟨Gm.blk_gd hw hsub s2 v2 z, q⟩) fun _ _ z => z
              obtain ⟨us, w1, w2, w3⟩ := ci3.grow R1 hD e4 d4 y v hy hs
              exact ⟨us, w1, w2, rfl, hlt, ds3, _, w3, h⟩
            · rw [if_neg (by rw [decide_eq_false hs]; exact Bool.false_ne_true)] at h
              exact h.elim
          · rw [q2] at h; exact h.elim
      · rw [q] at h; exact h.elim
  · refine .inl ⟨wl.stop i (by omega), ?_⟩
    rw [List.drop_eq_nil_of_le (by omega)] at h
    exact h H ci
end
section
variable {X : Cx} {C : Exs} {W : WX} {fr : Bool} {elt tg iter : Expr} {ifs : List Expr} {scope : Scope} {own : List (Str × Nat)} {pos : Pos} {mi : ME (List PyData)} {t : Tg} {is : List Nat} {c : ME Bool} {me : ME PyData}
theorem comp_rd {K : PySem.W.Frag} (hsub : ∀ i ∈ is, i ∈ own.map (·.2)) {σ : St} {H : Hp} {Q : VK} (h : rdF K C W (mComp (own.map (·.2)) mi t c me) σ H Q) : tLc (rdI K C W mi) (rdTgm K is t) (rdT K C W0 c) (rdG MD K C W0 me) (own.map (·.2)) σ H Q := by
  obtain ⟨Γ, env, ds, R, h⟩ := h
  refine ⟨Γ, env, ds, R, h.bind.imp fun items ds1 H1 e1 d1 q J wk D hD => ?_⟩
  have R1 := R.go e1 d1
  have hD0 := R.none_back e1 d1 hD
  dsimp only at q
  cases hw : wipeE env (own.map (·.2)) with
  | none => rw [hw] at q; exact q.elim
  | some env1 =>
    rw [hw] at q
    dsimp only at q
    refine comp_loop hsub R1 wk hD hw ?_
    rcases z : compGo t c me env1 items ds1 [] with _ | ⟨xs, ds'⟩
    · rw [z] at q; exact q
    · rw [z] at q
      intro H' ci
      obtain ⟨us, l1, l2, l3⟩ := ci.lst
      exact q H' ci.ext ci.draw D us hD0 l1 l2 l3
theorem sf_comp (hc : X.calm = true) (hN : X.N.Nodup) (hi : SI X C W tg iter mi) (ok : BlkOk X.N X.env.scope scope own) (hsub : ∀ i ∈ is, i ∈ own.map (·.2))
    (hg : ∀ (s : Shared) (H : Hp) (k : Addr) (cl : List (Str × Addr)) (fp : List Addr), SG (X.blk s H scope (compEnvC scope cl k X.env) fp) tg is t) (ht : ∀ (s : Shared) (H : Hp) (k : Addr) (cl : List (Str × Addr)) (fp : List Addr), STs (X.blk s H scope (compEnvC scope cl k X.env) fp) C W0 ifs c)
    (he : ∀ (s : Shared) (H : Hp) (k : Addr) (cl : List (Str × Addr)) (fp : List Addr), SE (X.blk s H scope (compEnvC scope cl k X.env) fp) C W0 elt me) (hs : ∀ x, foldedSetIterable iter X.env x = pure x := by intro _; rfl) :
    SF X C W (.ListComp elt [⟨tg, iter, ifs, 0⟩] scope pos) (mComp (own.map (·.2)) mi t c me) :=
  PE.imp (pe_lc hc hN hi ok hg ht he hs) fun σ H Q h => comp_rd hsub h
/-- name = [..] -/
theorem ss_setLc (i : Nat) {y : Str} {py spos : Pos} (hc : X.calm = true) (hN : X.N.Nodup) (hsw : swapsWith (.ListComp elt [⟨tg, iter, ifs, 0⟩] scope pos) (some (.Name y py)) spos.line X.env = pure true) (hi : SI X C W tg iter mi) (ok : BlkOk X.N X.env.scope scope own) (hsub : ∀ i ∈ is, i ∈ own.map (·.2))
    (hg : ∀ (s : Shared) (H : Hp) (k : Addr) (cl : List (Str × Addr)) (fp : List Addr), SG (X.blk s H scope (compEnvC scope cl k X.env) fp) tg is t) (ht : ∀ (s : Shared) (H : Hp) (k : Addr) (cl : List (Str × Addr)) (fp : List Addr), STs (X.blk s H scope (compEnvC scope cl k X.env) fp) C W0 ifs c)
    (he : ∀ (s : Shared) (H : Hp) (k : Addr) (cl : List (Str × Addr)) (fp : List Addr), SE (X.blk s H scope (compEnvC scope cl k X.env) fp) C W0 elt me) (hy : X.N[i]? = some y := by rfl) (hyl : X.env.scope.names.lookup y = some .local := by rfl) (hs : ∀ x, foldedSetIterable iter X.env x = pure x := by intro _; rfl) :
    SS X C W fr (.Assign [.Name y py] (.ListComp elt [⟨tg, iter, ifs, 0⟩] scope pos) spos) (mSet i (mF (mComp (own.map (·.2)) mi t c me))) :=
  PS.imp (L2.ps_setLc hc hN hy hyl hsw hi ok hg ht he hs) fun D σ H ⟨Γ, env, ds, R, h⟩ => comp_rd hsub ⟨Γ, env, ds, R, (exS_aft R h).bind.imp fun xs ds1 H1 e1 d1 q a us h1 h2 h3 h4 => by
    have q := Aft.here q d1
    cases hp : put i (.d (.list xs)) env with
    | none => rw [hp] at q; exact q.elim
    | some env' =>
      rw [hp] at q
      have R1 := R.go e1 d1
      exact q _ _ (R1.set_d (.lst (R.new_gd h1) h2 h3 h4.unavoid) hp)⟩
theorem ss_setLcL (i : Nat) {y : Str} {py spos : Pos} (hc : X.calm = true) (hN : X.N.Nodup) (hsw : swapsWith (.ListComp elt [⟨tg, iter, ifs, 0⟩] scope pos) (some (.Name y py)) spos.line X.env = pure true) (hi : SI X C W tg iter mi) (ok : BlkOk X.N X.env.scope scope own) (hsub : ∀ i ∈ is, i ∈ own.map (·.2))
    (hg : ∀ (s : Shared) (H : Hp) (k : Addr) (cl : List (Str × Addr)) (fp : List Addr), SG (X.blk s H scope (compEnvC scope cl k X.env) fp) tg is t) (ht : ∀ (s : Shared) (H : Hp) (k : Addr) (cl : List (Str × Addr)) (fp : List Addr), STs (X.blk s H scope (compEnvC scope cl k X.env) fp) C W0 ifs c)
    (he : ∀ (s : Shared) (H : Hp) (k : Addr) (cl : List (Str × Addr)) (fp : List Addr), SE (X.blk s H scope (compEnvC scope cl k X.env) fp) C W0 elt me) (hy : X.N[i]? = some y := by rfl) (hyl : X.env.scope.names.lookup y = some .local := by rfl) (hs : ∀ x, foldedSetIterable iter X.env x = pure x := by intro _; rfl) :
    SS X C W fr (.Assign [.Name y py] (.ListComp elt [⟨tg, iter, ifs, 0⟩] scope pos) spos) (mSetL i (mComp (own.map (·.2)) mi t c me)) :=
  PS.imp (L2.ps_setLc hc hN hy hyl hsw hi ok hg ht he hs) fun D σ H ⟨Γ, env, ds, R, h⟩ => comp_rd hsub ⟨Γ, env, ds, R, (exS_aft R h).imp fun xs ds1 H1 e1 d1 q a us h1 h2 h3 h4 => by
    cases hp : put i (.l xs) env with
    | none => rw [hp] at q; exact q.elim
    | some env' =>
      rw [hp] at q
      exact q _ _ (R.set_l e1 d1 h1 h2 h3 h4 hp)⟩
end
end DL

/-! DL8: comprehensions of two clauses. -/
namespace DL
open PySem PySem.Spec L2
open PyProof.Rows hiding St

def comp2Go (t : Tg) (c : ME Bool) (mi : ME (List PyData)) (vs1 : List Nat) (t1 : Tg) (c1 : ME Bool) (elt : ME PyData) (env : Ev) : List PyData → DS → List PyData → Option (List PyData × DS)
  | [], ds, acc => some (acc, ds)
  | x :: r, ds, acc => match t x env with
    | none => none
    | some env1 => match c env1 ds with
      | some (.ok true, ds1) => match mi env1 ds1 with
        | some (.ok items, ds2) => match wipeE env1 vs1 with
          | none => none
          | some env2 => match compGo t1 c1 elt env2 items ds2 acc with
            | some (acc', ds3) => comp2Go t c mi vs1 t1 c1 elt env r ds3 acc'
            | none => none
        | _ => none
      | some (.ok false, ds1) => comp2Go t c mi vs1 t1 c1 elt env r ds1 acc
      | _ => none
def mComp2 (vs : List Nat) (mi : ME (List PyData)) (t : Tg) (c : ME Bool) (mi1 : ME (List PyData)) (vs1 : List Nat) (t1 : Tg) (c1 : ME Bool) (elt : ME PyData) : ME (List PyData) := mi.bind fun items env ds => match wipeE env vs with
  | none => none
  | some env1 => match comp2Go t c mi1 vs1 t1 c1 elt env1 items ds [] with
    | some (xs, ds') => some (.ok xs, ds')
    | none => none
section
variable {K : PySem.W.Frag} {C : Exs} {W : WX} {Γ : Gm} {σ σ2 : St} {H H' H1 : Hp} {env env1 env2 env' : Ev} {ds ds1 ds' : DS} {D : Addr} {vs : List Nat}
theorem Rel.wipes (R : Rel K Γ σ H env ds) (hk : Γ.lk = []) (h : wipeE env vs = some env') : Rel K Γ (wipe σ vs) H env' ds := by
  obtain ⟨h1, h2, h3⟩ := wipeE_ok h
  refine ⟨by rw [wipe_length, h1]; exact R.len, fun j x q => ?_, fun i j x y hij hi hj oi oj => ?_, R.okf, R.ext, R.draw, fun p e q => R.drc p e ((owned_wipe h).mp q), fun p hp => by rw [hk] at hp; cases hp⟩
  · rcases h2 j x q with rfl | ⟨w1, w2⟩
    · trivial
    · rw [wipe_get w1]
      exact (R.slot j x w2).mono fun a z => ⟨z.1, fun w => z.2.1 ((owned_wipe h).mp w), z.2.2⟩
  · obtain ⟨w1, w2⟩ := (h2 i x hi).resolve_left (fun e => by rw [e] at oi; cases oi)
    obtain ⟨w3, w4⟩ := (h2 j y hj).resolve_left (fun e => by rw [e] at oj; cases oj)
    rw [wipe_get w1, wipe_get w3]
    exact R.sep i j x y hij w2 w4 oi oj
/-- the frame of a block, when D has changed -/
theorem Rel.move (R2 : Rel K (Γ.blk σ env H D) σ2 H env2 ds) (e : ∀ a o, Γ.nd a → a ≠ D → H a = some o → H' a = some o) (hD : ∃ us, H D = some (.lst us)) (hD' : ∃ o, H' D = some o) (d : DrR K Γ H' ds') (cn : ∀ p, Γ.dr = some p → p.2 ≠ D) (hn : ∀ a, H' a = none → Γ.ok a) :
    Rel K (Γ.blk σ env H' D) σ2 H' env2 ds' := by
  obtain ⟨us, hD⟩ := hD
  have own : ∀ a, owned σ2 env2 a → owned σ env a := fun a q => by
    obtain ⟨us, z1, _, z2, _⟩ := R2.own_at q
    rcases Gm.at_none (Γ := Γ) z2 with w | w
    · exact w
    · rw [z1] at w; cases w
  have nD : ∀ a, owned σ2 env2 a → a ≠ D := fun a q => by
    obtain ⟨us, z1, _, z2, _⟩ := R2.own_at q
    exact (R2.okf a z2).2
  have tq : ∀ a u, H a = some (.tup u) → H' a = some (.tup u) := fun a u q => by
    have nd : ∀ {o}, H a = some o → ¬ MutO o → Γ.nd a ∧ a ≠ D := fun {o} h1 h2 => by
      refine ⟨(kept_nd R2 h1 h2).2, fun z => ?_⟩
      rw [z, hD] at h1
      cases h1
      exact h2 (.inl ⟨_, rfl⟩)
    obtain ⟨n1, n2⟩ := nd q imm_tup
    exact e a _ n1 n2 q
  have dm : ∀ {v : V} {x : PyData}, Df K H (gd (Γ.blk σ env H D) σ2 env2) v x → Df K H' (gd (Γ.blk σ env H' D) σ2 env2) v x := fun q => q.mono (fun a u z k => ⟨z, e a _ z.2.2 z.1.2 k⟩) tq
  have dms : ∀ {v : List V} {x : List PyData}, DfAll K H (gd (Γ.blk σ env H D) σ2 env2) v x → DfAll K H' (gd (Γ.blk σ env H' D) σ2 env2) v x := fun q => q.mono (fun a u z k => ⟨z, e a _ z.2.2 z.1.2 k⟩) tq
  refine ⟨R2.len, fun i x hx => ?_, R2.sep, fun a q => ?_, fun a o _ q => Gm.at_le (Γ := Γ) q, d.blkR cn, R2.drc, fun p hp => by cases hp⟩
  · have q := R2.slot i x hx
    cases x with
    | un => trivial
    | d y =>
      obtain ⟨u, e1, e2⟩ := q
      exact ⟨u, e1, dm e2⟩
    | l xs =>
      obtain ⟨a, us, e1, e2, e3, e4, e5, e6⟩ := q
      have oa : owned σ2 env2 a := ⟨i, _, hx, rfl, e1⟩
      exact ⟨a, us, e1, e a _ e6 (nD a oa) e2, dms e3, e4, Gm.at_owned (Γ := Γ) (own a oa), e6⟩
    | lk xs =>
      obtain ⟨a, us, e1, e2, e3, e4, e5, e6⟩ := q
      have oa : owned σ2 env2 a := ⟨i, _, hx, rfl, e1⟩
      exact ⟨a, us, e1, e a _ e6 (nD a oa) e2, dms e3, e4, Gm.at_owned (Γ := Γ) (own a oa), e6⟩
    | dc t0 xs =>
      obtain ⟨a, us, e1, e2, e3, e4, e5, e6⟩ := q
      have oa : owned σ2 env2 a := ⟨i, _, hx, rfl, e1⟩
      exact ⟨a, us, e1, e a _ e6 (nD a oa) e2, dms e3, e4, Gm.at_owned (Γ := Γ) (own a oa), e6⟩
    | drw => exact q
    | scr ns =>
      obtain ⟨a, e1, e2, e3⟩ := q
      refine ⟨a, e1, ?_, e3⟩
      rcases e2 with ⟨o, e2⟩ | e2
      · refine .inl ⟨o, e a _ (kept_nd R2 e2 imm_frz).2 (fun z => ?_) e2⟩
        rw [z, hD] at e2
        cases e2
      · exact .inr e2
  · rcases Gm.at_none (Γ := Γ) q with w | w
    · exact R2.okf a (Gm.at_owned (Γ := Γ) w)
    · refine ⟨hn a w, fun z => ?_⟩
      obtain ⟨o, hD'⟩ := hD'
      rw [z, hD'] at w
      cases w
theorem CIn.rel (R1 : Rel K Γ σ H1 env ds1) (hf : H1 D = none) {acc : List PyData} (c : CIn K Γ σ env H1 D H ds acc) : Rel K Γ σ H env ds := R1.go c.ext c.draw
variable {J : It} {items : List PyData} {t t1 : Tg} {is is1 vs1 : List Nat} {c c1 : ME Bool} {mi1 : ME (List PyData)} {elt : ME PyData} {Qd : Hp → Prop}
/-- the inner loop: H4 where it begins -/
theorem comp_inner {H4 : Hp} {ds4 : DS} {acc : List PyData} {env3 : Ev} {Nx : Hp → Prop} (R1 : Rel K Γ σ H1 env ds1) (hD : H1 D = none) (hw : wipeE env vs = some env1) (hsub : ∀ i ∈ is, i ∈ vs) (hsub1 : ∀ i ∈ is1, i ∈ vs1) (s2 : SameBut is (wipe σ vs) σ2) (v2 : EvBut is env1 env2)
    (hv1 : ∀ i ∈ vs1, i ∈ vs) (R4 : Rel K (Γ.blk σ env H4 D) σ2 H4 env2 ds4) (ci : CIn K Γ σ env H1 D H4 ds4 acc) (wk : ∀ H5, (∀ a o, Γ.nd a → a ≠ D → H4 a = some o → H5 a = some o) → Wlk K J items (fun b => gd (Γ.blk σ env H4 D) σ2 env2 b ∧ H4 b ≠ none) H5) (hw1 : wipeE env2 vs1 = some env3)
    (h : match compGo t1 c1 elt env3 items ds4 acc with | some (xs, ds') => ∀ H', CIn K Γ σ env H1 D H' ds' xs → Nx H' | none => False) :
    ∃ W1 : Nat → Nat → Hp → Prop, (∃ m, W1 0 m H4) ∧ ∀ j k H, W1 j k H →
      (J.stop j H ∧ Nx H) ∨ (J.go j H ∧ ∃ Nx1 : Hp → Prop, (∀ H', Nx1 H' → ∃ k', k' < k ∧ W1 (j + 1) k' H') ∧ ∀ x H', J.yld j H x H' → rdTgm K is1 t1 x (wipe σ2 vs1) H' fun σ3 H5 => wipe σ3 vs1 = wipe σ2 vs1 ∧ rdT K C W0 c1 σ3 H5 fun b H6 =>
        if b = true then rdG MD K C W0 elt σ3 H6 fun y H7 => ∃ acc, H7 D = some (.lst acc) ∧ acc.length < sizeLine ∧ Nx1 (upd H7 D (.lst (acc ++ [y]))) else Nx1 H6) := by
  have cn := R1.cell_ne hD
  have nD := (R1.new_gd hD).2.2
  refine ⟨fun i m H => m = items.length - i ∧ i ≤ items.length ∧ (∀ a o, Γ.nd a → a ≠ D → H4 a = some o → H a = some o) ∧ ∃ ds acc, CIn K Γ σ env H1 D H ds acc ∧ match compGo t1 c1 elt env3 (items.drop i) ds acc with | some (xs, ds') => ∀ H', CIn K Γ σ env H1 D H' ds' xs → Nx H' | none => False,
    ⟨_, rfl, Nat.zero_le _, fun _ _ _ _ q => q, ds4, acc, ci, h⟩, ?_⟩
  rintro i m H ⟨rfl, hi, kp, ds, acc, ci, h⟩
  have rel : ∀ {H : Hp} {ds : DS} {acc : List PyData}, (∀ a o, Γ.nd a → a ≠ D → H4 a = some o → H a = some o) → CIn K Γ σ env H1 D H ds acc → Rel K (Γ.blk σ env H D) σ2 H env2 ds := fun {H ds acc} kp ci' => by
    obtain ⟨us, l1, _⟩ := ci.lst
    obtain ⟨us', l2, _⟩ := ci'.lst
    refine R4.move kp ?_ ⟨_, l2⟩ ci'.draw cn fun a q => ((CIn.rel R1 hD ci').new_gd q).1
    obtain ⟨us0, l0, _⟩ := (‹CIn K Γ σ env H1 D H4 ds4 _›).lst
    exact ⟨_, l0⟩
  have R := rel kp ci
  have wl0 := wk H kp
  have gm : ∀ {H : Hp} a, gd (Γ.blk σ env H4 D) σ2 env2 a ∧ H4 a ≠ none → gd (Γ.blk σ env H D) (wipe σ2 vs1) env3 a := fun {H} a z => ⟨z.1.1, fun w => z.1.2.1 ((owned_wipe hw1).mp w), z.1.2.2⟩
  by_cases hlt : i < items.length
  · refine .inr ⟨wl0.go i hlt, fun H' => (items.length - (i + 1)) = items.length - (i + 1) ∧ i + 1 ≤ items.length ∧ (∀ a o, Γ.nd a → a ≠ D → H4 a = some o → H' a = some o) ∧ ∃ ds acc, CIn K Γ σ env H1 D H' ds acc ∧ match compGo t1 c1 elt env3 (items.drop (i + 1)) ds acc with | some (xs, ds') => ∀ H', CIn K Γ σ env H1 D H' ds' xs → Nx H' | none => False,
      fun H' n => ⟨items.length - (i + 1), by omega, n⟩, fun x H' y => ?_⟩
    obtain ⟨d, e1, k, hx⟩ := wl0.yld i x H' hlt y
    have e2 : items.drop i = d :: items.drop (i + 1) := by
      rw [List.drop_eq_getElem_cons hlt]
      rw [List.getElem?_eq_getElem hlt] at e1
      rw [Option.some.inj e1]
    rw [e2] at h
    have ci' : CIn K Γ σ env H1 D H' ds acc := ci.on R1 hD (fun a o _ q => k a o q) (drR_kept ci.draw k)
    have kp' : ∀ a o, Γ.nd a → a ≠ D → H4 a = some o → H' a = some o := fun a o n1 n2 q => k a o (kp a o n1 n2 q)
    have hx' : Df K H' (gd (Γ.blk σ env H' D) (wipe σ2 vs1) env3) x d := hx.mono (fun a u z q => ⟨gm a z, q⟩) fun _ _ z => z
    have RB := (rel kp' ci').wipes rfl hw1
    unfold compGo at h
    cases ht : t1 d env3 with
    | none => rw [ht] at h; exact h.elim
    | some env4 =>
      rw [ht] at h
      dsimp only at h
      refine ⟨Γ.blk σ env H' D, env3, ds, d, env4, RB, hx', ht, fun σ3 R3 _ s3 v3 => ⟨(wipe_same s3 hsub1).trans wipe_idem, Γ.blk σ env H' D, env4, ds, R3, aft_blk ?_⟩⟩
      have back : ∀ {a : Addr}, gd (Γ.blk σ env H' D) σ3 env4 a → gdx Γ σ env D a := fun {a} q => by
        refine ⟨⟨q.1.1, fun w => q.2.1 ?_, q.2.2⟩, q.1.2⟩
        obtain ⟨j, x, w1, w2, w3⟩ := w
        obtain ⟨_, _, h3⟩ := wipeE_ok hw
        obtain ⟨z1, z2⟩ := h3 j x w1 w2
        obtain ⟨_, _, h4⟩ := wipeE_ok hw1
        have nj : j ∉ is := fun z => z1 (hsub j z)
        have y1 : env2[j]? = some x := by rw [v2.2 j nj]; exact z2
        obtain ⟨z3, z4⟩ := h4 j x y1 w2
        have nj1 : j ∉ is1 := fun z => z3 (hsub1 j z)
        exact ⟨j, x, by rw [v3.2 j nj1]; exact z4, w2, by rw [s3.2 j nj1, wipe_get z3, s2.2 j nj, wipe_get z1]; exact w3⟩
      rcases q : c1 env4 ds with _ | ⟨b | ex, ds2⟩
      · rw [q] at h; exact h.elim
      · rw [q] at h
        intro H5 e5 d5
        have ci5 := ci'.on R1 hD e5 d5
        have kp5 : ∀ a o, Γ.nd a → a ≠ D → H4 a = some o → H5 a = some o := fun a o n1 n2 q => e5 a o n1 (kp' a o n1 n2 q)
        cases b with
        | false =>
          rw [if_neg Bool.false_ne_true]
          exact ⟨rfl, hlt, kp5, ds2, acc, ci5, h⟩
        | true =>
          rw [if_pos rfl]
          have g5 := R3.go (H1 := H5) e5 (d5.blkR cn)
          refine ⟨Γ.blk σ env H' D, env4, ds2, g5, aft_blk ?_⟩
          dsimp only at h
          rcases q2 : elt env4 ds2 with _ | ⟨y | ex, ds3⟩
          · rw [q2] at h; exact h.elim
          · rw [q2] at h
            intro H6 e6 d6 v hv
            dsimp only at h
            by_cases hs : acc.length < sizeLine
            · rw [if_pos (decide_eq_true hs)] at h
              have hy : Df K H6 (gdx Γ σ env D) v y := hv.mono (fun a u z q => ⟨back z, q⟩) fun _ _ z => z
              obtain ⟨us, w1, w2, w3⟩ := ci5.grow R1 hD e6 d6 y v hy hs
              exact ⟨us, w1, w2, rfl, hlt, fun a o n1 n2 q => by rw [upd_ne n2]; exact e6 a o n1 (kp5 a o n1 n2 q), ds3, _, w3, h⟩
            · rw [if_neg (by rw [decide_eq_false hs]; exact Bool.false_ne_true)] at h
              exact h.elim
          · rw [q2] at h; exact h.elim
      · rw [q] at h; exact h.elim
  · refine .inl ⟨wl0.stop i (by omega), ?_⟩
    rw [List.drop_eq_nil_of_le (by omega)] at h
    exact h H ci
theorem comp2_loop (hsub : ∀ i ∈ is, i ∈ vs) (hsub1 : ∀ i ∈ is1, i ∈ vs1) (hv1 : ∀ i ∈ vs1, i ∈ vs) (R1 : Rel K Γ σ H1 env ds1) (wk : Wk K Γ σ env J items H1) (hD : H1 D = none) (hw : wipeE env vs = some env1)
    (h : match comp2Go t c mi1 vs1 t1 c1 elt env1 items ds1 [] with | some (xs, ds') => ∀ H', CIn K Γ σ env H1 D H' ds' xs → Qd H' | none => False) :
    ∃ W' : Nat → Nat → Hp → Prop, (∃ m, W' 0 m (upd H1 D (.lst []))) ∧ ∀ i m H, W' i m H →
      (J.stop i H ∧ Qd H) ∨ (J.go i H ∧ ∃ Nx : Hp → Prop, (∀ H', Nx H' → ∃ m', m' < m ∧ W' (i + 1) m' H') ∧ ∀ x H', J.yld i H x H' → rdTgm K is t x (wipe σ vs) H' fun σ2 H2 => wipe σ2 vs = wipe σ vs ∧ rdT K C W0 c σ2 H2 fun b H3 =>
        if b = true then rdI K C W0 mi1 σ2 H3 fun J1 H4 => ∃ W1 : Nat → Nat → Hp → Prop, (∃ m, W1 0 m H4) ∧ ∀ j k H, W1 j k H →
          (J1.stop j H ∧ Nx H) ∨ (J1.go j H ∧ ∃ Nx1 : Hp → Prop, (∀ H', Nx1 H' → ∃ k', k' < k ∧ W1 (j + 1) k' H') ∧ ∀ x H', J1.yld j H x H' → rdTgm K is1 t1 x (wipe σ2 vs1) H' fun σ3 H5 => wipe σ3 vs1 = wipe σ2 vs1 ∧ rdT K C W0 c1 σ3 H5 fun b H6 =>
            if b = true then rdG MD K C W0 elt σ3 H6 fun y H7 => ∃ acc, H7 D = some (.lst acc) ∧ acc.length < sizeLine ∧ Nx1 (upd H7 D (.lst (acc ++ [y]))) else Nx1 H6)
        else Nx H3) := by
  have cn := R1.cell_ne hD
  refine ⟨fun i m H => m = items.length - i ∧ i ≤ items.length ∧ ∃ ds acc, CIn K Γ σ env H1 D H ds acc ∧ match comp2Go t c mi1 vs1 t1 c1 elt env1 (items.drop i) ds acc with | some (xs, ds') => ∀ H', CIn K Γ σ env H1 D H' ds' xs → Qd H' | none => False,
    ⟨_, rfl, Nat.zero_le _, ds1, [], CIn.start R1 hD, h⟩, ?_⟩
  rintro i m H ⟨rfl, hi, ds, acc, ci, h⟩
  have wl := Wlk.blk R1 hD ci.ext wk hw
  by_cases hlt : i < items.length
  · refine .inr ⟨wl.go i hlt, fun H' => (items.length - (i + 1)) = items.length - (i + 1) ∧ i + 1 ≤ items.length ∧ ∃ ds acc, CIn K Γ σ env H1 D H' ds acc ∧ match comp2Go t c mi1 vs1 t1 c1 elt env1 (items.drop (i + 1)) ds acc with | some (xs, ds') => ∀ H', CIn K Γ σ env H1 D H' ds' xs → Qd H' | none => False,
      fun H' n => ⟨items.length - (i + 1), by omega, n⟩, fun x H' y => ?_⟩
    obtain ⟨d, e1, k, hx⟩ := wl.yld i x H' hlt y
    have e2 : items.drop i = d :: items.drop (i + 1) := by
      rw [List.drop_eq_getElem_cons hlt]
      rw [List.getElem?_eq_getElem hlt] at e1
      rw [Option.some.inj e1]
    rw [e2] at h
    have ci' : CIn K Γ σ env H1 D H' ds acc := ci.on R1 hD (fun a o _ q => k a o q) (drR_kept ci.draw k)
    obtain ⟨us, l1, l2, l3⟩ := ci'.lst
    have hx' : Df K H' (gd (Γ.blk σ env H' D) (wipe σ vs) env1) x d := hx.mono (fun a u z q => ⟨z, q⟩) fun _ _ z => z
    have RB := R1.blk hD ci'.ext ci'.draw ⟨_, l1⟩ hw
    unfold comp2Go at h
    cases ht : t d env1 with
    | none => rw [ht] at h; exact h.elim
    | some env2 =>
      rw [ht] at h
      dsimp only at h
      refine ⟨Γ.blk σ env H' D, env1, ds, d, env2, RB, hx', ht, fun σ2 R2 _ s2 v2 => ⟨(wipe_same s2 hsub).trans wipe_idem, Γ.blk σ env H' D, env2, ds, R2, aft_blk ?_⟩⟩
      rcases q : c env2 ds with _ | ⟨b | ex, ds2⟩
      · rw [q] at h; exact h.elim
      · rw [q] at h
        intro H3 e3 d3
        have ci3 := ci'.on R1 hD e3 d3
        cases b with
        | false =>
          rw [if_neg Bool.false_ne_true]
          exact ⟨rfl, hlt, ds2, acc, ci3, h⟩
        | true =>
          rw [if_pos rfl]
          have mv : ∀ {H4 : Hp} {ds4 : DS}, Ext Γ H' H4 → DrR K Γ H4 ds4 → Rel K (Γ.blk σ env H4 D) σ2 H4 env2 ds4 := fun {H4 ds4} e4 d4 => by
            have ci4 := ci'.on R1 hD e4 d4
            obtain ⟨us4, w, _⟩ := ci4.lst
            exact R2.move (fun a o n _ q => e4 a o n q) ⟨_, l1⟩ ⟨_, w⟩ d4 cn fun a q => ((CIn.rel R1 hD ci4).new_gd q).1
          have R3 := mv e3 d3
          refine ⟨Γ.blk σ env H3 D, env2, ds2, R3, aft_blk ?_⟩
          dsimp only at h
          rcases q2 : mi1 env2 ds2 with _ | ⟨items1 | ex, ds3⟩
          · rw [q2] at h; exact h.elim
          · rw [q2] at h
            intro H4 e4 d4 J1 wk1
            dsimp only at h
            cases hw1 : wipeE env2 vs1 with
            | none => rw [hw1] at h; exact h.elim
            | some env3 =>
              rw [hw1] at h
              dsimp only at h
              have ci4 := ci3.on R1 hD e4 d4
              have R4 := mv (e3.trans e4) d4
              refine comp_inner (items := items1) (t1 := t1) (c1 := c1) (elt := elt) (C := C) R1 hD hw hsub hsub1 s2 v2 hv1 R4 ci4 (fun H5 kp => ?_) hw1 ?_
              · exact wk1 H5 fun a o n1 n2 n3 q => by
                  refine kp a o n2 (fun z => ?_) q
                  obtain ⟨us4, w, _⟩ := ci4.lst
                  rw [z, w] at q
                  cases q
                  exact (n3 _ rfl).2 z
              · rcases q3 : compGo t1 c1 elt env3 items1 ds3 acc with _ | ⟨acc', ds4⟩
                · rw [q3] at h; exact h
                · rw [q3] at h
                  exact fun H5 ci5 => ⟨rfl, hlt, ds4, acc', ci5, h⟩
          · rw [q2] at h; exact h.elim
      · rw [q] at h; exact h.elim
  · refine .inl ⟨wl.stop i (by omega), ?_⟩
    rw [List.drop_eq_nil_of_le (by omega)] at h
    exact h H ci
end
section
variable {X : Cx} {C : Exs} {W : WX} {fr : Bool} {elt tg iter tg1 iter1 : Expr} {ifs ifs1 : List Expr} {scope : Scope} {own : List (Str × Nat)} {pos : Pos} {mi mi1 : ME (List PyData)} {t t1 : Tg} {is is1 vs1 : List Nat} {c c1 : ME Bool} {me : ME PyData}
theorem comp2_rd {K : PySem.W.Frag} (hv : ∀ i ∈ vs1, i ∈ own.map (·.2)) (hsub : ∀ i ∈ is, i ∈ own.map (·.2)) (hsub1 : ∀ i ∈ is1, i ∈ vs1) {σ : St} {H : Hp} {Q : VK} (h : rdF K C W (mComp2 (own.map (·.2)) mi t c mi1 vs1 t1 c1 me) σ H Q) :
    tLc2 (rdI K C W mi) (rdTgm K is t) (rdT K C W0 c) (rdI K C W0 mi1) (rdTgm K is1 t1) (rdT K C W0 c1) (rdG MD K C W0 me) (own.map (·.2)) vs1 σ H Q := by
  obtain ⟨Γ, env, ds, R, h⟩ := h
  refine ⟨Γ, env, ds, R, h.bind.imp fun items ds1 H1 e1 d1 q J wk D hD => ?_⟩
  have R1 := R.go e1 d1
  have hD0 := R.none_back e1 d1 hD
  dsimp only at q
  cases hw : wipeE env (own.map (·.2)) with
  | none => rw [hw] at q; exact q.elim
  | some env1 =>
    rw [hw] at q
    dsimp only at q
    refine comp2_loop hsub hsub1 hv R1 wk hD hw ?_
    rcases z : comp2Go t c mi1 vs1 t1 c1 me env1 items ds1 [] with _ | ⟨xs, ds'⟩
    · rw [z] at q; exact q
    · rw [z] at q
      intro H' ci
      obtain ⟨us, l1, l2, l3⟩ := ci.lst
      exact q H' ci.ext ci.draw D us hD0 l1 l2 l3
abbrev Blk (X : Cx) (scope : Scope) (P : Cx → Prop) : Prop := ∀ (s : Shared) (H : Hp) (k : Addr) (cl : List (Str × Addr)) (fp : List Addr), P (X.blk s H scope (compEnvC scope cl k X.env) fp)
theorem sf_comp2 (hc : X.calm = true) (hN : X.N.Nodup) (hi : SI X C W tg iter mi) (ok : BlkOk X.N X.env.scope scope own) (hv : ∀ i ∈ vs1, i ∈ own.map (·.2)) (hsub : ∀ i ∈ is, i ∈ own.map (·.2)) (hsub1 : ∀ i ∈ is1, i ∈ vs1)
    (hg : Blk X scope fun Y => SG Y tg is t) (ht : Blk X scope fun Y => STs Y C W0 ifs c) (hi1 : Blk X scope fun Y => SI Y C W0 tg1 iter1 mi1) (hg1 : Blk X scope fun Y => SG Y tg1 is1 t1) (ht1 : Blk X scope fun Y => STs Y C W0 ifs1 c1) (he : Blk X scope fun Y => SE Y C W0 elt me)
    (hs : ∀ x, foldedSetIterable iter X.env x = pure x := by intro _; rfl) (hs1 : ∀ env x, foldedSetIterable iter1 env x = pure x := by intro _ _; rfl) : SF X C W (.ListComp elt [⟨tg, iter, ifs, 0⟩, ⟨tg1, iter1, ifs1, 0⟩] scope pos) (mComp2 (own.map (·.2)) mi t c mi1 vs1 t1 c1 me) :=
  PE.imp (pe_lc2 hc hN hi ok hv hg ht hi1 hg1 ht1 he hs hs1) fun σ H Q h => comp2_rd hv hsub hsub1 h
theorem ss_setLc2 (i : Nat) {y : Str} {py spos : Pos} (hc : X.calm = true) (hN : X.N.Nodup) (hsw : swapsWith (.ListComp elt [⟨tg, iter, ifs, 0⟩, ⟨tg1, iter1, ifs1, 0⟩] scope pos) (some (.Name y py)) spos.line X.env = pure true) (hi : SI X C W tg iter mi) (ok : BlkOk X.N X.env.scope scope own) (hv : ∀ i ∈ vs1, i ∈ own.map (·.2)) (hsub : ∀ i ∈ is, i ∈ own.map (·.2)) (hsub1 : ∀ i ∈ is1, i ∈ vs1)
    (hg : Blk X scope fun Y => SG Y tg is t) (ht : Blk X scope fun Y => STs Y C W0 ifs c) (hi1 : Blk X scope fun Y => SI Y C W0 tg1 iter1 mi1) (hg1 : Blk X scope fun Y => SG Y tg1 is1 t1) (ht1 : Blk X scope fun Y => STs Y C W0 ifs1 c1) (he : Blk X scope fun Y => SE Y C W0 elt me)
    (hy : X.N[i]? = some y := by rfl) (hyl : X.env.scope.names.lookup y = some .local := by rfl) (hs : ∀ x, foldedSetIterable iter X.env x = pure x := by intro _; rfl) (hs1 : ∀ env x, foldedSetIterable iter1 env x = pure x := by intro _ _; rfl) :
    SS X C W fr (.Assign [.Name y py] (.ListComp elt [⟨tg, iter, ifs, 0⟩, ⟨tg1, iter1, ifs1, 0⟩] scope pos) spos) (mSet i (mF (mComp2 (own.map (·.2)) mi t c mi1 vs1 t1 c1 me))) :=
  PS.imp (L2.ps_setLc2 hc hN hy hyl hsw hi ok hv hg ht hi1 hg1 ht1 he hs hs1) fun D σ H ⟨Γ, env, ds, R, h⟩ => comp2_rd hv hsub hsub1 ⟨Γ, env, ds, R, (exS_aft R h).bind.imp fun xs ds1 H1 e1 d1 q a us h1 h2 h3 h4 => by
    have q := Aft.here q d1
    cases hp : put i (.d (.list xs)) env with
    | none => rw [hp] at q; exact q.elim
    | some env' =>
      rw [hp] at q
      exact q _ _ ((R.go e1 d1).set_d (.lst (R.new_gd h1) h2 h3 h4.unavoid) hp)⟩
end
end DL

/-! DL9: one's own lists changed, the draw, calls of defs, the rule for a def, try. -/
namespace DL
open PySem PySem.Spec L2
open PyProof.Rows hiding St

/-! ### one's own lists -/
/-- the list in a slot, ahead of all else -/
def onL (i : Nat) (f : List PyData → MS) : MS := fun env ds => match env[i]? with
  | some (.l xs) => f xs env ds
  | _ => none
def mApp (i : Nat) (a : ME PyData) : MS := onL i fun xs => exS a fun x env ds => if decide (xs.length < sizeLine) then some (.nx (env.set i (.l (xs ++ [x]))), ds) else none
def mExt (i : Nat) (a : ME PyData) : MS := onL i fun xs => exS a fun x env ds => match x with
  | .list ys => if short (xs.length + ys.length) then some (.nx (env.set i (.l (xs ++ ys))), ds) else none
  | _ => none
def mPut (i : Nat) (ix a : ME PyData) : MS := onL i fun xs => exS a fun x => exS ix fun k env ds => match k with
  | .int k => match ixN xs.length k with
    | some j => some (.nx (env.set i (.l (xs.set j x))), ds)
    | none => none
  | _ => none
/-- x.append(y.pop(e)) -/
def mAppPop (i j : Nat) (ix : ME PyData) : MS := onL i fun xs => onL j fun ys => exS ix fun k env ds => match k with
  | .int k => if decide (0 ≤ k ∧ k < 2 ^ 62) && decide (i ≠ j) && decide (xs.length < sizeLine) then match ys[k.toNat]? with
      | some y => some (.nx ((env.set j (.l (ys.eraseIdx k.toNat))).set i (.l (xs ++ [y]))), ds)
      | none => none
    else none
  | _ => none
/-- x = y.pop() -/
def mSetPop (i j : Nat) : MS := onL j fun ys env ds => match ys[ys.length - 1]? with
  | some y => match put i (.d y) (env.set j (.l ys.dropLast)) with
    | some env' => if decide (i ≠ j) then some (.nx env', ds) else none
    | none => none
  | none => none
theorem onL_aft {K : PySem.W.Frag} {C : Exs} {W : WX} {fr : Bool} {Γ : Gm} {D : Ends} {i : Nat} {f : List PyData → MS} {env : Ev} {ds : DS} (h : Aft2 K C W fr Γ D (onL i f env ds)) : ∃ xs, env[i]? = some (.l xs) ∧ Aft2 K C W fr Γ D (f xs env ds) := by
  unfold onL at h
  split at h
  · rename_i xs q
    exact ⟨xs, q, h⟩
  · exact h.elim
section
variable {X : Cx} {C : Exs} {W : WX} {fr : Bool} {e o ix : Expr} {me mi : ME PyData} {K : PySem.W.Frag} {Γ : Gm} {σ : St} {H : Hp} {env : Ev} {ds : DS}
theorem Rel.l_at (R : Rel K Γ σ H env ds) {i : Nat} {xs : List PyData} (h : env[i]? = some (.l xs)) : ∃ a us, σ[i]? = some (some (V.ref a)) ∧ H a = some (.lst us) ∧ DfAll K H (gd Γ σ env) us xs ∧ us.length ≤ sizeLine := by
  obtain ⟨a, us, e1, e2, e3, e4, _⟩ := R.slot i _ h
  exact ⟨a, us, e1, e2, e3, e4⟩
theorem tyV_list {a : Addr} {us : List V} (h : H a = some (.lst us)) : tyV K "list" (.ref a) H := .inl ⟨rfl, us, SqL.of h⟩
theorem Rel.l_same {H1 : Hp} {ds1 : DS} (R : Rel K Γ σ H env ds) (e1 : Ext Γ H H1) (d1 : DrR K Γ H1 ds1) {i : Nat} {xs : List PyData} {a : Addr} (h : env[i]? = some (.l xs)) (hs : σ[i]? = some (some (V.ref a))) : ∃ us, H1 a = some (.lst us) ∧ DfAll K H1 (gd Γ σ env) us xs ∧ us.length ≤ sizeLine := by
  obtain ⟨b, us, q1, q2, q3, q4⟩ := (R.go e1 d1).l_at h
  rw [hs] at q1
  cases q1
  exact ⟨us, q2, q3, q4⟩
theorem ss_app (i : Nat) {x : Str} {p ap cp ep : Pos} (he : SE X C W e me) (hN : X.N[i]? = some x := by rfl) (hv : Vis X.env.scope x := by first | exact Or.inl rfl | exact Or.inr (Or.inl rfl) | exact Or.inr (Or.inr rfl)) (hd : (x == ("__debug__" : Str)) = false := by decide) (hcd : (x == ("__classdict__" : Str)) = false := by decide)
    (hbase : attributeBase (.Name x p) "append" X.env (eval (.Name x p) X.env) = eval (.Name x p) X.env := by rfl)
    (hfew : ((backTo cp (starEach [e] X.env)).all (fun x => !x.1) && (backToKw cp (keywordEach [] X.env)).all (fun x => x.1.isSome) && decide ([e].length + ([] : List Keyword).length + (if ([] : List Keyword).isEmpty then 0 else 1) < 30)) = true := by rfl)
    (hline : (ap.endLine == cp.line) = true := by rfl) (hs : starEach (e :: []) X.env = (false, eval e X.env) :: starEach [] X.env := by rfl) (hplain : (backTo cp (starEach [] X.env)).any (·.1) = false := by rfl)
    (hsw : swapsWith (.Call (.Attribute (.Name x p) "append" ap) [e] [] cp) none ep.line X.env = pure false := by rfl) :
    SS X C W fr (.Expr (.Call (.Attribute (.Name x p) "append" ap) [e] [] cp) ep) (mApp i me) :=
  PS.imp (ps_expr (pe_bm PySem.F.plainAttrs_list PySem.F.slot_list_append PySem.F.type_list_append mt_append (pe_var hN hv hd hcd) (pa_cons he pa_nil hs) hbase hfew hline hs hplain) hsw) fun D σ H ⟨Γ, env, ds, R, h⟩ => by
    obtain ⟨xs, q0, h⟩ := onL_aft h
    obtain ⟨a, us, q1, q2, q3, q4⟩ := R.l_at q0
    refine ⟨_, q1, tyV_list q2, Γ, env, ds, R, (exS_aft R h).imp fun d ds1 H1 e1 d1 q v hv => ?_⟩
    obtain ⟨us1, w1, w2, w3⟩ := R.l_same e1 d1 q0 q1
    by_cases hs : xs.length < sizeLine
    · rw [if_pos (decide_eq_true hs)] at q
      have ln := w2.length
      refine ⟨a, us1, v, rfl, rfl, w1, by rw [ln]; exact hs, q _ _ ((R.go e1 d1).upd_l q0 q1 (by rw [List.length_append, ln]; exact hs) (w2.append (.cons hv .nil)))⟩
    · rw [if_neg (by rw [decide_eq_false hs]; exact Bool.false_ne_true)] at q
      exact q.elim
theorem ss_ext (i : Nat) {x : Str} {p ap cp ep : Pos} (he : SE X C W e me) (hN : X.N[i]? = some x := by rfl) (hv : Vis X.env.scope x := by first | exact Or.inl rfl | exact Or.inr (Or.inl rfl) | exact Or.inr (Or.inr rfl)) (hd : (x == ("__debug__" : Str)) = false := by decide) (hcd : (x == ("__classdict__" : Str)) = false := by decide)
    (hbase : attributeBase (.Name x p) "extend" X.env (eval (.Name x p) X.env) = eval (.Name x p) X.env := by rfl)
    (hfew : ((backTo cp (starEach [e] X.env)).all (fun x => !x.1) && (backToKw cp (keywordEach [] X.env)).all (fun x => x.1.isSome) && decide ([e].length + ([] : List Keyword).length + (if ([] : List Keyword).isEmpty then 0 else 1) < 30)) = true := by rfl)
    (hline : (ap.endLine == cp.line) = true := by rfl) (hs : starEach (e :: []) X.env = (false, eval e X.env) :: starEach [] X.env := by rfl) (hplain : (backTo cp (starEach [] X.env)).any (·.1) = false := by rfl)
    (hsw : swapsWith (.Call (.Attribute (.Name x p) "extend" ap) [e] [] cp) none ep.line X.env = pure false := by rfl) :
    SS X C W fr (.Expr (.Call (.Attribute (.Name x p) "extend" ap) [e] [] cp) ep) (mExt i me) :=
  PS.imp (ps_expr (pe_bm PySem.F.plainAttrs_list PySem.F.slot_list_extend PySem.F.type_list_extend mt_extend (pe_var hN hv hd hcd) (pa_cons he pa_nil hs) hbase hfew hline hs hplain) hsw) fun D σ H ⟨Γ, env, ds, R, h⟩ => by
    obtain ⟨xs, q0, h⟩ := onL_aft h
    obtain ⟨a, us, q1, q2, q3, q4⟩ := R.l_at q0
    refine ⟨_, q1, tyV_list q2, Γ, env, ds, R, (exS_aft R h).imp fun d ds1 H1 e1 d1 q v hv => ?_⟩
    obtain ⟨us1, w1, w2, w3⟩ := R.l_same e1 d1 q0 q1
    cases d with
    | list ys =>
      cases hv with
      | lst a1 a2 a3 a4 =>
        dsimp only at q
        by_cases hs' : short (xs.length + ys.length) = true
        · rw [if_pos hs'] at q
          have hs := short_iff hs'
          have ln := w2.length
          have ln2 := a4.length
          refine ⟨a, _, us1, _, rfl, rfl, w1, a2, by rw [ln, ln2]; exact hs, q _ _ ((R.go e1 d1).upd_l q0 q1 (by rw [List.length_append, ln, ln2]; exact hs) (w2.append a4))⟩
        · rw [if_neg hs'] at q
          exact q.elim
    | _ => exact q.elim
theorem ss_put (i : Nat) {x : Str} {p sp : Pos} {pos : Pos} (he : SE X C W e me) (hi : SE X C W ix mi) (hN : X.N[i]? = some x := by rfl) (hv : Vis X.env.scope x := by first | exact Or.inl rfl | exact Or.inr (Or.inl rfl) | exact Or.inr (Or.inr rfl)) (hd : (x == ("__debug__" : Str)) = false := by decide) (hcd : (x == ("__classdict__" : Str)) = false := by decide)
    (ha : ∀ v, assign (.Subscript (.Name x p) ix sp) X.env v = (do
      let ov ← holding [v] (eval (.Name x p) X.env)
      let iv ← holding [v, ov] (eval ix X.env)
      standAt sp
      holding [v, ov, iv] (setItem ov iv v)
      release [v, ov, iv] []) := by intro _; rfl)
    (hs : swapsWithSole [.Subscript (.Name x p) ix sp] e pos.line X.env = pure false := by rfl) (hw : swappedStores [.Subscript (.Name x p) ix sp] e X.env = pure none := by rfl)
    (h1 : (assignEach [.Subscript (.Name x p) ix sp] X.env).map (·.2) = [assign (.Subscript (.Name x p) ix sp) X.env] := by rfl) :
    SS X C W fr (.Assign [.Subscript (.Name x p) ix sp] e pos) (mPut i mi me) :=
  PS.imp (ps_asg he (pg_sub (pe_var hN hv hd hcd) hi set_list ha) hs hw h1) fun D σ H ⟨Γ, env, ds, R, h⟩ => by
    obtain ⟨xs, q0, h⟩ := onL_aft h
    obtain ⟨a, us, q1, q2, q3, q4⟩ := R.l_at q0
    refine ⟨Γ, env, ds, R, (exS_aft R h).imp fun d ds1 H1 e1 d1 q v hv => ⟨_, q1, ?_⟩⟩
    have R1 := R.go e1 d1
    refine ⟨Γ, env, ds1, R1, (exS_aft R1 q).imp fun k ds2 H2 e2 d2 q w hw => ?_⟩
    obtain ⟨us1, w1, w2, w3⟩ := R1.l_same e2 d2 q0 q1
    cases k with
    | int k =>
      cases hw
      dsimp only at q
      cases hj : ixN xs.length k with
      | none => rw [hj] at q; exact q.elim
      | some j =>
        rw [hj] at q
        refine ⟨a, us1, k, j, rfl, rfl, w1, by rw [w2.length]; exact hj, q _ _ ((R1.go e2 d2).upd_l q0 q1 (by rw [List.length_set]; exact w3) (w2.set j (hv.ext e2 d1)))⟩
    | _ => exact q.elim
theorem seqIndex_nat {k : Int} {n j : Nat} (h0 : 0 ≤ k) (h1 : k.toNat < n) (hj : k.toNat = j) : seqIndex? k n = some j := by
  have := ixN_seq (n := n) (i := k) (j := j) (by
    unfold ixN
    rw [if_pos h0, if_pos (by omega), hj])
  exact this.1
theorem DfAll.erase {g : Addr → Prop} : ∀ {us : List V} {xs : List PyData} (n : Nat), DfAll K H g us xs → DfAll K H g (us.eraseIdx n) (xs.eraseIdx n)
  | _, _, _, .nil => .nil
  | _, _, 0, .cons _ t => t
  | _, _, n + 1, .cons h t => .cons h (DfAll.erase n t)
theorem DfAll.dropLast {g : Addr → Prop} {us : List V} {xs : List PyData} (h : DfAll K H g us xs) : DfAll K H g us.dropLast xs.dropLast := by
  rw [List.dropLast_eq_take, List.dropLast_eq_take, h.length]
  exact h.take _
theorem ss_appPop (i j : Nat) {x y : Str} {p ap cp p2 ap2 cp2 ep : Pos} (he : SE X C W e me) (hN : X.N[i]? = some x := by rfl) (hv : Vis X.env.scope x := by first | exact Or.inl rfl | exact Or.inr (Or.inl rfl) | exact Or.inr (Or.inr rfl)) (hd : (x == ("__debug__" : Str)) = false := by decide) (hcd : (x == ("__classdict__" : Str)) = false := by decide)
    (hN2 : X.N[j]? = some y := by rfl) (hv2 : Vis X.env.scope y := by first | exact Or.inl rfl | exact Or.inr (Or.inl rfl) | exact Or.inr (Or.inr rfl)) (hd2 : (y == ("__debug__" : Str)) = false := by decide) (hcd2 : (y == ("__classdict__" : Str)) = false := by decide)
    (hbase : attributeBase (.Name x p) "append" X.env (eval (.Name x p) X.env) = eval (.Name x p) X.env := by rfl) (hbase2 : attributeBase (.Name y p2) "pop" X.env (eval (.Name y p2) X.env) = eval (.Name y p2) X.env := by rfl)
    (hfew : ((backTo cp (starEach [.Call (.Attribute (.Name y p2) "pop" ap2) [e] [] cp2] X.env)).all (fun x => !x.1) && (backToKw cp (keywordEach [] X.env)).all (fun x => x.1.isSome) && decide ([Expr.Call (.Attribute (.Name y p2) "pop" ap2) [e] [] cp2].length + ([] : List Keyword).length + (if ([] : List Keyword).isEmpty then 0 else 1) < 30)) = true := by rfl)
    (hfew2 : ((backTo cp2 (starEach [e] X.env)).all (fun x => !x.1) && (backToKw cp2 (keywordEach [] X.env)).all (fun x => x.1.isSome) && decide ([e].length + ([] : List Keyword).length + (if ([] : List Keyword).isEmpty then 0 else 1) < 30)) = true := by rfl)
    (hline : (ap.endLine == cp.line) = true := by rfl) (hline2 : (ap2.endLine == cp2.line) = true := by rfl) (hs2 : starEach (e :: []) X.env = (false, eval e X.env) :: starEach [] X.env := by rfl) (hplain2 : (backTo cp2 (starEach [] X.env)).any (·.1) = false := by rfl)
    (hs : starEach (Expr.Call (.Attribute (.Name y p2) "pop" ap2) [e] [] cp2 :: []) X.env = (false, eval (Expr.Call (.Attribute (.Name y p2) "pop" ap2) [e] [] cp2) X.env) :: starEach [] X.env := by rfl) (hplain : (backTo cp (starEach [] X.env)).any (·.1) = false := by rfl)
    (hsw : swapsWith (.Call (.Attribute (.Name x p) "append" ap) [.Call (.Attribute (.Name y p2) "pop" ap2) [e] [] cp2] [] cp) none ep.line X.env = pure false := by rfl) :
    SS X C W fr (.Expr (.Call (.Attribute (.Name x p) "append" ap) [.Call (.Attribute (.Name y p2) "pop" ap2) [e] [] cp2] [] cp) ep) (mAppPop i j me) :=
  PS.imp (ps_expr (pe_bm PySem.F.plainAttrs_list PySem.F.slot_list_append PySem.F.type_list_append mt_append (pe_var hN hv hd hcd) (pa_cons (pe_bm PySem.F.plainAttrs_list PySem.F.slot_list_pop PySem.F.type_list_pop mt_popAt (pe_var hN2 hv2 hd2 hcd2) (pa_cons he pa_nil hs2) hbase2 hfew2 hline2 hs2 hplain2) pa_nil hs) hbase hfew hline hs hplain) hsw) fun D σ H ⟨Γ, env, ds, R, h⟩ => by
    obtain ⟨xs, q0, h⟩ := onL_aft h
    obtain ⟨ys, r0, h⟩ := onL_aft h
    obtain ⟨a, us, q1, q2, q3, q4⟩ := R.l_at q0
    obtain ⟨b, ws, r1, r2, r3, r4⟩ := R.l_at r0
    refine ⟨_, q1, tyV_list q2, ?_⟩
    refine ⟨_, r1, tyV_list r2, Γ, env, ds, R, (exS_aft R h).imp fun d ds1 H1 e1 d1 q v hv => ?_⟩
    have R1 := R.go e1 d1
    cases d with
    | int k =>
      cases hv
      dsimp only at q
      by_cases hc : (decide (0 ≤ k ∧ k < 2 ^ 62) && decide (i ≠ j) && decide (xs.length < sizeLine)) = true
      · rw [if_pos hc] at q
        rw [Bool.and_eq_true, Bool.and_eq_true] at hc
        have hk := of_decide_eq_true hc.1.1
        have hij : i ≠ j := of_decide_eq_true hc.1.2
        have hl := of_decide_eq_true hc.2
        cases hy : ys[k.toNat]? with
        | none => rw [hy] at q; exact q.elim
        | some y =>
          rw [hy] at q
          dsimp only at q
          obtain ⟨us1, w1, w2, w3⟩ := R.l_same e1 d1 q0 q1
          obtain ⟨ws1, z1, z2, z3⟩ := R.l_same e1 d1 r0 r1
          obtain ⟨vy, y1, y2⟩ := z2.get hy
          have hn : k.toNat < ys.length := (List.getElem?_eq_some_iff.mp hy).1
          refine ⟨b, ws1, k, k.toNat, vy, rfl, rfl, z1, by omega, by omega, seqIndex_nat hk.1 (by rw [z2.length]; exact hn) rfl, y1, ?_⟩
          have hle : (ws1.eraseIdx k.toNat).length ≤ sizeLine := Nat.le_trans (List.length_eraseIdx_le ..) z3
          have R2 := R1.upd_l r0 r1 hle (z2.erase k.toNat)
          have q0' : (env.set j (.l (ys.eraseIdx k.toNat)))[i]? = some (.l xs) := by rw [List.getElem?_set_ne hij.symm]; exact q0
          obtain ⟨a', us2, f1, f2, f3, f4⟩ := R2.l_at q0'
          rw [q1] at f1
          cases f1
          have ln := f3.length
          have ob : owned σ env b := ⟨j, _, r0, rfl, r1⟩
          have nb : ∀ c, gd Γ σ env c → c ≠ b := fun c g z => g.2.1 (by rw [z]; exact ob)
          have ow : ∀ c, owned σ (env.set j (.l (ys.eraseIdx k.toNat))) c → owned σ env c := by
            rintro c ⟨l, s, w1, w2, w3⟩
            by_cases z : j = l
            · subst z; exact ⟨j, _, r0, rfl, w3⟩
            · rw [List.getElem?_set_ne z] at w1; exact ⟨l, s, w1, w2, w3⟩
          have tq : ∀ c u, H1 c = some (.tup u) → upd H1 b (.lst (ws1.eraseIdx k.toNat)) c = some (.tup u) := by
            intro c u t
            rw [upd_ne (ne_of t z1 (by intro z; cases z))]; exact t
          have vy' : Df X.K (upd H1 b (.lst (ws1.eraseIdx k.toNat))) (gd Γ σ (env.set j (.l (ys.eraseIdx k.toNat)))) vy y :=
            y2.mono (fun c u g k => ⟨⟨g.1, fun w => g.2.1 (ow c w), g.2.2⟩, by rw [upd_ne (nb c g)]; exact k⟩) tq
          refine ⟨a, us2, vy, rfl, rfl, f2, by rw [ln]; exact hl, q _ _ (R2.upd_l q0' q1 (by rw [List.length_append, ln]; exact hl) (f3.append (.cons vy' .nil)))⟩
      · rw [if_neg hc] at q
        exact q.elim
    | _ => exact q.elim
end
end DL

/-! DL10: the script, the draw, calls of defs, the rule for a def, try. -/
namespace DL
open PySem PySem.Spec L2
open PyProof.Rows hiding St

section
variable {X : Cx} {C : Exs} {W : WX} {fr : Bool} {tg e : Expr} {me : ME PyData} {K : PySem.W.Frag} {Γ : Gm} {σ : St} {H : Hp} {env : Ev} {ds : DS}
/-! ### the script -/
def mScr (i : Nat) : ME (List PyData) := fun env ds => match env[i]? with
  | some (.scr ns) => some (.ok (ns.map .int), ds)
  | _ => none
theorem kept_scr {H2 : Hp} (R : Rel K Γ σ H env ds) (k : Kept Γ σ env H H2) {a : Addr} {xs : List V} (h : ScrAt K H a xs) : ScrAt K H2 a xs := by
  rcases h with ⟨o, h⟩ | h
  · obtain ⟨n1, n2⟩ := kept_nd R h imm_frz
    exact .inl ⟨o, k a _ n1 n2 (fun _ z => by cases z) h⟩
  · exact .inr h
theorem si_scr (i : Nat) {x : Str} {p : Pos} (hN : X.N[i]? = some x := by rfl) (hv : Vis X.env.scope x := by first | exact Or.inl rfl | exact Or.inr (Or.inl rfl) | exact Or.inr (Or.inr rfl)) (hd : (x == ("__debug__" : Str)) = false := by decide) (hcd : (x == ("__classdict__" : Str)) = false := by decide) : SI X C W tg (.Name x p) (mScr i) :=
  PI.imp (pi_list (pe_var hN hv hd hcd)) fun σ H Q ⟨Γ, env, ds, R, h⟩ => by
    unfold mScr at h
    rcases q : env[i]? with _ | y
    · rw [q] at h; exact h.elim
    · rw [q] at h
      have s := R.slot i _ q
      cases y with
      | scr ns =>
        obtain ⟨a, e1, e2, e3⟩ := s
        refine ⟨_, e1, a, rfl, ⟨_, e2.sq⟩, Aft.here h R.draw _ fun H2 k => ?_⟩
        have s2 := kept_scr R k e2
        refine ⟨fun j hj => ?_, fun j x H' hj q => ?_, fun j hj => ⟨_, s2.sq, by rw [List.length_map] at hj ⊢; exact hj⟩⟩
        · rw [List.length_map] at hj
          exact ⟨_, .int ns[j], s2.sq, by rw [List.getElem?_map, List.getElem?_eq_getElem hj]; rfl⟩
        · obtain ⟨rfl, q⟩ := q
          rw [List.length_map] at hj
          have q := q _ s2.sq
          rw [List.getElem?_map, List.getElem?_eq_getElem hj] at q
          cases q
          exact ⟨.int ns[j], by rw [List.getElem?_map, List.getElem?_eq_getElem hj]; rfl, fun _ _ z => z, .int _⟩
      | _ => exact h.elim

/-! ### the draw -/
def drGet (s : DSt) : Nat → Option PyData
  | 0 => some (.list (s.cells.map .int))
  | 1 => some (.int s.place)
  | 2 => some (.int s.cur)
  | 3 => some (.int s.seed)
  | _ => none
def drSet (s : DSt) : Nat → Int → Option DSt
  | 1, i => some { s with place := i }
  | 2, i => some { s with cur := i }
  | 3, i => some { s with seed := i }
  | _, _ => none
def mDrw (i k : Nat) : ME PyData := fun env ds => match env[i]?, ds with
  | some .drw, some s => match drGet s k with
    | some x => some (.ok x, ds)
    | none => none
  | _, _ => none
def mDrwSet (i k : Nat) (a : ME PyData) : MS := exS a fun x env ds => match env[i]?, ds, x with
  | some .drw, some s, .int j => match drSet s k j with
    | some s' => some (.nx env, some s')
    | none => none
  | _, _, _ => none
theorem Rel.drw (R : Rel K Γ σ H env ds) {i : Nat} (h : env[i]? = some .drw) : ∃ p s, Γ.dr = some p ∧ ds = some s ∧ σ[i]? = some (some (V.ref p.1)) ∧ H p.1 = some (.lst [.ref p.2, .int s.place, .int s.cur, .int s.seed]) ∧ H p.2 = some (.lst (s.cells.map V.int)) ∧ s.cells.length ≤ sizeLine ∧ p.2 ≠ p.1 ∧ gd Γ σ env p.2 := by
  obtain ⟨p, e1, e2⟩ := R.slot i _ h
  have d := R.draw
  have dc := R.drc p e1
  unfold DrR at d
  rw [e1] at d
  cases ds with
  | none => exact d.elim
  | some s =>
    refine ⟨p, s, e1, rfl, e2, d.1, d.2.1, d.2.2.1, d.2.2.2.1, d.2.2.2.2, dc, fun q e z => ?_⟩
    rw [e1] at e
    cases e
    exact d.2.2.2.1 z
theorem se_drw (i k : Nat) {x : Str} {p p2 pos : Pos} {j : Nat} (hN : X.N[i]? = some x := by rfl) (hv : Vis X.env.scope x := by first | exact Or.inl rfl | exact Or.inr (Or.inl rfl) | exact Or.inr (Or.inr rfl)) (hd : (x == ("__debug__" : Str)) = false := by decide) (hcd : (x == ("__classdict__" : Str)) = false := by decide)
    (hs : PlainIx (.Constant (.int k) j p2) := by exact fun _ _ => rfl) : SE X C W (.Subscript (.Name x p) (.Constant (.int k) j p2) pos) (mDrw i k) :=
  PE.imp (pe_ix ix_list (pe_var hN hv hd hcd) pe_int hs) fun σ H Q ⟨Γ, env, ds, R, h⟩ => by
    unfold mDrw at h
    rcases q : env[i]? with _ | y
    · rw [q] at h; exact h.elim
    · rw [q] at h
      cases y with
      | drw =>
        obtain ⟨p, s, e1, rfl, e2, e3, e4, e5, e6, e7⟩ := R.drw q
        dsimp only at h
        cases g : drGet s k with
        | none => rw [g] at h; exact h.elim
        | some x =>
          rw [g] at h
          have fin := Aft.here h R.draw
          have go : ∀ v, atI [V.ref p.2, .int s.place, .int s.cur, .int s.seed] ((k : Nat) : Int) = some v → Df X.K H (gd Γ σ env) v x → _ := fun v e h => (⟨_, e2, p.1, _, _, v, rfl, rfl, SqL.of e3, e, fin v h⟩ : tOp (rIxL X.K) (tVar i) (tC (V.int k)) σ H Q)
          match k, g with
          | 0, g => cases g; exact go _ rfl (.lst e7 e4 (by rw [List.length_map]; exact e5) (DfAll.of_ints _))
          | 1, g => cases g; exact go _ rfl (.int _)
          | 2, g => cases g; exact go _ rfl (.int _)
          | 3, g => cases g; exact go _ rfl (.int _)
          | _ + 4, g => cases g
      | _ => exact h.elim
theorem ss_drwSet (i k : Nat) {x : Str} {p p2 sp pos : Pos} {j : Nat} (he : SE X C W e me) (hN : X.N[i]? = some x := by rfl) (hv : Vis X.env.scope x := by first | exact Or.inl rfl | exact Or.inr (Or.inl rfl) | exact Or.inr (Or.inr rfl)) (hd : (x == ("__debug__" : Str)) = false := by decide) (hcd : (x == ("__classdict__" : Str)) = false := by decide)
    (ha : ∀ v, assign (.Subscript (.Name x p) (.Constant (.int k) j p2) sp) X.env v = (do
      let ov ← holding [v] (eval (.Name x p) X.env)
      let iv ← holding [v, ov] (eval (.Constant (.int k) j p2) X.env)
      standAt sp
      holding [v, ov, iv] (setItem ov iv v)
      release [v, ov, iv] []) := by intro _; rfl)
    (hs : swapsWithSole [.Subscript (.Name x p) (.Constant (.int k) j p2) sp] e pos.line X.env = pure false := by rfl) (hw : swappedStores [.Subscript (.Name x p) (.Constant (.int k) j p2) sp] e X.env = pure none := by rfl)
    (h1 : (assignEach [.Subscript (.Name x p) (.Constant (.int k) j p2) sp] X.env).map (·.2) = [assign (.Subscript (.Name x p) (.Constant (.int k) j p2) sp) X.env] := by rfl) :
    SS X C W fr (.Assign [.Subscript (.Name x p) (.Constant (.int k) j p2) sp] e pos) (mDrwSet i k me) :=
  PS.imp (ps_asg he (pg_sub (pe_var hN hv hd hcd) pe_int set_list ha) hs hw h1) fun D σ H ⟨Γ, env, ds, R, h⟩ => ⟨Γ, env, ds, R, (exS_aft R h).imp fun d ds1 H1 x1 d1 h v hv => by
    have R1 := R.go x1 d1
    rcases q : env[i]? with _ | y
    · rw [q] at h; exact h.elim
    · rw [q] at h
      cases y with
      | drw =>
        obtain ⟨p, s, e1, rfl, e2, e3, e4, e5, e6, e7⟩ := R1.drw q
        cases d with
        | int n =>
          cases hv
          dsimp only at h
          cases g : drSet s k n with
          | none => rw [g] at h; exact h.elim
          | some s' =>
            rw [g] at h
            have go : ∀ l, l < 4 → k = l → ([V.ref p.2, .int s.place, .int s.cur, .int s.seed].set l (.int n) = [V.ref p.2, .int s'.place, .int s'.cur, .int s'.seed]) → s'.cells = s.cells → (gSub (tVar i) (tC (V.int k)) rSetL (V.int n) σ H1 D.nx) := fun l hl hk hs hc => by
              refine ⟨_, e2, p.1, _, _, l, rfl, rfl, e3, ?_, ?_⟩
              · unfold ixN
                subst hk
                show (if (0 : Int) ≤ ((k : Nat) : Int) then (if ((k : Nat) : Int) < ((4 : Nat) : Int) then some ((k : Nat) : Int).toNat else none) else _) = some k
                rw [if_pos (by omega), if_pos (by omega)]
                rfl
              · rw [hs]
                refine h σ _ (R1.go (fun a o n q => ?_) ?_)
                · rw [upd_ne (n p e1)]; exact q
                · unfold DrR
                  rw [e1]
                  exact ⟨upd_same, by rw [upd_ne e6, hc]; exact e4, by rw [hc]; exact e5, e6, e7.1⟩
            match k, g with
            | 0, g => cases g
            | 1, g => cases g; exact go 1 (by decide) rfl rfl rfl
            | 2, g => cases g; exact go 2 (by decide) rfl rfl rfl
            | 3, g => cases g; exact go 3 (by decide) rfl rfl rfl
            | _ + 4, g => cases g
        | _ => exact h.elim
      | _ => exact h.elim⟩
end

/-! ### calls -/
def ArgR (K : PySem.W.Frag) (Γ : Gm) (g : Addr → Prop) (H : Hp) (v : V) : Sl → Prop
  | .d x => Df K H g v x
  | .drw => ∃ p, Γ.dr = some p ∧ v = .ref p.1
  | .scr ns => ∃ a, v = .ref a ∧ ScrAt K H a (ns.map V.int) ∧ ns.length ≤ 63
  | _ => False
inductive ArgsR (K : PySem.W.Frag) (Γ : Gm) (g : Addr → Prop) (H : Hp) : List V → List Sl → Prop
  | nil : ArgsR K Γ g H [] []
  | cons {v : V} {x : Sl} {vs : List V} {xs : List Sl} : ArgR K Γ g H v x → ArgsR K Γ g H vs xs → ArgsR K Γ g H (v :: vs) (x :: xs)
abbrev FS := List Sl → DS → Rz PyData
/-- what a def promises -/
def spD (K : PySem.W.Frag) (C : Exs) (fr : Bool) (np : Nat) (f : FS) : Sp := fun vs H Q E => ∃ Γ args ds, Γ.H0 = H ∧ Γ.lk = [] ∧ (∀ a, H a = none → Γ.ok a) ∧ DrR K Γ H ds ∧ ArgsR K Γ (fun a => Γ.ok a ∧ Γ.nd a) H vs args ∧ args.length = np ∧
  match f args ds with
  | some (.ok d, ds') => ∀ v H', RetR fr K Γ H' ds' v d → Q v H'
  | some (.exc x, ds') => ∀ cls dd H', Ext Γ H H' → DrR K Γ H' ds' → ExR C x cls dd H' → E cls dd H'
  | none => False
def runB (nN np : Nat) (fr : Bool) (m : MS) : FS := fun args ds => match m (args ++ List.replicate (nN - np) .un) ds with
  | some (.rt d, ds') => some (.ok d, ds')
  | some (.nx _, ds') => if fr then none else some (.ok .none, ds')
  | some (.ex x _, ds') => some (.exc x, ds')
  | _ => none
theorem ArgsR.length {K : PySem.W.Frag} {Γ : Gm} {g : Addr → Prop} {H : Hp} {vs : List V} {xs : List Sl} (h : ArgsR K Γ g H vs xs) : vs.length = xs.length := by
  induction h with
  | nil => rfl
  | cons _ _ ih => rw [List.length_cons, List.length_cons, ih]
theorem ArgsR.get {K : PySem.W.Frag} {Γ : Gm} {g : Addr → Prop} {H : Hp} {vs : List V} {xs : List Sl} (h : ArgsR K Γ g H vs xs) : ∀ (i : Nat) (x : Sl), xs[i]? = some x → ∃ v, vs[i]? = some v ∧ ArgR K Γ g H v x := by
  induction h with
  | nil => intro i x q; simp at q
  | cons a _ ih =>
    intro i x q
    cases i with
    | zero =>
      simp at q
      subst q
      exact ⟨_, rfl, a⟩
    | succ i =>
      obtain ⟨v, q1, q2⟩ := ih i x (by simpa using q)
      exact ⟨v, by simpa using q1, q2⟩
theorem ArgsR.own {K : PySem.W.Frag} {Γ : Gm} {g : Addr → Prop} {H : Hp} {vs : List V} {xs : List Sl} (h : ArgsR K Γ g H vs xs) {n : Nat} {i : Nat} {x : Sl} (q : (xs ++ List.replicate n .un)[i]? = some x) : x.own = false := by
  by_cases hi : i < xs.length
  · rw [List.getElem?_append_left hi] at q
    obtain ⟨v, _, a⟩ := h.get i x q
    cases x with
    | l _ => exact a.elim
    | lk _ => exact a.elim
    | dc t0 _ => exact a.elim
    | _ => rfl
  · rw [List.getElem?_append_right (by omega)] at q
    rw [List.getElem?_replicate] at q
    split at q
    · cases q; rfl
    · cases q
section
variable {K : PySem.W.Frag} {Γ : Gm} {H : Hp} {ds : DS}
theorem rel_start {vs : List V} {args : List Sl} {N : List Str} (h0 : Γ.H0 = H) (hk : Γ.lk = []) (ho : ∀ a, H a = none → Γ.ok a) (hd : DrR K Γ H ds) (ha : ArgsR K Γ (fun a => Γ.ok a ∧ Γ.nd a) H vs args) : Rel K Γ (L2.start N vs) H (args ++ List.replicate (N.length - args.length) .un) ds := by
  have ln := ha.length
  have no : ∀ a, ¬ owned (L2.start N vs) (args ++ List.replicate (N.length - args.length) Sl.un) a := fun a ⟨i, x, q1, q2, _⟩ => by
    rw [ha.own q1] at q2
    cases q2
  have gg : ∀ a, Γ.ok a ∧ Γ.nd a → gd Γ (L2.start N vs) (args ++ List.replicate (N.length - args.length) Sl.un) a := fun a q => ⟨q.1, no a, q.2⟩
  refine ⟨?_, fun i x q => ?_, fun i j x y _ hi _ oi _ => ?_, fun a q => ho a (by rw [← h0]; exact q), by rw [h0]; exact Ext.refl, hd, fun p _ => no _, fun p hp => by rw [hk] at hp; cases hp⟩
  · unfold L2.start
    rw [List.length_append, List.length_append, List.length_map, List.length_replicate, List.length_replicate, ln]
  · by_cases hi : i < args.length
    · rw [List.getElem?_append_left hi] at q
      obtain ⟨v, e, a⟩ := ha.get i x q
      have es : (L2.start N vs)[i]? = some (some v) := by
        unfold L2.start
        rw [List.getElem?_append_left (by rw [List.length_map, ln]; exact hi), List.getElem?_map, e]
        rfl
      rw [es]
      cases x with
      | d y => exact ⟨v, rfl, (show Df K H _ v y from a).mono (fun a u z k => ⟨gg a z, k⟩) fun _ _ z => z⟩
      | drw =>
        obtain ⟨p, e1, e2⟩ := a
        exact ⟨p, e1, by rw [e2]⟩
      | scr ns =>
        obtain ⟨b, e1, e2, e3⟩ := a
        exact ⟨b, by rw [e1], e2, e3⟩
      | un => trivial
      | l _ => exact a.elim
      | lk _ => exact a.elim
      | dc t0 _ => exact a.elim
    · rw [List.getElem?_append_right (by omega), List.getElem?_replicate] at q
      split at q
      · cases q; trivial
      · cases q
  · rw [ha.own hi] at oi
    cases oi
end
/-- THE RULE FOR A DEF: its body by its meaning -/
theorem Fun.okD {P : Program} {w : World} {K : PySem.W.Frag} {mg : Str → Option Value} {base : Heap} {x qual : Str} {st : Stmt} {f : Addr} {fd : FuncData} {N ps : List Str} {k : Nat} {C : Exs} {fr : Bool} {m : MS} (F : Fun K x qual st f fd) (S : FnScope N ps (defScope st))
    (hbody : ∀ (cdv : Value) (A : Around) (outer : List Env) (s : Shared) (H : Hp) (E : XK), Room k (A.deeper (envOfC qual (defScope st) s.heap.objs.size f cdv)) →
      SSs (cxOf (L2.CX P w) P w K mg base N qual (defScope st) f cdv A outer s H E) C (fun cls d _ H' => E cls d H') fr (defBody st) m) :
    FnOk P w K mg base (L2.CX P w) (k + 1) f fd ps (spD K C fr ps.length (runB N.length ps.length fr m)) := by
  refine F.okX S (fun vs H Q E h => ?_) (fun cdv A outer s H vs Q E hr h => ?_)
  · obtain ⟨Γ, args, ds, _, _, _, _, ha, hl, _⟩ := h
    exact ha.length.trans hl
  · obtain ⟨Γ, args, ds, h0, hk, ho, hd, ha, hl, h⟩ := h
    refine ⟨_, hbody cdv A outer s H E hr, Γ, _, ds, rel_start h0 hk ho hd ha, ?_⟩
    unfold runB at h
    rw [← hl] at h
    rcases q : m (args ++ List.replicate (N.length - args.length) Sl.un) ds with _ | ⟨fl, ds'⟩
    · rw [q] at h; exact h
    · rw [q] at h
      cases fl with
      | nx e =>
        dsimp only at h
        cases fr with
        | true => exact h.elim
        | false =>
          rw [if_neg Bool.false_ne_true] at h
          exact fun σ' H' R' => h .non H' ⟨R'.ext, R'.draw, .non⟩
      | bk e => exact h.elim
      | ct e => exact h.elim
      | rt d => exact h
      | ex x e => exact fun cls dd σ' H' R' hx => h cls dd H' (by have := R'.ext; rw [h0] at this; exact this) R'.draw hx
/-- good as an argument; b: one's own lists are too -/
def gb (Γ : Gm) (σ : St) (env : Ev) (b : Bool) (a : Addr) : Prop := (b = true ∧ Γ.nd a) ∨ gd Γ σ env a
theorem gb.nd {Γ : Gm} {σ : St} {env : Ev} {b : Bool} {a : Addr} (h : gb Γ σ env b a) : Γ.nd a := h.elim (fun z => z.2) fun z => z.2.2
def rdAx (K : PySem.W.Frag) (C : Exs) (W : WX) (b : Bool) (m : ME (List Sl)) : TA := fun σ H Q => ∃ Γ env ds, Rel K Γ σ H env ds ∧
  Aft K C W Γ σ H (m env ds) fun xs _ H' => ∀ vs, ArgsR K Γ (gb Γ σ env b) H' vs xs → Q vs H'
/-- arguments; b: one's own lists may be among them -/
abbrev SAx (X : Cx) (C : Exs) (W : WX) (b : Bool) (es : List Expr) (m : ME (List Sl)) : Prop := PA X es (rdAx X.K C W b m)
def axNil : ME (List Sl) := ME.pure []
def axD (a : ME PyData) (r : ME (List Sl)) : ME (List Sl) := a.bind fun x => r.bind fun xs => ME.pure (.d x :: xs)
def axV (i : Nat) (r : ME (List Sl)) : ME (List Sl) := fun env ds => match env[i]? with
  | some .drw => (r env ds).bind fun xs ds' => some (.ok (.drw :: xs), ds')
  | some (.scr ns) => (r env ds).bind fun xs ds' => some (.ok (.scr ns :: xs), ds')
  | _ => none
/-! no list within -/
mutual
def noL : PyData → Bool
  | .list _ => false
  | .dict _ => false
  | .tuple xs => noLs xs
  | _ => true
def noLs : List PyData → Bool
  | [] => true
  | x :: r => noL x && noLs r
end
mutual
theorem Df.noL {K : PySem.W.Frag} {H : Hp} {g g' : Addr → Prop} : ∀ {d : PyData} {v : V}, Df K H g v d → DL.noL d = true → Df K H g' v d
  | _, _, .non, _ => .non
  | _, _, .bl b, _ => .bl b
  | _, _, .int i, _ => .int i
  | _, _, .str x, _ => .str x
  | _, _, .lst _ _ _ _, h => by cases h
  | _, _, .tup h1 h2 h3, h => .tup h1 h2 (DfAll.noL h3 h)
theorem DfAll.noL {K : PySem.W.Frag} {H : Hp} {g g' : Addr → Prop} : ∀ {ds : List PyData} {vs : List V}, DfAll K H g vs ds → noLs ds = true → DfAll K H g' vs ds
  | _, _, .nil, _ => .nil
  | _, _, .cons h1 h2, h => by
    unfold noLs at h
    rw [Bool.and_eq_true] at h
    exact .cons (Df.noL h1 h.1) (DfAll.noL h2 h.2)
end
def mCall (f : FS) (a : ME (List Sl)) : ME PyData := a.bind fun args _ ds => f args ds
def mCallP (f : FS) (a : ME (List Sl)) : ME PyData := a.bind fun args _ ds => (f args ds).bind fun d ds' => if noL d then some (.ok d, ds') else none
def mCallF (f : FS) (a : ME (List Sl)) : ME (List PyData) := a.bind fun args _ ds => (f args ds).bind fun d ds' => match d with
  | .list xs => some (.ok xs, ds')
  | _ => none
section
variable {X : Cx} {C : Exs} {W : WX} {e : Expr} {es : List Expr} {me : ME PyData} {ma : ME (List Sl)} {M : Md} {b : Bool}
theorem sax_nil : SAx X C W b [] axNil := PA.imp pa_nil fun σ H Q ⟨Γ, env, ds, R, h⟩ => Aft.here h R.draw _ .nil
theorem sax_d (he : SE X C W e me) (hr : SAx X C W b es ma) (hs : starEach (e :: es) X.env = (false, eval e X.env) :: starEach es X.env := by rfl) : SAx X C W b (e :: es) (axD me ma) :=
  PA.imp (pa_cons he hr hs) fun σ H Q ⟨Γ, env, ds, R, h⟩ => ⟨Γ, env, ds, R, h.bind.imp fun d ds1 H1 e1 d1 q x hx => ⟨Γ, env, ds1, R.go e1 d1, q.bind.imp fun xs ds2 H2 e2 d2 q vs hv =>
    Aft.here q d2 _ (.cons ((Df.ext e2 d1 hx).mono (fun a u z k => ⟨.inr z, k⟩) fun _ _ z => z) hv)⟩⟩
/-- one's own list in passing, as an argument -/
theorem sax_p (he : SP X C W e me) (hr : SAx X C W true es ma) (hs : starEach (e :: es) X.env = (false, eval e X.env) :: starEach es X.env := by rfl) : SAx X C W true (e :: es) (axD me ma) :=
  PA.imp (pa_cons he hr hs) fun σ H Q ⟨Γ, env, ds, R, h⟩ => ⟨Γ, env, ds, R, h.bind.imp fun d ds1 H1 e1 d1 q x hx => ⟨Γ, env, ds1, R.go e1 d1, q.bind.imp fun xs ds2 H2 e2 d2 q vs hv => by
    refine Aft.here q d2 _ (.cons ?_ hv)
    rcases persP.ext e2 d1 hx with w | ⟨a, us, ds', w1, w2, w3, w4, w5, w6⟩
    · exact (show Df X.K H2 _ x d from w).mono (fun a u z k => ⟨.inr z, k⟩) fun _ _ z => z
    · subst w1 w2
      exact .lst (.inl ⟨rfl, w4⟩) w3 w5 (w6.mono (fun a u z k => ⟨.inr z, k⟩) fun _ _ z => z)⟩⟩
theorem sax_v (i : Nat) {x : Str} {p : Pos} (hr : SAx X C W b es ma) (hN : X.N[i]? = some x := by rfl) (hv : Vis X.env.scope x := by first | exact Or.inl rfl | exact Or.inr (Or.inl rfl) | exact Or.inr (Or.inr rfl)) (hd : (x == ("__debug__" : Str)) = false := by decide) (hcd : (x == ("__classdict__" : Str)) = false := by decide)
    (hs : starEach (.Name x p :: es) X.env = (false, eval (.Name x p) X.env) :: starEach es X.env := by rfl) : SAx X C W b (.Name x p :: es) (axV i ma) :=
  PA.imp (pa_cons (pe_var hN hv hd hcd) hr hs) fun σ H Q ⟨Γ, env, ds, R, h⟩ => by
    unfold axV at h
    rcases q : env[i]? with _ | y
    · rw [q] at h; exact h.elim
    · rw [q] at h
      have s := R.slot i _ q
      cases y with
      | drw =>
        obtain ⟨p, e1, e2⟩ := s
        exact ⟨_, e2, Γ, env, ds, R, (Aft.bind h).imp fun xs ds2 H2 x2 d2 q vs hv => Aft.here q d2 _ (.cons ⟨p, e1, rfl⟩ hv)⟩
      | scr ns =>
        obtain ⟨a, e1, e2, e3⟩ := s
        exact ⟨_, e1, Γ, env, ds, R, (Aft.bind h).imp fun xs ds2 H2 x2 d2 q vs hv => Aft.here q d2 _ (.cons ⟨a, rfl, scr_ext x2 R.draw e2, e3⟩ hv)⟩
      | _ => exact h.elim
theorem ArgsR.to {K : PySem.W.Frag} {Γ Γ' : Gm} {g g' : Addr → Prop} {H : Hp} {vs : List V} {xs : List Sl} (h : ArgsR K Γ g H vs xs) (hd : Γ'.dr = Γ.dr) (hg : ∀ a u, H a = some (.lst u) → g a → g' a) : ArgsR K Γ' g' H vs xs := by
  induction h with
  | nil => exact .nil
  | @cons v x vs xs a _ ih =>
    refine .cons ?_ ih
    cases x with
    | d y => exact (show Df K H g v y from a).mono (fun b u z k => ⟨hg b u k z, k⟩) fun _ _ z => z
    | drw =>
      obtain ⟨p, e1, e2⟩ := a
      exact ⟨p, by rw [hd]; exact e1, e2⟩
    | scr ns => exact a
    | un => exact a
    | l _ => exact a
    | lk _ => exact a
    | dc t0 _ => exact a
theorem DrR.to {K : PySem.W.Frag} {Γ Γ' : Gm} {H : Hp} {ds : DS} (h : DrR K Γ H ds) (hd : Γ'.dr = Γ.dr) (ho : ∀ p, Γ.dr = some p → Γ'.ok p.2) : DrR K Γ' H ds := by
  unfold DrR at h ⊢
  rw [hd]
  cases q : Γ.dr with
  | none =>
    rw [q] at h
    cases ds with
    | none => trivial
    | some s => exact h
  | some p =>
    rw [q] at h
    cases ds with
    | none => exact h
    | some s => exact ⟨h.1, h.2.1, h.2.2.1, h.2.2.2.1, ho p q⟩
theorem DrR.okp {K : PySem.W.Frag} {Γ : Gm} {H : Hp} {ds : DS} (h : DrR K Γ H ds) (p : Addr × Addr) (e : Γ.dr = some p) : Γ.ok p.2 ∧ p.2 ≠ p.1 := by
  unfold DrR at h
  rw [e] at h
  cases ds with
  | none => exact h.elim
  | some s => exact ⟨h.2.2.2.2, h.2.2.2.1⟩
/-- the callee's ground -/
def Gm.call (Γ : Gm) (H : Hp) (ok : Addr → Prop) : Gm := { Γ with H0 := H, ok := ok, lk := [] }
theorem gd_cell {K : PySem.W.Frag} {Γ : Gm} {σ : St} {H : Hp} {env : Ev} {ds : DS} (R : Rel K Γ σ H env ds) (p : Addr × Addr) (e : Γ.dr = some p) : gd Γ σ env p.2 :=
  ⟨(R.draw.okp p e).1, R.drc p e, fun q e2 z => by rw [e] at e2; cases e2; exact (R.draw.okp p e).2 z⟩
theorem call_rd {K : PySem.W.Frag} {fr b : Bool} {np : Nat} {f : FS} {Γ : Gm} {σ : St} {H1 : Hp} {env : Ev} {ds1 : DS} {vs : List V} {args : List Sl} {Q : VK} {E : XK} (R1 : Rel K Γ σ H1 env ds1) (ha : ArgsR K Γ (gb Γ σ env b) H1 vs args) (hn : args.length = np)
    (h : match f args ds1 with
      | some (.ok d, ds') => ∀ v H', Ext Γ H1 H' → DrR K Γ H' ds' → RetR fr K (Γ.call H1 (gb Γ σ env b)) H' ds' v d → Q v H'
      | some (.exc x, ds') => ∀ cls dd H', Ext Γ H1 H' → DrR K Γ H' ds' → ExR C x cls dd H' → E cls dd H'
      | none => False) : spD K C fr np f vs H1 Q E := by
  refine ⟨Γ.call H1 (gb Γ σ env b), args, ds1, rfl, rfl, fun a q => .inr (R1.new_gd q), R1.draw.to rfl fun p e => .inr (gd_cell R1 p e), ha.to rfl fun a u k z => ⟨z, z.nd⟩, hn, ?_⟩
  rcases q : f args ds1 with _ | ⟨d | x, ds'⟩
  · rw [q] at h; exact h
  · rw [q] at h
    exact fun v H' r => h v H' r.1 (r.2.1.to rfl fun p e => (R1.draw.okp p e).1) r
  · rw [q] at h
    exact fun cls dd H' e d hx => h cls dd H' e (d.to rfl fun p e => (R1.draw.okp p e).1) hx
/-- so many arguments -/
def chk (np : Nat) (f : FS) : FS := fun args ds => if args.length = np then f args ds else none
theorem chk_rd {K : PySem.W.Frag} {fr : Bool} {np : Nat} {f : FS} {vs : List V} {H : Hp} {Q : VK} {E : XK} {Γ : Gm} {σ : St} {env : Ev} {ds : DS} {args : List Sl} {b : Bool} {α : Type} {g : PyData → DS → Rz α} {P : α → DS → Hp → Prop} (h : Aft K C W Γ σ H ((chk np f args ds).bind g) P) : args.length = np ∧ Aft K C W Γ σ H ((f args ds).bind g) P := by
  unfold chk at h
  by_cases q : args.length = np
  · rw [if_pos q] at h; exact ⟨q, h⟩
  · rw [if_neg q] at h; exact h.elim
variable {k np : Nat} {fa : Addr} {fd : FuncData} {ps : List Str} {x : Str} {p pos : Pos} {f : FS}
theorem se_call (F : FnOk X.prog X.w X.K X.mg X.base (L2.CX X.prog X.w) k fa fd ps (spD X.K C false np f)) (hr : Room k X.A) (hm : X.mg x = some (.ref fa)) (hk : PySem.W.keepIn X.K (.ref fa) = true) (hb : Binds X.K fd ps []) (tk : Takes X W) (ha : SAx X C W false (e :: es) ma) (hg : Gl X x := by rfl)
    (hdb : (x == ("__debug__" : Str)) = false := by decide) (he : starEach (e :: es) X.env = (false, eval e X.env) :: starEach es X.env := by rfl) (hpl : (backTo pos (starEach es X.env)).any (·.1) = false := by rfl) : SE X C W (.Call (.Name x p) (e :: es) [] pos) (mCall (chk np f) ma) :=
  PE.imp (pe_callS F hr hg hm hk hb (fun σ => passAt tk σ) ha hdb he hpl) fun σ H Q ⟨Γ, env, ds, R, h⟩ => ⟨Γ, env, ds, R, h.bind.imp fun args ds1 H1 e1 d1 q vs hv => by
    have R1 := R.go e1 d1
    have q : Aft X.K C W Γ σ H1 (chk np f args ds1) _ := q
    unfold chk at q
    by_cases hn : args.length = np
    · rw [if_pos hn] at q
      refine call_rd R1 hv hn ?_
      revert q
      unfold Aft
      rcases f args ds1 with _ | ⟨d | x, ds'⟩
      · exact id
      · intro q v H' e2 d2 r
        refine q H' e2 d2 v ((show Df X.K H' _ v d from r.2.2).mono (fun a u z k => ⟨z.1.elim (fun w => by cases w.1) id, k⟩) fun _ _ z => z)
      · exact fun q cls dd H' e2 d2 hx => q cls dd H' e2 d2 hx
    · rw [if_neg hn] at q
      exact q.elim⟩
theorem se_callP (F : FnOk X.prog X.w X.K X.mg X.base (L2.CX X.prog X.w) k fa fd ps (spD X.K C false np f)) (hr : Room k X.A) (hm : X.mg x = some (.ref fa)) (hk : PySem.W.keepIn X.K (.ref fa) = true) (hb : Binds X.K fd ps []) (tk : Takes X W) (ha : SAx X C W true (e :: es) ma) (hg : Gl X x := by rfl)
    (hdb : (x == ("__debug__" : Str)) = false := by decide) (he : starEach (e :: es) X.env = (false, eval e X.env) :: starEach es X.env := by rfl) (hpl : (backTo pos (starEach es X.env)).any (·.1) = false := by rfl) : SE X C W (.Call (.Name x p) (e :: es) [] pos) (mCallP (chk np f) ma) :=
  PE.imp (pe_callS F hr hg hm hk hb (fun σ => passAt tk σ) ha hdb he hpl) fun σ H Q ⟨Γ, env, ds, R, h⟩ => ⟨Γ, env, ds, R, h.bind.imp fun args ds1 H1 e1 d1 q vs hv => by
    have R1 := R.go e1 d1
    have q : Aft X.K C W Γ σ H1 ((chk np f args ds1).bind _) _ := q
    unfold chk at q
    by_cases hn : args.length = np
    · rw [if_pos hn] at q
      refine call_rd R1 hv hn ?_
      revert q
      unfold Aft Rz.bind
      rcases f args ds1 with _ | ⟨d | x, ds'⟩
      · exact id
      · dsimp only
        by_cases hl : noL d = true
        · rw [if_pos hl]
          intro q v H' e2 d2 r
          exact q H' e2 d2 v (Df.noL (show Df X.K H' _ v d from r.2.2) hl)
        · rw [if_neg hl]
          exact fun q => q.elim
      · exact fun q cls dd H' e2 d2 hx => q cls dd H' e2 d2 hx
    · rw [if_neg hn] at q
      exact q.elim⟩
theorem sf_call (F : FnOk X.prog X.w X.K X.mg X.base (L2.CX X.prog X.w) k fa fd ps (spD X.K C true np f)) (hr : Room k X.A) (hm : X.mg x = some (.ref fa)) (hk : PySem.W.keepIn X.K (.ref fa) = true) (hb : Binds X.K fd ps []) (tk : Takes X W) (ha : SAx X C W false (e :: es) ma) (hg : Gl X x := by rfl)
    (hdb : (x == ("__debug__" : Str)) = false := by decide) (he : starEach (e :: es) X.env = (false, eval e X.env) :: starEach es X.env := by rfl) (hpl : (backTo pos (starEach es X.env)).any (·.1) = false := by rfl) : SF X C W (.Call (.Name x p) (e :: es) [] pos) (mCallF (chk np f) ma) :=
  PE.imp (pe_callS F hr hg hm hk hb (fun σ => passAt tk σ) ha hdb he hpl) fun σ H Q ⟨Γ, env, ds, R, h⟩ => ⟨Γ, env, ds, R, h.bind.imp fun args ds1 H1 e1 d1 q vs hv => by
    have R1 := R.go e1 d1
    have q : Aft X.K C W Γ σ H1 ((chk np f args ds1).bind _) _ := q
    unfold chk at q
    by_cases hn : args.length = np
    · rw [if_pos hn] at q
      refine call_rd R1 hv hn ?_
      revert q
      unfold Aft Rz.bind
      rcases f args ds1 with _ | ⟨d | x, ds'⟩
      · exact id
      · dsimp only
        intro q v H' e2 d2 r
        obtain ⟨p, us, xs, rfl, rfl, r1, r2, r3, r4, r5⟩ := r.2.2
        exact q H' e2 d2 p us (R.none_back e1 d1 r1) r3 r4 (r5.mono (fun a u z k => ⟨⟨z.1.1.elim (fun w => by cases w.1) id, z.2⟩, k⟩) fun _ _ z => z)
      · exact fun q cls dd H' e2 d2 hx => q cls dd H' e2 d2 hx
    · rw [if_neg hn] at q
      exact q.elim⟩

/-! ### the draw is made -/
def mkDraw (xs : List PyData) : Option DSt := match xs with
  | [.list cs, .int i, .int j, .int k] => (intsOf cs).map fun ns => ⟨ns, i, j, k⟩
  | _ => none
def mDraw (i : Nat) (a : ME (List PyData)) (rest : MS) : MS := fun env ds => match a env ds with
  | some (.ok xs, none) => match mkDraw xs with
    | some s => match put i .drw env with
      | some env' => match rest env' (some s) with
        | some (.rt d, _) => some (.rt d, none)
        | _ => none
      | none => none
    | none => none
  | _ => none
variable {rest : List Stmt} {mr : MS} {mf : ME (List PyData)}
theorem Rel.set_dr {K : PySem.W.Frag} {Γ : Gm} {σ : St} {H H1 : Hp} {env env' : Ev} (R : Rel K Γ σ H env none) (e : Ext Γ H H1) {i : Nat} {a c : Addr} {s : DSt} (hf : H a = none) (h1 : H1 a = some (.lst [.ref c, .int s.place, .int s.cur, .int s.seed])) (h2 : H1 c = some (.lst (s.cells.map V.int))) (h3 : s.cells.length ≤ sizeLine) (hc : gdx Γ σ env a c)
    (hp : put i .drw env = some env') : Rel K { Γ with dr := some (a, c) } (σ.set i (some (.ref a))) H1 env' (some s) := by
  have hdr : Γ.dr = none := by
    have := R.draw
    unfold DrR at this
    cases q : Γ.dr with
    | none => rfl
    | some p => rw [q] at this; exact this.elim
  have d1 : DrR K Γ H1 none := by unfold DrR; rw [hdr]; trivial
  have R1 := R.go e d1
  obtain ⟨k1, k2, rfl⟩ := put_some hp
  have k3 : i < σ.length := by rw [R.len]; exact k2
  have nd : ∀ b, b ≠ a → ({ Γ with dr := some (a, c) } : Gm).nd b := fun b n p q => by cases q; exact n
  have gx : ∀ b, gd Γ σ env b → b ≠ a → gd { Γ with dr := some (a, c) } (σ.set i (some (.ref a))) (env.set i .drw) b := fun b q n => ⟨q.1, fun w => q.2.1 (owned_set_d rfl w).1, nd b n⟩
  have m : ∀ {u : V} {x : PyData}, Df K H (gd Γ σ env) u x → Df K H1 (gd { Γ with dr := some (a, c) } (σ.set i (some (.ref a))) (env.set i .drw)) u x := fun q =>
    (q.avoid hf).mono (fun b u z k => ⟨gx b z.1 z.2, e b _ z.1.2.2 k⟩) fun _ _ z => tup_ext e R.draw z
  have ms : ∀ {u : List V} {x : List PyData}, DfAll K H (gd Γ σ env) u x → DfAll K H1 (gd { Γ with dr := some (a, c) } (σ.set i (some (.ref a))) (env.set i .drw)) u x := fun q =>
    (q.avoid hf).mono (fun b u z k => ⟨gx b z.1 z.2, e b _ z.1.2.2 k⟩) fun _ _ z => tup_ext e R.draw z
  refine ⟨by rw [List.length_set, List.length_set]; exact R.len, fun j y hy => ?_, fun j k y z hjk hj hk oj ok => ?_, R.okf, fun b o _ q => R1.ext b o (fun p z => by rw [hdr] at z; cases z) q, ?_, fun p q w => ?_, fun p hp => ?_⟩
  · by_cases z : i = j
    · subst z
      rw [List.getElem?_set_self k2] at hy
      cases hy
      rw [List.getElem?_set_self k3]
      exact ⟨(a, c), rfl, rfl⟩
    · rw [List.getElem?_set_ne z] at hy ⊢
      have q := R.slot j y hy
      cases y with
      | un => trivial
      | d x =>
        obtain ⟨u, q1, q2⟩ := q
        exact ⟨u, q1, m q2⟩
      | l x =>
        obtain ⟨b, u, q1, q2, q3, q4, q5, q6⟩ := q
        exact ⟨b, u, q1, e b _ q6 q2, ms q3, q4, q5, nd b (ne_of_none q2 hf)⟩
      | lk x =>
        obtain ⟨b, u, q1, q2, q3, q4, q5, q6⟩ := q
        exact ⟨b, u, q1, e b _ q6 q2, ms q3, q4, q5, nd b (ne_of_none q2 hf)⟩
      | dc t0 x =>
        obtain ⟨b, u, q1, q2, q3, q4, q5, q6⟩ := q
        exact ⟨b, u, q1, e b _ q6 q2, ms q3, q4, q5, nd b (ne_of_none q2 hf)⟩
      | drw =>
        obtain ⟨p, q1, _⟩ := q
        rw [hdr] at q1
        cases q1
      | scr ns =>
        obtain ⟨b, q1, q2, q3⟩ := q
        exact ⟨b, q1, scr_ext e R.draw q2, q3⟩
  · have n1 : i ≠ j := fun z => by
      subst z
      rw [List.getElem?_set_self k2] at hj
      cases hj
      cases oj
    have n2 : i ≠ k := fun z => by
      subst z
      rw [List.getElem?_set_self k2] at hk
      cases hk
      cases ok
    rw [List.getElem?_set_ne n1] at hj ⊢
    rw [List.getElem?_set_ne n2] at hk ⊢
    exact R.sep j k y z hjk hj hk oj ok
  · exact ⟨h1, h2, h3, hc.2, hc.1.1⟩
  · cases q
    exact hc.1.2.1 (owned_set_d rfl w).1
  · obtain ⟨xs, q1, q2⟩ := R.lkd p hp
    have n1 : i ≠ p.1 := fun z => by
      subst z
      exact k1 xs q1
    exact ⟨xs, by rw [List.getElem?_set_ne n1]; exact q1, by rw [List.getElem?_set_ne n1]; exact q2⟩
theorem sss_draw (i : Nat) {y : Str} {pos' : Pos} (hN : X.N.Nodup) (he : SF X C W e mf) (hrest : SSs X C W false rest mr) (hi : X.N[i]? = some y := by rfl) (hx : Loc X.env.scope y := by exact .inl rfl) (hs : swapsWith e (some (.Name y pos')) pos.line X.env = pure false := by rfl)
    (hf : X.fn y = true ∨ X.env.scope.names.lookup y = some .local := by first | exact .inl rfl | exact .inr rfl) : SSs X C W false (.Assign [.Name y pos'] e pos :: rest) (mDraw i mf mr) :=
  PSs.imp (pss_cons (ps_set hN hi hx he hs hf) hrest) fun D σ H ⟨Γ, env, ds, R, h⟩ => by
    refine ⟨Γ, env, ds, R, ?_⟩
    revert h
    unfold mDraw Aft
    rcases mf env ds with _ | ⟨xs | x, ds1⟩
    · exact id
    · cases ds1 with
      | some s => exact fun h => h.elim
      | none =>
        dsimp only
        intro h H1 e1 d1 a us h1 h2 h3 h4
        cases hs : mkDraw xs with
        | none => rw [hs] at h; exact h.elim
        | some s =>
          rw [hs] at h
          dsimp only at h
          cases hp : put i .drw env with
          | none => rw [hp] at h; exact h.elim
          | some env' =>
            rw [hp] at h
            dsimp only at h
            have hdr : Γ.dr = none := by
              unfold DrR at d1
              cases q : Γ.dr with
              | none => rfl
              | some p => rw [q] at d1; exact d1.elim
            have ds0 : ds = none := by
              have := R.draw
              unfold DrR at this
              rw [hdr] at this
              cases ds with
              | none => rfl
              | some s => exact this.elim
            subst ds0
            unfold mkDraw at hs
            split at hs
            · rename_i cs i1 i2 i3
              obtain ⟨ns, q1, q2⟩ := Option.map_eq_some_iff.mp hs
              subst q2
              obtain rfl := intsOf_eq q1
              cases h4 with
              | cons a1 h4 =>
                cases h4 with
                | cons a2 h4 =>
                  cases h4 with
                  | cons a3 h4 =>
                    cases h4 with
                    | cons a4 h4 =>
                      cases h4
                      cases a2
                      cases a3
                      cases a4
                      cases a1 with
                      | @lst c cv _ b1 b2 b3 b4 =>
                        rw [b4.ints_inv] at b2 b3
                        rw [List.length_map] at b3
                        have RD := R.set_dr (s := ⟨ns, i1, i2, i3⟩) e1 h1 h2 b2 b3 b1 hp
                        refine ⟨_, env', _, RD, ?_⟩
                        show Aft2 X.K C W false _ D (mr env' (some ⟨ns, i1, i2, i3⟩))
                        rcases z : mr env' (some ⟨ns, i1, i2, i3⟩) with _ | ⟨fl, ds2⟩
                        · rw [z] at h; exact h
                        · rw [z] at h
                          cases fl with
                          | rt d =>
                            intro v H' r
                            obtain ⟨r1, r2, r3⟩ := r
                            refine h v H' ⟨fun b o n q => ?_, by unfold DrR; rw [hdr]; trivial, (show Df X.K H' _ v d from r3).mono (fun b u z k => ⟨⟨z.1, fun p q => by rw [hdr] at q; cases q⟩, k⟩) fun _ _ z => z⟩
                            refine r1 b o (fun p q z => ?_) q
                            cases q
                            have := R.ext b o n q
                            rw [z, h1] at this
                            cases this
                          | _ => exact h.elim
            · cases hs
    · exact fun h => h.elim
end

/-! ### try: .. except X: .. -/
/-- a suite that raises nothing -/
def noEx (r : Option (Fl × DS)) : Option (Fl × DS) := match r with
  | some (.ex _ _, _) => none
  | r => r
def mTry (k : Exn → Bool) (mb ms : MS) : MS := fun env ds => match mb env ds with
  | some (.ex x env', ds') => if k x then noEx (ms env' ds') else some (.ex x env', ds')
  | r => r
section
variable {X : Cx} {C : Exs} {W : WX} {fr : Bool} {x : Str} {Cc : Addr} {body suite : List Stmt} {b₀ : Stmt} {np pos pos' : Pos} {mb ms : MS} {k : Exn → Bool}
theorem ss_try (hs : X.stack = X.env :: X.outer) (hf : X.env.frame = some X.env.locals) (hm : X.mg x = some (.ref Cc)) (tk : Takes X W) (hk : ∀ y cls d H, ExR C y cls d H → PySem.W.exmOne X.K cls (.ref Cc) = some (k y))
    (hb : ∀ (W' : WX) (pn : List (Addr × Obj)) (xe : Value → Shared → Prop), Takes (X.tr pn xe) W' → PassesOwn (model X.prog X.w) X.A X.env xe → SSs (X.tr pn xe) C W' fr body mb)
    (hsu : ∀ (a : Addr) (pn : List (Addr × Obj)), SSs (X.suite a pn) C W0 fr (b₀ :: suite) ms) (hg : Gl X x := by rfl) (hdb : (x == ("__debug__" : Str)) = false := by decide) :
    SS X C W fr (.Try body [.ExceptHandler (some (.Name x np)) none (b₀ :: suite) pos'] [] [] pos) (mTry k mb ms) :=
  PS.imp (ps_try_only (tb := fun W' => rdS X.K C W' fr mb) (ts := fun _ _ _ => rdS X.K C W0 fr ms) hs hf ⟨hg, hdb, .inl hm⟩ tk hb (fun a oe cls d pn _ _ => hsu a _)) fun D σ H ⟨Γ, env, ds, R, h⟩ => by
    refine ⟨Γ, env, ds, R, ?_⟩
    unfold mTry at h
    rcases q : mb env ds with _ | ⟨fl, ds'⟩
    · rw [q] at h; exact h
    · rw [q] at h
      cases fl with
      | nx e => exact h
      | bk e => exact h
      | ct e => exact h
      | rt d => exact h
      | ex y e =>
        intro cls dd σ' H' R' hx
        refine ⟨k y, hk y cls dd H' hx, fun hy a ha => ?_, fun hy => ?_⟩
        · dsimp only at h
          rw [if_pos hy] at h
          refine ⟨Γ, e, ds', R', ?_⟩
          revert h
          rcases ms e ds' with _ | ⟨fl, ds2⟩
          · exact id
          · cases fl with
            | ex z e2 => exact fun h => h.elim
            | _ => exact id
        · dsimp only at h
          rw [if_neg (by rw [hy]; exact Bool.false_ne_true)] at h
          exact h cls dd σ' H' R' hx
end
end DL

/-! DL11: sorted, sorted(set(..)), repr. -/
namespace DL
open PySem PySem.Spec L2
open PyProof.Rows hiding St

/-! ### an order of data that runs -/
mutual
def ltD : PyData → PyData → Bool
  | .bool a, .bool b => !a && b
  | .int a, .int b => decide (a < b)
  | .str a, .str b => decide (a.cps.toList < b.cps.toList)
  | .tuple a, .tuple b => ltDs a b
  | .list a, .list b => ltDs a b
  | _, _ => false
def ltDs : List PyData → List PyData → Bool
  | [], b => !b.isEmpty
  | _ :: _, [] => false
  | x :: xs, y :: ys => if PyData.eqv x y then ltDs xs ys else ltD x y
end
def insB {α : Type} (lt : α → α → Bool) (x : α) : List α → List α
  | [] => [x]
  | y :: r => if lt y x then y :: insB lt x r else x :: y :: r
def sortB {α : Type} (lt : α → α → Bool) : List α → List α
  | [] => []
  | x :: r => insB lt x (sortB lt r)
def sortD (xs : List PyData) : List PyData := sortB ltD xs

mutual
theorem ltD_eq : ∀ x y : PyData, PySem.W.alike x y = true → ltD x y = PySem.W.dataLt x y
  | .none, y, h => by
    cases y with
    | none => unfold PySem.W.dataLt; exact (lex_irrefl (O := itemOrd) _).symm
    | _ => simp [PySem.W.alike] at h
  | .bool a, y, h => by
    cases y with
    | bool b => rw [PySem.W.dataLt_bool]; cases a <;> cases b <;> rfl
    | _ => simp [PySem.W.alike] at h
  | .int a, y, h => by
    cases y with
    | int b => rw [PySem.W.dataLt_int]; rfl
    | _ => simp [PySem.W.alike] at h
  | .str a, y, h => by
    cases y with
    | str b => rw [PySem.W.dataLt_str]; rfl
    | _ => simp [PySem.W.alike] at h
  | .list a, y, h => by
    cases y with
    | list b => rw [PySem.W.dataLt_list]; exact ltDs_eq a b (by simpa [PySem.W.alike] using h)
    | _ => simp [PySem.W.alike] at h
  | .tuple a, y, h => by
    cases y with
    | tuple b => rw [PySem.W.dataLt_tuple]; exact ltDs_eq a b (by simpa [PySem.W.alike] using h)
    | _ => simp [PySem.W.alike] at h
  | .dict a, y, h => by simp [PySem.W.alike] at h
theorem ltDs_eq : ∀ xs ys : List PyData, PySem.W.alikeAll xs ys = true → ltDs xs ys = PyProof.Rows.lexLt itemOrd (PySem.W.keyToksAll xs) (PySem.W.keyToksAll ys)
  | [], [], _ => (lex_irrefl (O := itemOrd) _).symm
  | [], y :: ys, _ => by
    rw [PySem.W.toks_all_cons, PySem.W.keyToksAll, lex_diff (O := itemOrd) (by intro z; cases z)]
    rfl
  | x :: xs, [], _ => by
    rw [PySem.W.toks_all_cons, PySem.W.keyToksAll, lex_diff (O := itemOrd) (by intro z; cases z)]
    rfl
  | x :: xs, y :: ys, h => by
    obtain ⟨h1, h2⟩ := PySem.W.alike_all_cons h
    rw [PySem.W.dataLt_cons h1, ← ltDs_eq xs ys h2, ← ltD_eq x y h1]
    rfl
end
section
variable {α : Type} {lt lt' : α → α → Bool} {le : α → α → Bool}
theorem insB_perm (x : α) : ∀ l : List α, (insB lt x l).Perm (x :: l)
  | [] => .refl _
  | y :: r => by
    unfold insB
    split
    · exact ((insB_perm x r).cons y).trans (.swap x y r)
    · exact .refl _
theorem sortB_perm : ∀ l : List α, (sortB lt l).Perm l
  | [] => .refl _
  | x :: r => (insB_perm x _).trans ((sortB_perm r).cons x)
theorem insB_congr (x : α) : ∀ l : List α, (∀ y ∈ l, lt y x = lt' y x) → insB lt x l = insB lt' x l
  | [], _ => rfl
  | y :: r, h => by
    unfold insB
    rw [h y List.mem_cons_self, insB_congr x r fun z hz => h z (List.mem_cons_of_mem _ hz)]
theorem sortB_congr : ∀ l : List α, (∀ x ∈ l, ∀ y ∈ l, lt x y = lt' x y) → sortB lt l = sortB lt' l
  | [], _ => rfl
  | x :: r, h => by
    have e : sortB lt r = sortB lt' r := sortB_congr r fun a ha b hb => h a (List.mem_cons_of_mem _ ha) b (List.mem_cons_of_mem _ hb)
    show insB lt x (sortB lt r) = insB lt' x (sortB lt' r)
    rw [e]
    exact insB_congr x _ fun y hy => h y (List.mem_cons_of_mem _ ((sortB_perm r).mem_iff.mp hy)) x List.mem_cons_self
theorem insB_pair (T : PySem.W.TotalLe le) (x : α) : ∀ l : List α, l.Pairwise (fun a b => le a b = true) → (insB (fun a b => !le b a) x l).Pairwise fun a b => le a b = true
  | [], _ => List.pairwise_singleton _ _
  | y :: r, h => by
    rw [List.pairwise_cons] at h
    unfold insB
    split
    · rename_i c
      have c : (!le x y) = true := c
      refine List.pairwise_cons.mpr ⟨fun z hz => ?_, insB_pair T x r h.2⟩
      rcases List.mem_cons.mp ((insB_perm x r).mem_iff.mp hz) with e | e
      · subst e
        rcases T.total y z with q | q
        · exact q
        · rw [q] at c; cases c
      · exact h.1 z e
    · rename_i c
      have c : le x y = true := by cases q : le x y with | true => rfl | false => exact absurd (by show (!le x y) = true; rw [q]; rfl) c
      refine List.pairwise_cons.mpr ⟨fun z hz => ?_, List.pairwise_cons.mpr h⟩
      rcases List.mem_cons.mp hz with e | e
      · subst e; exact c
      · exact T.trans _ _ _ c (h.1 z e)
theorem sortB_pair (T : PySem.W.TotalLe le) : ∀ l : List α, (sortB (fun a b => !le b a) l).Pairwise fun a b => le a b = true
  | [] => List.Pairwise.nil
  | x :: r => insB_pair T x _ (sortB_pair T r)
theorem insB_filter (T : PySem.W.TotalLe le) (c x : α) : ∀ l : List α, (insB (fun a b => !le b a) x l).filter (PySem.W.sameRank le c) = (x :: l).filter (PySem.W.sameRank le c)
  | [] => rfl
  | y :: r => by
    unfold insB
    split
    · rename_i k
      have k : (!le x y) = true := k
      rw [List.filter_cons, insB_filter T c x r, List.filter_cons, List.filter_cons, List.filter_cons]
      by_cases hx : PySem.W.sameRank le c x = true
      · by_cases hy : PySem.W.sameRank le c y = true
        · exfalso
          unfold PySem.W.sameRank at hx hy
          rw [Bool.and_eq_true] at hx hy
          have q : le x y = true := by first | exact T.trans _ _ _ hx.2 hy.1 | exact T.trans _ _ _ hx.1 hy.2
          rw [q] at k
          cases k
        · rw [if_neg hy, if_neg hy]
      · rw [if_neg hx, if_neg hx]
    · rfl
theorem sortB_filter (T : PySem.W.TotalLe le) (c : α) : ∀ l : List α, (sortB (fun a b => !le b a) l).filter (PySem.W.sameRank le c) = l.filter (PySem.W.sameRank le c)
  | [] => rfl
  | x :: r => by
    show (insB _ x _).filter _ = _
    rw [insB_filter T c x, List.filter_cons, List.filter_cons, sortB_filter T c r]
theorem sortB_merge (T : PySem.W.TotalLe le) (l : List α) : sortB (fun a b => !le b a) l = l.mergeSort le := PySem.W.sort_unique T (sortB_pair T l) fun c => sortB_filter T c l
end
theorem dataLe_total {β : Type} (k : β → PyData) : PySem.W.TotalLe (PySem.W.dataLe false k) := PySem.W.sortLe_total _ _ _
theorem sortD_merge {ds : List PyData} (h : PySem.W.AllAlike ds) : sortD ds = ds.mergeSort (PySem.W.dataLe false id) := by
  rw [← sortB_merge (dataLe_total id)]
  unfold sortD
  refine sortB_congr ds fun x hx y hy => ?_
  rw [ltD_eq x y (h x hx y hy), PySem.W.dataLe_eq]
  show _ = !!PySem.W.dataLt x y
  rw [Bool.not_not]
/-- what may be sorted -/
def isTup1 : PyData → Bool
  | .tuple (_ :: _) => true
  | _ => false
def notTup : PyData → Bool
  | .none => false
  | .tuple _ => false
  | _ => true
def sorts (ds : List PyData) : Bool := ds.all (fun d => ds.all fun e => PySem.W.alike d e) && (ds.all isTup1 || ds.all notTup || (decide (ds.length ≤ 1) && ds.all fun d => !isNone d)) && decide (PyData.depthAll ds ≤ 60)
theorem sorts_alike {ds : List PyData} (h : sorts ds = true) : PySem.W.AllAlike ds := by
  unfold sorts at h
  rw [Bool.and_eq_true, Bool.and_eq_true] at h
  intro d hd e he
  exact List.all_eq_true.mp (List.all_eq_true.mp h.1.1 d hd) e he
theorem sorts_depth {ds : List PyData} (h : sorts ds = true) : PyData.depthAll ds ≤ 60 := by
  unfold sorts at h
  rw [Bool.and_eq_true] at h
  exact of_decide_eq_true h.2
theorem depth_mem : ∀ {ds : List PyData} {d : PyData}, d ∈ ds → d.depth ≤ PyData.depthAll ds
  | x :: r, d, h => by
    have e : PyData.depthAll (x :: r) = max x.depth (PyData.depthAll r) := by first | rfl | rw [PyData.depthAll]
    rw [e]
    rcases List.mem_cons.mp h with q | q
    · subst q; exact Nat.le_max_left _ _
    · exact Nat.le_trans (depth_mem q) (Nat.le_max_right _ _)
theorem sortsAt {prog : Program} {w : World} {A : Around} {s : Shared} {vs : List Value} {ds : List PyData} (e : PySem.W.EachIs (fun v d => ∃ as, Reads s.heap v d as) vs ds) (h : sorts ds = true) (hu : A.units + 60 < cLine) : PySem.W.SortsAt prog w A s (PySem.W.dataKind s.heap ds) vs := by
  have hal := sorts_alike h
  have hd := sorts_depth h
  have room : ∀ d, d ∈ ds → A.units + d.depth < cLine := fun d q => by have := depth_mem q; omega
  have h2 := h
  unfold sorts at h2
  rw [Bool.and_eq_true, Bool.and_eq_true, Bool.or_eq_true, Bool.or_eq_true] at h2
  rcases h2.1.2 with (k | k) | k
  · exact PySem.W.SortsAt.data e hal (.inl fun d q => by
      have := List.all_eq_true.mp k d q
      unfold isTup1 at this
      split at this
      · exact ⟨_, _, rfl⟩
      · cases this) room
  · exact PySem.W.SortsAt.data e hal (.inr fun d q => by
      have := List.all_eq_true.mp k d q
      exact ⟨(fun z => by subst z; cases this), (fun xs z => by subst z; cases this)⟩) room
  · rw [Bool.and_eq_true] at k
    have k1 := of_decide_eq_true k.1
    refine ⟨fun v hv => ?_, general', fun E x y a b Q ha hb hq => ?_, fun q => absurd q (by rw [e.length]; omega)⟩
    · obtain ⟨d, q, as, r⟩ := e.left v hv
      exact ⟨_, PySem.W.dataKind_some hal q r⟩
    · obtain ⟨d, as, q1, ra, rfl⟩ := PySem.W.dataKind_inv ha
      obtain ⟨d', as', q2, rb, rfl⟩ := PySem.W.dataKind_inv hb
      show wpAny (model prog w) A (oneLt' false x y) Q E s
      refine PySem.W.oneLt_alike (fun z => by cases z) ra rb (hal d q1 d' q2) (fun z => ?_) (Nat.lt_of_le_of_lt (Nat.add_le_add_left (Nat.min_le_left _ _) _) (room d q1)) hq
      subst z
      have := List.all_eq_true.mp k.2 _ q1
      cases this

section
variable {X : Cx} {K : PySem.W.Frag}
/-- values beside what they read as -/
theorem each_zip {P : Value → V × PyData → Prop} : ∀ {xs : List V} {its : List Value} {ds : List PyData}, Vals xs its → xs.length = ds.length → (∀ (v : V) (u : Value) (d : PyData), (v, d) ∈ xs.zip ds → RelV v u → P u (v, d)) → PySem.W.EachIs P its (xs.zip ds)
  | _, _, [], .nil, _, _ => .nil
  | _, _, [], .cons _ _, h, _ => by cases h
  | _, _, d :: ds, .nil, h, _ => by cases h
  | _, _, d :: ds, .cons (a := v) (b := u) r t, h, f => .cons (f v u d List.mem_cons_self r) (each_zip t (by simpa using h) fun v u d q => f v u d (List.mem_cons_of_mem _ q))
theorem vals_each : ∀ {out : List Value} {ps : List (V × PyData)}, PySem.W.EachIs (fun u p => RelV p.1 u) out ps → Vals (ps.map (·.1)) out
  | _, _, .nil => .nil
  | _, _, .cons h t => .cons h (vals_each t)
theorem dfAll_zip {H : Hp} {g : Addr → Prop} : ∀ {us : List V} {ds : List PyData}, DfAll K H g us ds → ∀ p ∈ us.zip ds, Df K H g p.1 p.2
  | _, _, .nil, p, h => by cases h
  | _, _, .cons a t, p, h => by
    rcases List.mem_cons.mp h with q | q
    · subst q; exact a
    · exact dfAll_zip t p q
theorem zip_dfAll {H : Hp} {g : Addr → Prop} : ∀ {ps : List (V × PyData)}, (∀ p ∈ ps, Df K H g p.1 p.2) → DfAll K H g (ps.map (·.1)) (ps.map (·.2))
  | [], _ => .nil
  | p :: r, h => .cons (h p List.mem_cons_self) (zip_dfAll fun q hq => h q (List.mem_cons_of_mem _ hq))
theorem dp_zip {H : Hp} : ∀ {us : List V} {ds : List PyData}, DpAll K H us ds → ∀ p ∈ us.zip ds, Dp K H p.1 p.2
  | _, _, .nil, p, h => by cases h
  | _, _, .cons a t, p, h => by
    rcases List.mem_cons.mp h with q | q
    · subst q; exact a
    · exact dp_zip t p q
theorem dp_len {H : Hp} : ∀ {us : List V} {ds : List PyData}, DpAll K H us ds → us.length = ds.length
  | _, _, .nil => rfl
  | _, _, .cons a t => by rw [List.length_cons, List.length_cons, dp_len t]
/-- sorted(xs) -/
def rSortD (K : PySem.W.Frag) : List V → Hp → VK → Prop := fun vs H Q => ∃ (a : Addr) (xs : List V) (ds : List PyData), vs = [V.ref a] ∧ SqL K H a xs ∧ DpAll K H xs ds ∧ sorts ds = true ∧
  ∀ (ps : List (V × PyData)) (p : Addr), ps.Perm (xs.zip ds) → ps.map (·.2) = sortD ds → H p = none → ps.length ≤ sizeLine → Q (.ref p) (upd H p (.lst (ps.map (·.1))))
theorem cr_sortD (hu : X.A.units + 65 < cLine) : CallR X (.builtin "sorted") (rSortD X.K) := by
  intro pins s σ H vs us Q I r h
  obtain ⟨a, xs, ds, rfl, hs, hd, hk, q⟩ := h
  obtain ⟨its, rv, hl, hz⟩ := I.list hs
  rw [Vals.ref1 r]
  have hlen := dp_len hd
  have e : PySem.W.EachIs (fun u (p : V × PyData) => RelV p.1 u) its (xs.zip ds) := each_zip rv hlen fun v u d _ w => w
  have er : PySem.W.EachIs (fun u (p : V × PyData) => ∃ as, Reads s.heap u p.2 as) its (xs.zip ds) := each_zip rv hlen fun v u d m w => Dp.reads I d v u (dp_zip hd _ m) w
  have hm : (xs.zip ds).map (·.2) = ds := List.map_snd_zip (Nat.le_of_eq hlen.symm)
  have er2 : PySem.W.EachIs (fun u (p : V × PyData) => ∃ as, Reads (PySem.W.sortingHeap (PySem.W.copyHeap s.heap its) (s.heap.objs.size + 1) its) u p.2 as) its (xs.zip ds) := er.mono fun _ _ ⟨as, z⟩ => ⟨as, PyProof.Rows.Reads.keeps (fun _ _ => PySem.W.sorting_copy_old) z⟩
  have er3 : PySem.W.EachIs (fun u d => ∃ as, Reads (PySem.W.sortingHeap (PySem.W.copyHeap s.heap its) (s.heap.objs.size + 1) its) u d as) its ds := by
    have z := PySem.W.each_map (R := fun u d => ∃ as, Reads (PySem.W.sortingHeap (PySem.W.copyHeap s.heap its) (s.heap.objs.size + 1) its) u d as) Prod.snd er2
    rw [show (xs.zip ds).map Prod.snd = ds from hm] at z
    exact z
  have hal := sorts_alike hk
  have hal2 : PySem.W.AllAlike ((xs.zip ds).map Prod.snd) := by rw [show (xs.zip ds).map Prod.snd = ds from hm]; exact hal
  have S : PySem.W.SortsAt X.prog X.w X.A.in1.in1 { s with heap := PySem.W.sortingHeap (PySem.W.copyHeap s.heap its) (s.heap.objs.size + 1) its } (PySem.W.dataKind (PySem.W.sortingHeap (PySem.W.copyHeap s.heap its) (s.heap.objs.size + 1) its) ds) its :=
    sortsAt (s := { s with heap := PySem.W.sortingHeap (PySem.W.copyHeap s.heap its) (s.heap.objs.size + 1) its }) er3 hk (by show X.A.units + 1 + 1 + 60 < cLine; omega)
  have out := PySem.W.sortVals_data (h' := PySem.W.sortingHeap (PySem.W.copyHeap s.heap its) (s.heap.objs.size + 1) its) (R := fun u (p : V × PyData) => RelV p.1 u) (enc := Prod.snd) false e er2 hal2
  rw [show (xs.zip ds).map Prod.snd = ds from hm] at out
  refine PySem.W.sorted_vals hl.isList S (by rw [← rv.length]; exact hz) ?_
  generalize PySem.W.sortVals (PySem.W.dataKind (PySem.W.sortingHeap (PySem.W.copyHeap s.heap its) (s.heap.objs.size + 1) its) ds) false its its = zs at out ⊢
  have rz := vals_each out
  have perm : ((xs.zip ds).mergeSort (PySem.W.dataLe false Prod.snd)).Perm (xs.zip ds) := List.mergeSort_perm _ _
  have ms : ((xs.zip ds).mergeSort (PySem.W.dataLe false Prod.snd)).map (·.2) = sortD ds := by
    rw [sortD_merge hal]
    refine (PySem.W.sort_maps (s := PySem.W.dataLe false id) (fun p : V × PyData => p.2) fun a _ b _ => rfl).trans ?_
    rw [hm]
  generalize (xs.zip ds).mergeSort (PySem.W.dataLe false Prod.snd) = ps at rz perm ms
  have hps : ps.length ≤ sizeLine := by
    rw [perm.length_eq, List.length_zip, ← hlen, Nat.min_self]
    exact hz
  obtain ⟨ep, he'⟩ := PyProof.Rows.sortedAll_at s.heap its zs.toArray
  exact ⟨.ref _, upd H (s.heap.objs.size + 1) (.lst (ps.map (·.1))), I.laid (t' := s.toks) (fun _ _ => PyProof.Rows.sortedAll_old) (Nat.le_succ _) ⟨by rw [List.length_map]; exact hps, zs, ep, rz, he'⟩, rfl, q _ _ perm ms (I.hok.fresh (Nat.le_succ _)) hps⟩
def fSort : PyData → Option (List PyData)
  | .list ds => if sorts ds then some (sortD ds) else none
  | _ => none
theorem un_sort : Un1F K (rSortD K) fSort := fun Γ σ H env ds R x d z hx hf Q q => by
  unfold fSort at hf
  split at hf
  · split at hf
    · rename_i es hs
      cases hf
      obtain ⟨a, us, rfl, hS, hl, hA⟩ := hx.list
      refine ⟨a, us, es, rfl, SqL.of hS, hA.dp, hs, fun ps p h1 h2 h3 h4 => q p _ h3 (by rw [List.length_map]; exact h4) ?_⟩
      rw [← h2]
      exact zip_dfAll fun w hw => dfAll_zip hA w (h1.mem_iff.mp hw)
    · cases hf
  · cases hf
end
end DL

/-! DL12: sorted(set(..)) of ints, repr. -/
namespace DL
open PySem PySem.Spec L2
open PyProof.Rows hiding St

/-! ### ints in order, each once -/
def insU (x : Int) : List Int → List Int
  | [] => [x]
  | y :: r => if y < x then y :: insU x r else if x = y then y :: r else x :: y :: r
def sortU : List Int → List Int
  | [] => []
  | x :: r => insU x (sortU r)
theorem insU_mem (x k : Int) : ∀ l : List Int, k ∈ insU x l ↔ k = x ∨ k ∈ l
  | [] => by simp [insU]
  | y :: r => by
    unfold insU
    split
    · rw [List.mem_cons, insU_mem x k r, List.mem_cons]
      exact ⟨fun h => h.elim (fun q => .inr (.inl q)) fun q => q.elim .inl fun z => .inr (.inr z), fun h => h.elim (fun q => .inr (.inl q)) fun q => q.elim .inl fun z => .inr (.inr z)⟩
    · split
      · rename_i e
        subst e
        rw [List.mem_cons]
        exact ⟨fun h => h.elim .inl fun q => .inr (.inr q), fun h => h.elim .inl id⟩
      · exact List.mem_cons
theorem sortU_mem (k : Int) : ∀ l : List Int, k ∈ sortU l ↔ k ∈ l
  | [] => Iff.rfl
  | x :: r => by rw [sortU, insU_mem, sortU_mem k r, List.mem_cons]
theorem insU_pair (x : Int) : ∀ l : List Int, l.Pairwise (· < ·) → (insU x l).Pairwise (· < ·)
  | [], _ => List.pairwise_singleton _ _
  | y :: r, h => by
    rw [List.pairwise_cons] at h
    unfold insU
    split
    · rename_i c
      refine List.pairwise_cons.mpr ⟨fun z hz => ?_, insU_pair x r h.2⟩
      rcases (insU_mem x z r).mp hz with e | e
      · subst e; exact c
      · exact h.1 z e
    · split
      · exact List.pairwise_cons.mpr h
      · refine List.pairwise_cons.mpr ⟨fun z hz => ?_, List.pairwise_cons.mpr h⟩
        rcases List.mem_cons.mp hz with e | e
        · subst e; omega
        · have := h.1 z e; omega
theorem sortU_pair : ∀ l : List Int, (sortU l).Pairwise (· < ·)
  | [] => List.Pairwise.nil
  | x :: r => insU_pair x _ (sortU_pair r)
theorem pair_one : ∀ {l m : List Int}, l.Pairwise (· < ·) → m.Pairwise (· < ·) → (∀ k, k ∈ l ↔ k ∈ m) → l = m
  | [], [], _, _, _ => rfl
  | [], y :: m, _, _, h => by cases (h y).mpr List.mem_cons_self
  | x :: l, [], _, _, h => by cases (h x).mp List.mem_cons_self
  | x :: l, y :: m, hl, hm, h => by
    rw [List.pairwise_cons] at hl hm
    have e : x = y := by
      rcases List.mem_cons.mp ((h x).mp List.mem_cons_self) with q | q
      · exact q
      · rcases List.mem_cons.mp ((h y).mpr List.mem_cons_self) with z | z
        · exact z.symm
        · have := hm.1 x q; have := hl.1 y z; omega
    subst e
    rw [pair_one hl.2 hm.2 fun k => ?_]
    constructor
    · intro q
      rcases List.mem_cons.mp ((h k).mp (List.mem_cons_of_mem _ q)) with z | z
      · subst z; have := hl.1 k q; omega
      · exact z
    · intro q
      rcases List.mem_cons.mp ((h k).mpr (List.mem_cons_of_mem _ q)) with z | z
      · subst z; have := hm.1 k q; omega
      · exact z

/-! ### set(xs) of a list of ints -/
abbrev setE (w : World) : Obj := { cls := .type "set", dict := none, data := .set #[] 0 (.fresh 0 0 (!w.params.followText "set-order")) }
section
variable {P : Program} {w : World} {A : Around} {E : Value → Shared → Prop} {s : Shared}
set_option maxHeartbeats 3200000 in
theorem set_of_ints {l : Addr} {xs : Array Value} (ns : List Int) {Q : Value → Shared → Prop} (hh : A.handled = none) (hl : s.heap.IsList l xs) (hx : IntsAre xs.toList ns) (hb : ns.length + 1 < scanBound)
    (h : ∀ (h' : Heap) (tk c : Nat), SetR w h' s.heap.objs.size (fun j => decide (j ∈ ns)) c → c ≤ ns.length → (∀ b o, s.heap.get? b = some o → h'.get? b = some o) → Q (.ref s.heap.objs.size) { s with heap := h', toks := tk }) : wpAny (model P w) A (call (.type "set") [.ref l]) Q E s := by
  have hn : xs.size = ns.length := by have z := IntsAre.length hx; rwa [Array.length_toList] at z
  obtain ⟨c0, t0, m1⟩ := F.called_set.mro
  have m2 := F.called_set.made; have m3 := F.called_set.sub
  refine wpAny_call (codeAny_of_tree ?_); show wpAny _ _ (callAny (.type "set") _) _ _ _
  refine wpAny_pure ⟨Code.quiet_builtin _ (by decide +kernel), codeAny_builtin F.entry_type_call ?_⟩; rw [Around.under_plain (weight_type_call_type "set" [.ref l] []) rfl]
  have m4 := F.called_set.notType; have m5 := F.called_set.canCreate; have m6 := F.typeCall_set_1 (.ref l)
  repeat (any_goals (first | assumption | wp_step))
  refine codeAny_mono (code_set_led1 (.ref l) (E := E) (Q₁ := fun ob z => ob = .ref s.heap.objs.size ∧ z = { s with heap := s.heap.push (setE w) }) ⟨rfl, rfl⟩) fun r z hr => ?_
  rcases r with e | fl
  · exact hr
  · cases fl with
    | ret ob =>
      obtain ⟨rfl, rfl⟩ := hr
      have g1 : (s.heap.push (setE w)).get? s.heap.objs.size = some (setE w) := Heap.get?_push_size _ rfl
      have g2 : Shared.TypeIs { s with heap := s.heap.push (setE w) } (.ref s.heap.objs.size) "set" := ⟨_, g1, rfl⟩
      have m7 := F.called_set.init.lookup; have m8 := F.called_set.init.bind (.ref s.heap.objs.size)
      repeat (any_goals (first | assumption | wp_step))
      refine codeAny_mono (codeAny_call_builtin (R := wants (fun r z => r = .none ∧ ∃ h' tk c, z = { s with heap := h', toks := tk } ∧ SetR w h' s.heap.objs.size (fun j => decide (j ∈ ns)) c ∧ c ≤ ns.length ∧ (∀ b o, s.heap.get? b = some o → h'.get? b = some o)) E) F.called_set.init.plain F.entry_set_init (check_set_init_1 g2 ?_)) fun r z hr => ?_
      · obtain ⟨⟨oc, od, oa, os⟩, l1, l2, n, l3⟩ := hl
        dsimp only at l2 l3
        subst l2 l3
        have l4 : (s.heap.push (setE w)).get? l = some { cls := .type "list", dict := od, data := .seq xs n, slots := os } := Heap.get?_push_of_some _ l1
        have n1 := F.sub_list_set; have n2 := F.sub_list_frozenset
        have n3 : (Value.type "list" == Value.type "dict") = false := by decide
        have l5 : (s.heap.push (setE w)).IsList l xs := ⟨_, l4, rfl, n, rfl⟩
        unfold Builtin.«set.__init__» noKeywords Builtin.Frozenset.updateFrom
        generalize hp : pyIter = PP
        wp_walk
        subst hp
        refine wpAny_pyIter_list l5 ?_; refine wpAny_bind (wpAny_runValue ?_)
        have k1 : l < s.heap.objs.size := Heap.lt_size l1
        have k2 : A.in1.in1.in1.handled = none := by simp [hh]
        have k3 : l ≠ (s.heap.push (setE w)).objs.size := by rw [Heap.size_push]; exact Nat.ne_of_lt (Nat.lt_succ_of_lt k1)
        have k4 : s.heap.objs.size ∉ [(s.heap.push (setE w)).objs.size, l] := by
          intro q
          rw [Heap.size_push] at q
          rcases List.mem_cons.mp q with e | q
          · omega
          · rcases List.mem_cons.mp q with e | q
            · rw [← e] at k1; exact Nat.lt_irrefl _ k1
            · cases q
        have k5 : ∀ (i : Nat) (v : Value), xs[i]? = some v → ∃ k t, ns[i]? = some k ∧ v = .int k t := fun i v hv => by
          have q : i < ns.length := by rw [← hn]; exact (Array.getElem?_eq_some_iff.mp hv).1
          obtain ⟨t, e⟩ := IntsAre.int_at hx i v (by rw [Array.getElem?_toList]; exact hv)
          exact ⟨ns[i], t, List.getElem?_eq_getElem q, by rw [e, List.getD_eq_getElem?_getD, List.getElem?_eq_getElem q]; rfl⟩
        refine set_update_ints ((Walks.list k2 _ l k3 xs).toS) s.heap.objs.size k4 ns hn hb k5 (xs.size - 0) 0 _ (by omega) (Nat.zero_le _) ⟨⟨_, Heap.get?_push_size _ rfl, rfl, rfl⟩, (l5.push _)⟩ ⟨0, Nat.le_refl 0, setR_new_at (Heap.get?_push_of_some _ g1)⟩ fun z c hm hc hS => ?_
        obtain ⟨zh, zg, zd, zt, zo⟩ := z
        obtain rfl : zg = s.gens := hm.gens
        obtain rfl : zd = s.drawn := hm.drawn
        obtain rfl : zo = s.os := hm.os
        show wpAny _ _ _ _ _ _
        refine wpAny_pure ?_; show wpAny _ _ (ret Value.none) _ _ _
        rw [hn] at hc
        refine wpAny_pure ⟨rfl, zh, zt, c, rfl, hS, hc, fun b o e => ?_⟩
        have q := Heap.lt_size e
        refine hm.heap b o (fun w => ?_) (Heap.get?_push_of_some _ (Heap.get?_push_of_some _ e))
        rcases List.mem_cons.mp w with w | w
        · exact absurd w (Nat.ne_of_lt q)
        · rcases List.mem_cons.mp w with w | w
          · rw [Heap.size_push] at w; exact absurd w (Nat.ne_of_lt (Nat.lt_succ_of_lt q))
          · cases w
      · rcases r with e | fl
        · exact hr
        · cases fl with
          | ret r =>
            obtain ⟨rfl, h', tk, c, rfl, q1, q2, q3⟩ := hr
            repeat (any_goals (first | assumption | wp_step))
            exact h _ _ _ q1 q2 q3
          | _ => exact hr.elim
    | _ => exact hr.elim
end

section
variable {X : Cx} {C : Exs} {W : WX} {K : PySem.W.Frag} {a : Expr} {ma : ME PyData} {M : Md} {pos pos2 p p2 : Pos}
def rSetLI (K : PySem.W.Frag) (w : World) : List V → Hp → VK → Prop := fun vs H Q => ∃ (l : Addr) (ns : List Int), vs = [V.ref l] ∧ SqL K H l (ns.map V.int) ∧ ns.length ≤ 1000 ∧
  ∀ (p : Addr) (c : Nat), H p = none → c ≤ ns.length → Q (.ref p) (upd H p (SetO w p (fun j => decide (j ∈ ns)) c))
theorem cr_setLI (hc : X.calm = true) : CallR X (.type "set") (rSetLI X.K X.w) := by
  intro pins s σ H vs us Q I r h
  obtain ⟨l, ns, rfl, hs, hn, q⟩ := h
  obtain ⟨its, rv, hl, hz⟩ := I.list hs
  rw [Vals.ref1 r]
  refine set_of_ints ns (I.ok.hd hc) hl.isList (ints_of_vals rv) (by unfold scanBound; omega) fun h' tk c R hcn k => ?_
  have hf : H s.heap.objs.size = none := I.hok.fresh (Nat.le_refl _)
  exact ⟨.ref _, upd H s.heap.objs.size (SetO X.w s.heap.objs.size (fun j => decide (j ∈ ns)) c), I.laid (t' := tk) k (Nat.le_refl _) (setO_new R), rfl, q _ c hf hcn⟩
/-- sorted(set(e)), e a list of ints -/
def fSortSet : PyData → Option (List PyData)
  | .list ds => (intsOf ds).bind fun ns => if decide (ns.length < 64) then some ((sortU ns).map .int) else none
  | _ => none
theorem sortU_len (l : List Int) : (sortU l).length ≤ l.length := by
  have h : ∀ (x : Int) (l : List Int), (insU x l).length ≤ l.length + 1 := fun x l => by
    induction l with
    | nil => exact Nat.le_refl _
    | cons y r ih =>
      unfold insU
      split
      · rw [List.length_cons, List.length_cons]; omega
      · split <;> simp
  induction l with
  | nil => exact Nat.le_refl _
  | cons x r ih =>
    have := h x (sortU r)
    show (insU x (sortU r)).length ≤ r.length + 1
    omega
theorem sf_sortSet (hc : X.calm = true) (p1 : Pers M) (hms : X.mg "sorted" = none) (hmt : X.mg "set" = none) (ha : PE X a (rdG M X.K C W ma)) (hgs : Gl X "sorted" := by rfl) (hgt : Gl X "set" := by rfl)
    (he : starEach (a :: []) X.env = (false, eval a X.env) :: starEach [] X.env := by rfl) (hpl : (backTo pos2 (starEach [] X.env)).any (·.1) = false := by rfl)
    (he2 : starEach (.Call (.Name "set" p2) [a] [] pos2 :: []) X.env = (false, eval (.Call (.Name "set" p2) [a] [] pos2) X.env) :: starEach [] X.env := by rfl) (hpl2 : (backTo pos (starEach [] X.env)).any (·.1) = false := by rfl) :
    SF X C W (.Call (.Name "sorted" p) [.Call (.Name "set" p2) [a] [] pos2] [] pos) (mUnF fSortSet ma) :=
  PE.imp (pe_callB (cr_sortedSet hc) hgs hms PyProof.Rows.boot_sorted (pa_cons (pe_callTy (cr_setLI hc) hgt hmt PyProof.Rows.boot_set (pa_cons ha pa_nil he) (by decide) (by decide) he hpl) pa_nil he2) (by decide) (by decide) he2 hpl2) fun σ H Q ⟨Γ, env, ds, R, h⟩ => by
    refine ⟨Γ, env, ds, R, h.bind.imp fun d ds1 H1 e1 d1 q x hx => ?_⟩
    obtain ⟨z, hz, q⟩ := lift_some q
    have R1 := R.go e1 d1
    unfold fSortSet at hz
    split at hz
    · rename_i es
      obtain ⟨ns, k1, k2⟩ := Option.bind_eq_some_iff.mp hz
      obtain rfl := intsOf_eq k1
      split at k2
      · rename_i k3
        cases k2
        have k3 := of_decide_eq_true k3
        obtain ⟨l, us, rfl, hS, hl, hA⟩ := (p1.pk hx).list
        have eu := hA.ints_inv
        subst eu
        refine ⟨l, ns, rfl, SqL.of hS, by omega, fun p c hp hcn => ?_⟩
        have x1 : Ext Γ H1 (upd H1 p (SetO X.w p (fun j => decide (j ∈ ns)) c)) := ext_new hp
        have y1 := d1.new (o := SetO X.w p (fun j => decide (j ∈ ns)) c) hp
        refine ⟨p, _, c, rfl, upd_same, by omega, fun ns' p' h1 h2 h3 h4 => ?_⟩
        have en : ns' = sortU ns := pair_one h1 (sortU_pair ns) fun k => (h2 k).trans (by rw [sortU_mem]; exact decide_eq_true_iff)
        subst en
        have h5 : ((sortU ns).map V.int).length ≤ sizeLine := by have := sortU_len ns; rw [List.length_map, sizeLine_eq]; omega
        have R2 := R1.go x1 y1
        exact q _ (x1.trans (ext_new h4)) (y1.new h4) p' _ (R.none_back (e1.trans x1) y1 h4) upd_same h5 (DfAll.newx (DfAll.of_ints _) h4 y1)
      · cases k2
    · cases hz
/-! ### repr -/
/-- repr(x), x a list or a tuple; where no repr is under way -/
def isSeq : PyData → Bool
  | .list _ => true
  | .tuple _ => true
  | _ => false
def fRepr (d : PyData) : Option PyData := if isSeq d && d.showable && !d.hasDict && decide (d.depth ≤ 60) && short d.shown.length then some (.str d.shown) else none
def rReprD (K : PySem.W.Frag) : List V → Hp → VK → Prop := fun vs H Q => ∃ (a : Addr) (d : PyData), vs = [V.ref a] ∧ Dp K H (.ref a) d ∧ d.showable = true ∧ d.hasDict = false ∧ d.depth ≤ 60 ∧ d.shown.length ≤ sizeLine ∧ Q (.str d.shown) H
theorem cr_repr (hu : X.A.units + 65 < cLine) (hg : X.A.guards = some []) : CallR X (.builtin "repr") (rReprD X.K) := by
  intro pins s σ H vs us Q I r h
  obtain ⟨a, d, rfl, hd, h1, h2, h3, h4, q⟩ := h
  rw [Vals.ref1 r]
  obtain ⟨as, hr⟩ := Dp.reads I d _ _ hd (rfl : RelV (.ref a) (.ref a))
  exact repr_of_reads' hr h1 (fun z => by rw [h2] at z; cases z) hg (by omega) (fun _ _ e => e) (fun h' u tk hk => ⟨.str d.shown, H, I.kept (t' := tk) hk, ⟨u, rfl⟩, q⟩) h4
theorem un_repr : Un1 K (rReprD K) fRepr := Un1.same fun Γ σ H env x d z hx hf Q q => by
  unfold fRepr at hf
  split at hf
  · rename_i hc
    cases hf
    rw [Bool.and_eq_true, Bool.and_eq_true, Bool.and_eq_true, Bool.and_eq_true] at hc
    obtain ⟨⟨⟨⟨c1, c2⟩, c3⟩, c4⟩, c5⟩ := hc
    have c3 : d.hasDict = false := by cases w : d.hasDict with | false => rfl | true => rw [w] at c3; cases c3
    have fin : ∀ a, x = .ref a → rReprD K [x] H Q := fun a e => by
      subst e
      exact ⟨a, d, rfl, persP.dp hx, c2, c3, of_decide_eq_true c4, short_iff c5, q _ (.str _)⟩
    cases d with
    | list ds =>
      obtain ⟨a, us, e, _⟩ := hx.list
      exact fin a e
    | tuple ds =>
      obtain ⟨a, us, e, _⟩ := hx.tuple
      exact fin a e
    | _ => cases c1
  · cases hf
end
end DL

/-! DL13: list(range(..)), tuple(range(..)); the law's own def. -/
namespace DL
open PySem PySem.Spec L2
open PyProof.Rows hiding St

section
variable {X : Cx} {C : Exs} {W : WX} {K : PySem.W.Frag} {a b : Expr} {ma mb : ME PyData} {pos pos2 p p2 : Pos}
def smallI (j : Int) : Bool := decide (-1048576 ≤ j ∧ j < 1048576)
def mRgL1 (a : ME PyData) : ME (List PyData) := a.bind fun x => ME.lift (match x with | .int j => if smallI j then some (rangeD 0 j.toNat) else none | _ => none)
def mRgL2 (a b : ME PyData) : ME (List PyData) := a.bind fun x => b.bind fun y => ME.lift (match x, y with | .int i, .int j => if smallI i && smallI j then some (rangeD i (j - i).toNat) else none | _, _ => none)
theorem rgV_df {H : Hp} {g : Addr → Prop} (i j : Int) : DfAll K H g (rgV i j) (rangeD i (j - i).toNat) := by
  have h : ∀ l : List Nat, DfAll K H g (l.map fun k => V.int (i + (k : Nat))) (l.map fun (k : Nat) => PyData.int (i + (k : Int))) := fun l => by
    induction l with
    | nil => exact .nil
    | cons x r ih => exact .cons (.int _) ih
  exact h _
theorem rgV_short {i j : Int} (hi : smallI i = true) (hj : smallI j = true) : RgOk i j ∧ (rgV i j).length ≤ sizeLine := by
  have hi := of_decide_eq_true hi
  have hj := of_decide_eq_true hj
  refine ⟨⟨by omega, by omega, by omega, by omega, by omega⟩, ?_⟩
  rw [rgV_length, sizeLine_eq]
  omega
theorem sf_listRg1 (hc : X.calm = true) (hml : X.mg "list" = none) (hmr : X.mg "range" = none) (ha : SE X C W a ma) (hgl : Gl X "list" := by rfl) (hgr : Gl X "range" := by rfl) (na : starEach [a] X.env = (false, eval a X.env) :: starEach [] X.env := by rfl)
    (na2 : starEach [.Call (.Name "range" p2) [a] [] pos2] X.env = (false, eval (.Call (.Name "range" p2) [a] [] pos2) X.env) :: starEach [] X.env := by rfl) : SF X C W (.Call (.Name "list" p) [.Call (.Name "range" p2) [a] [] pos2] [] pos) (mRgL1 ma) :=
  PE.imp (pe_listRg hc hgl hml (prg_1 hgr hmr ha na) na2) fun σ H Q ⟨Γ, env, ds, R, h⟩ => by
    refine ⟨Γ, env, ds, R, h.bind.imp fun d ds1 H1 e1 d1 q x hx => ?_⟩
    obtain ⟨z, hz, q⟩ := lift_some q
    cases d with
    | int j =>
      cases hx
      dsimp only at hz
      split at hz
      · rename_i hj
        cases hz
        obtain ⟨k1, k2⟩ := rgV_short (i := 0) (by decide) hj
        refine ⟨j, rfl, k1, fun r hr => q _ (ext_new hr) (d1.new hr) r _ (R.none_back e1 d1 hr) upd_same k2 (DfAll.newx ?_ hr d1)⟩
        have z := rgV_df (K := X.K) (H := H1) (g := gd Γ σ env) 0 j
        rw [Int.sub_zero] at z
        exact z
      · cases hz
    | _ => cases hz
theorem se_tupRg1 (hc : X.calm = true) (hml : X.mg "tuple" = none) (hmr : X.mg "range" = none) (ha : SE X C W a ma) (hgl : Gl X "tuple" := by rfl) (hgr : Gl X "range" := by rfl) (na : starEach [a] X.env = (false, eval a X.env) :: starEach [] X.env := by rfl)
    (na2 : starEach [.Call (.Name "range" p2) [a] [] pos2] X.env = (false, eval (.Call (.Name "range" p2) [a] [] pos2) X.env) :: starEach [] X.env := by rfl) : SE X C W (.Call (.Name "tuple" p) [.Call (.Name "range" p2) [a] [] pos2] [] pos) (mTup (mRgL1 ma)) :=
  PE.imp (pe_tupRg hc hgl hml (prg_1 hgr hmr ha na) na2) fun σ H Q ⟨Γ, env, ds, R, h⟩ => by
    refine ⟨Γ, env, ds, R, h.bind.bind.imp fun d ds1 H1 e1 d1 q x hx => ?_⟩
    obtain ⟨z, hz, q⟩ := lift_some q
    cases d with
    | int j =>
      cases hx
      dsimp only at hz
      split at hz
      · rename_i hj
        cases hz
        obtain ⟨k1, k2⟩ := rgV_short (i := 0) (by decide) hj
        refine ⟨j, rfl, k1, fun r hr => ?_⟩
        obtain ⟨z, hz, q⟩ := lift_some (q H1 Ext.refl d1)
        split at hz
        · cases hz
          have w := rgV_df (K := X.K) (H := H1) (g := gd Γ σ env) 0 j
          rw [Int.sub_zero] at w
          obtain ⟨x1, x2, x3⟩ := new_tup (R.go e1 d1) w k2 hr
          exact q _ x1 x2 _ x3
        · cases hz
      · cases hz
    | _ => cases hz
theorem sf_listRg2 (hc : X.calm = true) (hml : X.mg "list" = none) (hmr : X.mg "range" = none) (ha : SE X C W a ma) (hb : SE X C W b mb) (hgl : Gl X "list" := by rfl) (hgr : Gl X "range" := by rfl) (na : starEach [a, b] X.env = (false, eval a X.env) :: starEach [b] X.env := by rfl)
    (nb : starEach [b] X.env = (false, eval b X.env) :: starEach [] X.env := by rfl) (hpl : (backTo pos2 (starEach [b] X.env)).any (·.1) = false := by rfl)
    (na2 : starEach [.Call (.Name "range" p2) [a, b] [] pos2] X.env = (false, eval (.Call (.Name "range" p2) [a, b] [] pos2) X.env) :: starEach [] X.env := by rfl) : SF X C W (.Call (.Name "list" p) [.Call (.Name "range" p2) [a, b] [] pos2] [] pos) (mRgL2 ma mb) :=
  PE.imp (pe_listRg hc hgl hml (prg_2 hgr hmr ha hb na nb hpl) na2) fun σ H Q ⟨Γ, env, ds, R, h⟩ => by
    refine ⟨Γ, env, ds, R, h.bind.imp fun d ds1 H1 e1 d1 q x hx => ⟨Γ, env, ds1, R.go e1 d1, q.bind.imp fun e ds2 H2 e2 d2 q y hy => ?_⟩⟩
    obtain ⟨z, hz, q⟩ := lift_some q
    cases d with
    | int i =>
      cases e with
      | int j =>
        cases hx
        cases hy
        dsimp only at hz
        split at hz
        · rename_i hj
          cases hz
          rw [Bool.and_eq_true] at hj
          obtain ⟨k1, k2⟩ := rgV_short hj.1 hj.2
          exact ⟨i, j, rfl, rfl, k1, fun r hr => q _ (ext_new hr) (d2.new hr) r _ (R.none_back e1 d1 ((R.go e1 d1).none_back e2 d2 hr)) upd_same k2 (DfAll.newx (rgV_df i j) hr d2)⟩
        · cases hz
      | _ => cases hz
    | _ => cases hz
end

/-! ### the law's own def, called from the claim's caller: there no repr is under way -/
section
variable {P : Program} {w : World} {K : PySem.W.Frag} {mg mb : Str → Option Value}
def noX : XK := fun _ _ _ => False
/-- what is wanted of the law's body -/
def LawBody (P : Program) (w : World) (K : PySem.W.Frag) (mg : Str → Option Value) (k : Nat) (st : Stmt) (N : List Str) (fa : Addr) (C : Exs) (m : MS) : Prop :=
  ∀ (base : Heap) (cdv : Value) (s : Shared) (H : Hp), K.In base → base.Ns mainGlobals mg → Room k (callerA.deeper (envOfC "law" (defScope st) s.heap.objs.size fa cdv)) → SSs (cxOf (L2.CX P w) P w K mg base N "law" (defScope st) fa cdv callerA [] s H noX) C W0 false (defBody st) m
theorem law_run {st : Stmt} {N : List Str} {k : Nat} {fa a : Addr} {fd : FuncData} {C : Exs} {m : MS} {base : Heap} {s : Shared} {H : Hp} {ns : List Int} (F : Fun K "law" "law" st fa fd) (S : FnScope N ["script"] (defScope st)) (hbind : ∀ (s : Shared) (u : Value), BindsTo s fd ⟨[u], []⟩ [("script", u)]) (hr : Room (k + 1) callerA)
    (hB : LawBody P w K mg k st N fa C m) (e0 : Env0 P w K mg base callerA [] s H) (hbs : base.Ns mainGlobals mg) (hS : ScrAt K H a (ns.map V.int)) (hn : ns.length ≤ 63) (hm : runB N.length 1 false m [.scr ns] none = some (.ok (.bool true), none)) :
    codeAny (model P w) callerA (.call (.ref fa) ⟨[.ref a], []⟩) (CR (L2.CX P w) [] P w H s (fun v _ => v = .bl true) noX) s := by
  obtain ⟨oc, od, kV, doc, pm, an, cdv, ct, osl, efd, lk, hcd⟩ := F.ex
  subst efd
  have inK : K.In s.heap := e0.mod.kin.keeps fun b o e => (e0.bs b o e).1
  have noL : s.heap.NoLimit := e0.mod.nolimit.keeps fun b o e => (e0.bs b o e).1
  have par : ∀ y ∈ [(("script" : Str), Value.ref a)], (defScope st).names.lookup y.1 = some .local ∨ ((defScope st).names.lookup y.1 = some .cell ∧ ((cellsFrom (s.heap.objs.size + 1) (defScope st).names []).lookup y.1).isSome = true) := fun y hy => by
    obtain rfl := List.mem_singleton.mp hy
    exact (S.par "script" List.mem_cons_self).imp id fun q => ⟨q, PySem.W.cellsFrom_some _ _ _ (.inl q)⟩
  refine codeAny_call_function hr.depth (inK _ _ lk) rfl S.co S.gen rfl (PySem.W.codeRec_of inK hcd) (hbind s (.ref a) _ _ _ _ ?_); refine wpAny_newFunctionEnv_cells S.kind par fun env he s1 x => ?_
  subst he
  refine ⟨noL.keeps x.toInCall.keep, codeAny_func ?_⟩
  have I := inv_start (CX := L2.CX P w) (E := noX) (ps := ["script"]) (us := [Value.ref a]) (vs := [V.ref a]) S hr.hd e0 rfl (.cons rfl .nil) x
  have rel := rel_start (K := K) (Γ := ⟨fun _ => True, H, none, []⟩) (H := H) (ds := none) (vs := [V.ref a]) (args := [.scr ns]) (N := N) rfl rfl (fun _ _ => trivial) trivial (.cons ⟨a, rfl, hS, hn⟩ .nil)
  have body := hB base cdv s H e0.mod.kin hbs (hr.deeper _)
  refine wpAny_mono (body.run [] s1 (start N [V.ref a]) H { nx := fun _ H' => (fun v _ => v = V.bl true : VK) .non H', rt := fun v _ => v = V.bl true } I ⟨_, _, _, rel, ?_⟩) (fun fl s' hs => ?_) fun e s' hs => hs
  · show Aft2 K C W0 false _ _ (m ([.scr ns] ++ List.replicate (N.length - 1) .un) none)
    unfold runB at hm
    rcases q : m ([.scr ns] ++ List.replicate (N.length - 1) .un) none with _ | ⟨fl, ds'⟩
    · rw [q] at hm; cases hm
    · rw [q] at hm
      cases fl with
      | rt d =>
        cases hm
        try rw [q]
        refine (fun v H' (r : RetR false K _ H' none v (.bool true)) => ?_ : ∀ (v : V) (H' : Hp), RetR false K _ H' none v (.bool true) → v = V.bl true)
        obtain ⟨_, _, r⟩ := r
        cases r
        rfl
      | nx e => dsimp only at hm; rw [if_neg Bool.false_ne_true] at hm; cases hm
      | bk e => cases hm
      | ct e => cases hm
      | ex x e => cases hm
  · cases fl with
    | ret u =>
      obtain ⟨v, σ', H', J, rv, q⟩ := hs
      exact ⟨v, H', J.os, J.bare, J.base, J.hok, rv, q⟩
    | next =>
      obtain ⟨σ', H', J, q⟩ := hs
      cases q
    | brk => obtain ⟨_, _, _, q⟩ := hs; exact q.elim
    | cont => obtain ⟨_, _, _, q⟩ := hs; exact q.elim
theorem hid_ns {h : Heap} {H : Hp} {b : Addr} {m : Str → Option Value} (x : h.Ns b m) (hn : ∀ (c : Addr) (o : Obj) (es : Array DictEntry) (ep : Nat), h.get? c = some o → o.data = .dict es ep → H c = none) : (hidT h H).Ns b m := by
  obtain ⟨o, es, ep, e, d, r⟩ := x
  exact ⟨o, es, ep, hidT_get e (hn b o es ep e d), d, r⟩
/-- THE END: the law's def, from the caller; nothing is tracked but the script -/
theorem law_go {st : Stmt} {N : List Str} {k : Nat} {fa a : Addr} {fd : FuncData} {C : Exs} {m : MS} {s : Shared} {vs : List Value} {ns : List Int} (KX : K.In s.heap) (hns : s.heap.Ns mainGlobals mg) (hb : s.heap.Ns builtinsNs mb) (hbb : ∀ x : Str, x ≠ "__name__" → mb x = bootBuiltins x) (hlim : s.heap.NoLimit) (hg : s.gens = #[])
    (ha : s.heap.get? a = some { cls := .type "list", data := .seq vs.toArray }) (hi : IntsAre vs ns) (hn : ns.length ≤ 63) (F : Fun K "law" "law" st fa fd) (S : FnScope N ["script"] (defScope st)) (hbind : ∀ (s : Shared) (u : Value), BindsTo s fd ⟨[u], []⟩ [("script", u)]) (hr : Room (k + 1) callerA)
    (hB : LawBody P w K mg k st N fa C m) (hm : runB N.length 1 false m [.scr ns] none = some (.ok (.bool true), none)) :
    codeAny (model P w) callerA (.call (.ref fa) ⟨[.ref a], []⟩) (fun r s' => r = .ok (.ret (.bool true)) ∧ OldK s.heap s'.heap ∧ s'.os = s.os ∧ AllBare s'.gens) s := by
  have rv := vals_ints hi
  have lv := hi.length
  have z63 : (63 : Nat) ≤ sizeLine := by rw [sizeLine_eq]; decide
  have go : ∀ H : Hp, (∀ b, H b = none ∨ (b = a ∧ K.lookup a = none ∧ ∃ o, H b = some (.frz o (.lst (ns.map V.int))))) → ScrAt K H a (ns.map V.int) → HOk P w H s.heap → codeAny (model P w) callerA (.call (.ref fa) ⟨[.ref a], []⟩) (fun r s' => r = .ok (.ret (.bool true)) ∧ OldK s.heap s'.heap ∧ s'.os = s.os ∧ AllBare s'.gens) s := by
    intro H hH hS hok
    have dn : ∀ (c : Addr) (o : Obj) (es : Array DictEntry) (ep : Nat), s.heap.get? c = some o → o.data = .dict es ep → H c = none := fun c o es ep e d => by
      rcases hH c with q | ⟨rfl, _, _⟩
      · exact q
      · rw [ha] at e
        cases e
        cases d
    have inB : K.In (hidT s.heap H) := fun b o e => by
      refine hidT_get (KX b o e) ?_
      rcases hH b with q | ⟨rfl, q, _⟩
      · exact q
      · rw [q] at e; cases e
    have lim : (hidT s.heap H).NoLimit := by
      obtain ⟨mc, h1, h2⟩ := hlim
      exact ⟨mc, hid_ns h1 dn, h2⟩
    have e0 : Env0 P w K mg (hidT s.heap H) callerA [] s H := ⟨rfl, ⟨inB, hid_ns hns dn, ⟨mb, hid_ns hb dn, hbb⟩, lim⟩, fun b o e => of_hidT e, Nat.le_of_eq (hidT_size _ _), trivial, (fun b z => nomatch z), hok, AllBare.of_eq hg⟩
    refine codeAny_mono (law_run F S hbind hr hB e0 (hid_ns hns dn) hS hn hm) fun r s' h => ?_
    rcases r with e | fl
    · obtain ⟨_, _, _, _, _, _, _, _, _, _, _, _, q⟩ := h
      exact q.elim
    · cases fl with
      | ret u =>
        obtain ⟨v, H', os, bare, un, hok', r, q⟩ := h
        have q : v = .bl true := q
        subst q
        obtain rfl : u = Value.bool true := r
        refine ⟨rfl, OldK.of_keep fun b o e => ?_, os, bare⟩
        rcases hH b with q | ⟨rfl, _, ob, q⟩
        · exact un.keep b o e q (fun z => nomatch z) (by simp)
        · obtain ⟨e1, _⟩ := hok b _ q
          obtain ⟨e2, _⟩ := hok' b _ (un.frzs b ob _ q)
          rw [e] at e1
          cases e1
          exact e2
      | next => exact h.elim
      | brk => exact h.elim
      | cont => exact h.elim
  cases hk : K.lookup a with
  | some o =>
    have e := KX a o hk
    rw [ha] at e
    cases e
    exact go (fun _ => none) (fun _ => .inl rfl) (.inr ⟨_, vs.toArray, _, hk, rfl, rfl, rfl, by rw [List.size_toArray, lv]; omega, by simpa using rv⟩) fun b u z => nomatch z
  | none =>
    refine go (fun b => if b = a then some (.frz { cls := .type "list", data := .seq vs.toArray } (.lst (ns.map V.int))) else none) (fun b => ?_) (.inl ⟨_, if_pos rfl⟩) fun b u z => ?_
    · by_cases q : b = a
      · exact .inr ⟨q, hk, _, if_pos q⟩
      · exact .inl (if_neg q)
    · by_cases q : b = a
      · have z2 := (if_pos q).symm.trans z
        cases z2
        subst q
        exact ⟨ha, by rw [List.length_map]; omega, vs, _, rv, ha⟩
      · have z2 := (if_neg q).symm.trans z
        cases z2
end
/-- what the text gives: the law's def, its body's meaning, and that it answers True -/
structure LawTxt (P : Program) (w : World) (K : PySem.W.Frag) (mg : Str → Option Value) (fa : Addr) (k : Nat) (C : Exs) (st : Stmt) (N : List Str) (fd : FuncData) (m : MS) : Prop where
  fn : Fun K "law" "law" st fa fd
  sc : FnScope N ["script"] (defScope st)
  bind : ∀ (s : Shared) (u : Value), BindsTo s fd ⟨[u], []⟩ [("script", u)]
  body : LawBody P w K mg k st N fa C m
  ans : ∀ ns : List Int, ns.length ≤ 63 → runB N.length 1 false m [.scr ns] none = some (.ok (.bool true), none)
theorem walk_law {l : PySem.W.OpenLaw} {k : Nat} {q : Program} {loose : List Str} {XP : (Str → Option Value) → Heap → Prop} {YP : World → Heap → Prop} {d : DefRec} {K : Params → PySem.W.Frag} (hn : l.most = some 63) (hdf : d.params.defaults = []) (hr : Room (k + 1) callerA) (hY : ∀ (w : World) (h : Heap), YP w h → (K w.params).In h)
    (F : ∀ (w : World) (mg : Str → Option Value) (fa : Addr) (h : Heap), (K w.params).In h → h.Ns mainGlobals mg → mg d.name = some (.ref fa) → ∃ C st N fd m, LawTxt l.prog w (K w.params) mg fa k C st N fd m) : PySem.W.WalkO q loose XP YP l.row.toRowW d [] (fun f vs => PySem.call f vs) := by
  refine Att.attach_call hn hdf fun w s₀ s₁ mg mb fa o pm cd doc a vs ns G Y ho hd hcd hmg hobj hints hlen hg => ?_
  obtain ⟨C, st, N, fd, m, T⟩ := F w mg fa _ (hY w _ Y) G.T.g hmg
  exact law_go (hY w _ Y) G.T.g G.T.b G.T.builtins G.T.nolimit hg hobj hints hlen T.fn T.sc T.bind hr T.body (T.ans ns hlen)
end DL

/-! DL14: a, b = e1, e2. -/
namespace DL
open PySem PySem.Spec L2
open PyProof.Rows hiding St

def putS (i j : Nat) (x y : Sl) : MS := fun env ds => match (put i x env).bind (put j y) with
  | some env' => some (.nx env', ds)
  | none => none
def mParDD (i j : Nat) (a b : ME PyData) : MS := exS a fun x => exS b fun y => putS i j (.d x) (.d y)
def mParLD (i j : Nat) (a : ME (List PyData)) (b : ME PyData) : MS := exS a fun x => exS b fun y => putS i j (.l x) (.d y)
def mParDL (i j : Nat) (a : ME PyData) (b : ME (List PyData)) : MS := exS a fun x => exS b fun y => putS i j (.d x) (.l y)
def mParLL (i j : Nat) (a b : ME (List PyData)) : MS := exS a fun x => exS b fun y => putS i j (.l x) (.l y)
section
variable {X : Cx} {C : Exs} {W : WX} {fr : Bool} {K : PySem.W.Frag} {Γ : Gm} {σ : St} {H H1 : Hp} {env : Ev} {ds ds1 : DS}
theorem putS_aft {D : Ends} {i j : Nat} {x y : Sl} (h : Aft2 K C W fr Γ D (putS i j x y env ds)) : ∃ env1 env2, put i x env = some env1 ∧ put j y env1 = some env2 ∧ ∀ σ' H', Rel K Γ σ' H' env2 ds → D.nx σ' H' := by
  unfold putS at h
  cases h1 : put i x env with
  | none => rw [h1] at h; exact h.elim
  | some env1 =>
    rw [h1] at h
    dsimp only [Option.bind] at h
    cases h2 : put j y env1 with
    | none => rw [h2] at h; exact h.elim
    | some env2 => rw [h2] at h; exact ⟨env1, env2, rfl, h2, h⟩
theorem Aft.blk {α : Type} {Hb : Hp} {E : Addr} {r : Rz α} {P : α → DS → Hp → Prop} (h : Aft K C W Γ σ H r P) : Aft K C W (Γ.blk σ env Hb E) σ H r P := by
  unfold Aft at h ⊢
  rcases r with _ | ⟨a | x, ds⟩
  · exact h
  · exact fun H' e d => h H' e d.unblk
  · exact fun cls dd H' e d => h cls dd H' e d.unblk
/-- what is good in the ground apart from p is good behind the storing of p -/
theorem blk_good {Hb : Hp} {p a : Addr} {i : Nat} {xs : List PyData} {env1 : Ev} (hp : put i (.l xs) env = some env1) (hi : i < σ.length) (h : gd (Γ.blk σ env Hb p) σ env a) : gd Γ (σ.set i (some (.ref p))) env1 a := by
  obtain ⟨h1, h2, rfl⟩ := put_some hp
  refine ⟨h.1.1, fun ⟨j, x, q1, q2, q3⟩ => ?_, h.2.2⟩
  by_cases e : i = j
  · subst e
    rw [List.getElem?_set_self hi] at q3
    cases q3
    exact h.1.2 rfl
  · rw [List.getElem?_set_ne e] at q1 q3
    exact h.2.1 ⟨j, x, q1, q2, q3⟩
variable {i j : Nat} {x y : Str} {a b : Expr} {px py pt pos : Pos} {kt k2 : Nat} {pt2 : Pos} {ma mb : ME PyData} {fa fb : ME (List PyData)}
theorem ss_parDD (i j : Nat) (hN : X.N.Nodup) (ha : SE X C W a ma) (hb : SE X C W b mb) (hc : X.calm = true := by rfl) (hi : X.N[i]? = some x := by rfl) (hj : X.N[j]? = some y := by rfl) (hij : i ≠ j := by decide) (hx : X.env.scope.names.lookup x = some .local := by rfl) (hy : X.env.scope.names.lookup y = some .local := by rfl)
    (he : starEach (a :: [b]) X.env = (false, eval a X.env) :: starEach [b] X.env := by rfl) (he2 : starEach (b :: []) X.env = (false, eval b X.env) :: starEach [] X.env := by rfl)
    (hw : swappedStores [.Tuple [.Name x px, .Name y py] kt pt] (.Tuple [a, b] k2 pt2) X.env = pure (some [x, y]) := by rfl) (hs : swapsWithSole [.Tuple [.Name x px, .Name y py] kt pt] (.Tuple [a, b] k2 pt2) pos.line X.env = pure false := by rfl) :
    SS X C W fr (.Assign [.Tuple [.Name x px, .Name y py] kt pt] (.Tuple [a, b] k2 pt2) pos) (mParDD i j ma mb) :=
  PS.imp (ps_par hc hN hi hj hij hx hy (pa_cons ha (pa_cons hb pa_nil he2) he) hw hs) fun D σ H ⟨Γ, env, ds, R, h⟩ => by
    refine ⟨Γ, env, ds, R, (exS_aft R h).imp fun d ds1 H1 e1 d1 q v hv => ?_⟩
    have R1 := R.go e1 d1
    refine ⟨Γ, env, ds1, R1, (exS_aft R1 q).imp fun e ds2 H2 e2 d2 q w hw => ?_⟩
    have R2 := R1.go e2 d2
    obtain ⟨env1, env2, p1, p2, q⟩ := putS_aft q
    refine ⟨v, w, rfl, q _ _ ?_⟩
    have S1 := R2.set_d (Df.ext e2 d1 hv) p1
    refine S1.set_d ((show Df X.K H2 (gd Γ σ env) w e from hw).mono (fun a u z k => ⟨?_, k⟩) fun _ _ z => z) p2
    obtain ⟨_, _, rfl⟩ := put_some p1
    exact gd_set_d rfl z
theorem ss_parDL (i j : Nat) (hN : X.N.Nodup) (ha : SE X C W a ma) (hb : SF X C W b fb) (hc : X.calm = true := by rfl) (hi : X.N[i]? = some x := by rfl) (hj : X.N[j]? = some y := by rfl) (hij : i ≠ j := by decide) (hx : X.env.scope.names.lookup x = some .local := by rfl) (hy : X.env.scope.names.lookup y = some .local := by rfl)
    (he : starEach (a :: [b]) X.env = (false, eval a X.env) :: starEach [b] X.env := by rfl) (he2 : starEach (b :: []) X.env = (false, eval b X.env) :: starEach [] X.env := by rfl)
    (hw : swappedStores [.Tuple [.Name x px, .Name y py] kt pt] (.Tuple [a, b] k2 pt2) X.env = pure (some [x, y]) := by rfl) (hs : swapsWithSole [.Tuple [.Name x px, .Name y py] kt pt] (.Tuple [a, b] k2 pt2) pos.line X.env = pure false := by rfl) :
    SS X C W fr (.Assign [.Tuple [.Name x px, .Name y py] kt pt] (.Tuple [a, b] k2 pt2) pos) (mParDL i j ma fb) :=
  PS.imp (ps_par hc hN hi hj hij hx hy (pa_cons ha (pa_cons hb pa_nil he2) he) hw hs) fun D σ H ⟨Γ, env, ds, R, h⟩ => by
    refine ⟨Γ, env, ds, R, (exS_aft R h).imp fun d ds1 H1 e1 d1 q v hv => ?_⟩
    have R1 := R.go e1 d1
    refine ⟨Γ, env, ds1, R1, (exS_aft R1 q).imp fun e ds2 H2 e2 d2 q p us g1 g2 g3 g4 => ?_⟩
    obtain ⟨env1, env2, p1, p2, q⟩ := putS_aft q
    refine ⟨v, _, rfl, q _ _ ?_⟩
    have S1 := R1.set_d hv p1
    refine S1.set_l e2 d2 g1 g2 g3 (g4.mono (fun a u z k => ⟨⟨?_, z.2⟩, k⟩) fun _ _ z => z) p2
    obtain ⟨_, _, rfl⟩ := put_some p1
    exact gd_set_d rfl z.1
theorem ss_parLD (i j : Nat) (hN : X.N.Nodup) (ha : SF X C W a fa) (hb : SE X C W b mb) (hc : X.calm = true := by rfl) (hi : X.N[i]? = some x := by rfl) (hj : X.N[j]? = some y := by rfl) (hij : i ≠ j := by decide) (hx : X.env.scope.names.lookup x = some .local := by rfl) (hy : X.env.scope.names.lookup y = some .local := by rfl)
    (he : starEach (a :: [b]) X.env = (false, eval a X.env) :: starEach [b] X.env := by rfl) (he2 : starEach (b :: []) X.env = (false, eval b X.env) :: starEach [] X.env := by rfl)
    (hw : swappedStores [.Tuple [.Name x px, .Name y py] kt pt] (.Tuple [a, b] k2 pt2) X.env = pure (some [x, y]) := by rfl) (hs : swapsWithSole [.Tuple [.Name x px, .Name y py] kt pt] (.Tuple [a, b] k2 pt2) pos.line X.env = pure false := by rfl) :
    SS X C W fr (.Assign [.Tuple [.Name x px, .Name y py] kt pt] (.Tuple [a, b] k2 pt2) pos) (mParLD i j fa mb) :=
  PS.imp (ps_par hc hN hi hj hij hx hy (pa_cons ha (pa_cons hb pa_nil he2) he) hw hs) fun D σ H ⟨Γ, env, ds, R, h⟩ => by
    refine ⟨Γ, env, ds, R, (exS_aft R h).imp fun d ds1 H1 e1 d1 q p us g1 g2 g3 g4 => ?_⟩
    have R1 := R.go e1 d1
    have RB : Rel X.K (Γ.blk σ env H1 p) σ H1 env ds1 := R.blk (vs := []) g1 e1 d1 ⟨_, g2⟩ rfl
    refine ⟨_, env, ds1, RB, (exS_aft R1 q).blk.imp fun e ds2 H2 e2 d2 q w hw => ?_⟩
    obtain ⟨env1, env2, p1, p2, q⟩ := putS_aft q
    refine ⟨_, w, rfl, q _ _ ?_⟩
    have S1 := (R.set_l e1 d1 g1 g2 g3 g4 p1).go e2 d2.unblk
    exact S1.set_d ((show Df X.K H2 (gd (Γ.blk σ env H1 p) σ env) w e from hw).mono (fun a u z k => ⟨blk_good p1 (by rw [R.len]; exact (put_some p1).2.1) z, k⟩) fun _ _ z => z) p2
theorem ss_parLL (i j : Nat) (hN : X.N.Nodup) (ha : SF X C W a fa) (hb : SF X C W b fb) (hc : X.calm = true := by rfl) (hi : X.N[i]? = some x := by rfl) (hj : X.N[j]? = some y := by rfl) (hij : i ≠ j := by decide) (hx : X.env.scope.names.lookup x = some .local := by rfl) (hy : X.env.scope.names.lookup y = some .local := by rfl)
    (he : starEach (a :: [b]) X.env = (false, eval a X.env) :: starEach [b] X.env := by rfl) (he2 : starEach (b :: []) X.env = (false, eval b X.env) :: starEach [] X.env := by rfl)
    (hw : swappedStores [.Tuple [.Name x px, .Name y py] kt pt] (.Tuple [a, b] k2 pt2) X.env = pure (some [x, y]) := by rfl) (hs : swapsWithSole [.Tuple [.Name x px, .Name y py] kt pt] (.Tuple [a, b] k2 pt2) pos.line X.env = pure false := by rfl) :
    SS X C W fr (.Assign [.Tuple [.Name x px, .Name y py] kt pt] (.Tuple [a, b] k2 pt2) pos) (mParLL i j fa fb) :=
  PS.imp (ps_par hc hN hi hj hij hx hy (pa_cons ha (pa_cons hb pa_nil he2) he) hw hs) fun D σ H ⟨Γ, env, ds, R, h⟩ => by
    refine ⟨Γ, env, ds, R, (exS_aft R h).imp fun d ds1 H1 e1 d1 q p us g1 g2 g3 g4 => ?_⟩
    have R1 := R.go e1 d1
    have RB : Rel X.K (Γ.blk σ env H1 p) σ H1 env ds1 := R.blk (vs := []) g1 e1 d1 ⟨_, g2⟩ rfl
    refine ⟨_, env, ds1, RB, (exS_aft R1 q).blk.imp fun e ds2 H2 e2 d2 q p' us' f1 f2 f3 f4 => ?_⟩
    obtain ⟨env1, env2, p1, p2, q⟩ := putS_aft q
    refine ⟨_, _, rfl, q _ _ ?_⟩
    have S1 := R.set_l e1 d1 g1 g2 g3 g4 p1
    exact S1.set_l e2 d2.unblk f1 f2 f3 (f4.mono (fun a u z k => ⟨⟨blk_good p1 (by rw [R.len]; exact (put_some p1).2.1) z.1, z.2⟩, k⟩) fun _ _ z => z) p2
end
/-! ### the text's parts -/
/-- an error's class catches itself -/
theorem exm_own {K : PySem.W.Frag} {c : Addr} (hb : PySem.W.subIn K (.ref c) (.type "BaseException") = some true) (hi : PySem.W.isClsIn K c = true) (ht : PySem.W.typeIn K (.ref c) = some (.type "type")) (hs : PySem.W.subIn K (.ref c) (.ref c) = some true) : PySem.W.exmOne K (.ref c) (.ref c) = some true := by
  have a1 : (PySem.W.subIn K (.ref c) (.type "BaseException") == some true) = true := by rw [hb]; rfl
  have a2 : ((PySem.W.clsIn K c).isSome && PySem.W.typeIn K (.ref c) == some (.type "type")) = true := by
    rw [ht, show (PySem.W.clsIn K c).isSome = true from hi]
    rfl
  show (if _ then (if _ then PySem.W.subIn K (.ref c) (.ref c) else none) else none) = some true
  rw [if_pos a1, if_pos a2, hs]
/-- a def of the text -/
structure Dn (K : PySem.W.Frag) (mg : Str → Option Value) (x : Str) (st : Stmt) (ps : List Str) (f : Addr) (fd : FuncData) : Prop where
  fn : Fun K x x st f fd
  mg : mg x = some (.ref f)
  kp : PySem.W.keepIn K (.ref f) = true
  bd : Binds K fd ps []
/-- an error without a field of its own -/
structure Xn (K : PySem.W.Frag) (mg : Str → Option Value) (x : Str) (C : Exs) : Prop where
  g : mg x = some (.ref C.m)
  q : PySem.W.excIn K C.m [.type "ValueError", .type "Exception", .type "BaseException", .type "object"] "ValueError.__new__" = true
  kp : PySem.W.keepIn K (.ref C.m) = true
  r : ∀ {X : Cx}, X.K = K → Raises X (.ref C.m)
  ex : ∀ y cls d H, ExR C y cls d H → PySem.W.exmOne K cls (.ref C.m) = some true
/-- the rule for a def, its meaning by name -/
theorem okD2 {P : Program} {w : World} {K : PySem.W.Frag} {mg : Str → Option Value} {base : Heap} {x qual : Str} {st : Stmt} {fa : Addr} {fd : FuncData} {N ps : List Str} {k n p : Nat} {C : Exs} {fr : Bool} {m : MS} {f : FS} (hf : f = runB n p fr m) (hn : N.length = n) (hp : ps.length = p) (F : Fun K x qual st fa fd) (S : FnScope N ps (defScope st))
    (hbody : ∀ (cdv : Value) (A : Around) (outer : List Env) (s : Shared) (H : Hp) (E : XK), Room k (A.deeper (envOfC qual (defScope st) s.heap.objs.size fa cdv)) → SSs (cxOf (L2.CX P w) P w K mg base N qual (defScope st) fa cdv A outer s H E) C (fun cls d _ H' => E cls d H') fr (defBody st) m) :
    FnOk P w K mg base (L2.CX P w) (k + 1) fa fd ps (spD K C fr p f) := by
  subst hf hn hp
  exact DL.Fun.okD F S hbody
end DL

/-! DL15: meanings evaluated. -/
namespace DL
open PySem PySem.Spec L2
open PyProof.Rows hiding St

section
variable {α β : Type} {env env' : Ev} {ds ds' : DS}
@[simp] theorem rb_ok (x : α) (f : α → DS → Rz β) : Rz.bind (some (.ok x, ds)) f = f x ds := rfl
@[simp] theorem rb_exc (x : Exn) (f : α → DS → Rz β) : Rz.bind (some (.exc x, ds)) f = some (.exc x, ds) := rfl
@[simp] theorem rb_none (f : α → DS → Rz β) : Rz.bind none f = none := rfl
@[simp] theorem lift_ok (x : α) : ME.lift (some x) env ds = some (.ok x, ds) := rfl
@[simp] theorem lift_no : ME.lift (none : Option α) env ds = none := rfl
@[simp] theorem mbind_ev (a : ME α) (f : α → ME β) : ME.bind a f env ds = (a env ds).bind fun x ds => f x env ds := rfl
@[simp] theorem mpure_ev (x : α) : ME.pure x env ds = some (.ok x, ds) := rfl
@[simp] theorem mC_ev (d : PyData) : mC d env ds = some (.ok d, ds) := rfl
@[simp] theorem mV_ev (i : Nat) : mV i env ds = (match env[i]? with | some (.d x) => some (.ok x, ds) | _ => none) := rfl
@[simp] theorem mVp_ev (i : Nat) : mVp i env ds = (match env[i]? with | some (.d x) => some (.ok x, ds) | some (.l xs) => some (.ok (.list xs), ds) | some (.lk xs) => some (.ok (.list xs), ds) | _ => none) := rfl
@[simp] theorem mF_ev (a : ME (List PyData)) : mF a env ds = (a env ds).bind fun xs ds => some (.ok (.list xs), ds) := rfl
@[simp] theorem mOp_ev (f : PyData → PyData → Option PyData) (a b : ME PyData) : mOp f a b env ds = (a env ds).bind fun x ds => (b env ds).bind fun y ds => ME.lift (f x y) env ds := rfl
@[simp] theorem mUn_ev (f : PyData → Option PyData) (a : ME PyData) : mUn f a env ds = (a env ds).bind fun x ds => ME.lift (f x) env ds := rfl
@[simp] theorem mUnF_ev (f : PyData → Option (List PyData)) (a : ME PyData) : mUnF f a env ds = (a env ds).bind fun x ds => ME.lift (f x) env ds := rfl
@[simp] theorem mTst_ev (a : ME PyData) : mTst a env ds = (a env ds).bind fun x ds => ME.lift (match x with | .bool b => some b | _ => none) env ds := rfl
@[simp] theorem mB_ev (a : ME Bool) : mB a env ds = (a env ds).bind fun b ds => some (.ok (.bool b), ds) := rfl
@[simp] theorem mAnd_ev (a b : ME Bool) : mAnd a b env ds = (a env ds).bind fun x ds => (if x then b else ME.pure false) env ds := rfl
@[simp] theorem mOr_ev (a b : ME Bool) : mOr a b env ds = (a env ds).bind fun x ds => (if x then ME.pure true else b) env ds := rfl
@[simp] theorem mNot_ev (a : ME Bool) : mNot a env ds = (a env ds).bind fun x ds => some (.ok (!x), ds) := rfl
@[simp] theorem mIf_ev (c : ME Bool) (a b : ME α) : mIf c a b env ds = (c env ds).bind fun x ds => (if x then a else b) env ds := rfl
@[simp] theorem mNil_ev : mNil env ds = some (.ok [], ds) := rfl
@[simp] theorem mCons_ev (a : ME PyData) (b : ME (List PyData)) : mCons a b env ds = (a env ds).bind fun x ds => (b env ds).bind fun xs ds => some (.ok (x :: xs), ds) := rfl
@[simp] theorem mTup_ev (a : ME (List PyData)) : mTup a env ds = (a env ds).bind fun xs ds => ME.lift (if short xs.length then some (.tuple xs) else none) env ds := rfl
@[simp] theorem mLst_ev (a : ME (List PyData)) : mLst a env ds = (a env ds).bind fun xs ds => ME.lift (if short xs.length then some xs else none) env ds := rfl
@[simp] theorem mIsi_ev (n : Nat) (a : ME PyData) : mIsi n a env ds = (a env ds).bind fun x ds => ME.lift ((isOf (["int", "bool", "tuple", "str", "list"].getD n "") x).map .bool) env ds := rfl
@[simp] theorem mAndV_ev (a b : ME PyData) : mAndV a b env ds = (a env ds).bind fun x ds => (match x with | .bool true => b env ds | .bool false => some (.ok (.bool false), ds) | _ => none) := by
  unfold mAndV
  show (a env ds).bind _ = _
  congr 1
  funext x ds
  rcases x with _ | b | _ | _ | _ | _ | _ <;> first | rfl | (cases b <;> rfl)
@[simp] theorem mOrV_ev (a b : ME PyData) : mOrV a b env ds = (a env ds).bind fun x ds => (match x with | .bool true => some (.ok (.bool true), ds) | .bool false => b env ds | _ => none) := by
  unfold mOrV
  show (a env ds).bind _ = _
  congr 1
  funext x ds
  rcases x with _ | b | _ | _ | _ | _ | _ <;> first | rfl | (cases b <;> rfl)
@[simp] theorem mChain_ev (f f' : PyData → PyData → Option PyData) (a b c : ME PyData) : mChain f f' a b c env ds = (a env ds).bind fun x ds => (b env ds).bind fun y ds => (ME.lift (f x y) env ds).bind fun z ds => (match z with | .bool true => (c env ds).bind fun u ds => ME.lift (f' y u) env ds | .bool false => some (.ok (.bool false), ds) | _ => none) := by
  unfold mChain
  show (a env ds).bind _ = _
  congr 1
  funext x ds
  show (b env ds).bind _ = _
  congr 1
  funext y ds
  show (ME.lift (f x y) env ds).bind _ = _
  congr 1
  funext z ds
  rcases z with _ | b | _ | _ | _ | _ | _ <;> first | rfl | (cases b <;> rfl)
@[simp] theorem mItems_ev (a : ME PyData) : mItems a env ds = (a env ds).bind fun x ds => ME.lift (itemsOf x) env ds := rfl
@[simp] theorem mPart_ev (a : ME PyData) : mPart a env ds = (a env ds).bind fun x ds => ME.lift (match x with | .int i => some (some i) | _ => none) env ds := rfl
@[simp] theorem mNoPart_ev : mNoPart env ds = some (.ok none, ds) := rfl
@[simp] theorem mSlice_ev (a : ME PyData) (l h : ME (Option Int)) : mSlice a l h env ds = (a env ds).bind fun x ds => (l env ds).bind fun lo ds => (h env ds).bind fun hi ds => ME.lift (fSlice x lo hi) env ds := rfl
@[simp] theorem mScr_ev (i : Nat) : mScr i env ds = (match env[i]? with | some (.scr ns) => some (.ok (ns.map .int), ds) | _ => none) := rfl
@[simp] theorem mYes_ev : mYes env ds = some (.ok true, ds) := rfl
@[simp] theorem axNil_ev : axNil env ds = some (.ok [], ds) := rfl
@[simp] theorem axD_ev (a : ME PyData) (r : ME (List Sl)) : axD a r env ds = (a env ds).bind fun x ds => (r env ds).bind fun xs ds => some (.ok (.d x :: xs), ds) := rfl
@[simp] theorem axV_ev (i : Nat) (r : ME (List Sl)) : axV i r env ds = (match env[i]? with | some .drw => (r env ds).bind fun xs ds' => some (.ok (.drw :: xs), ds') | some (.scr ns) => (r env ds).bind fun xs ds' => some (.ok (.scr ns :: xs), ds') | _ => none) := rfl
@[simp] theorem mCall_ev (f : FS) (a : ME (List Sl)) : mCall f a env ds = (a env ds).bind fun args ds => f args ds := rfl
@[simp] theorem mCallP_ev (f : FS) (a : ME (List Sl)) : mCallP f a env ds = (a env ds).bind fun args ds => (f args ds).bind fun d ds' => if noL d then some (.ok d, ds') else none := rfl
@[simp] theorem mCallF_ev (f : FS) (a : ME (List Sl)) : mCallF f a env ds = (a env ds).bind fun args ds => (f args ds).bind fun d ds' => (match d with | .list xs => some (.ok xs, ds') | _ => none) := rfl
@[simp] theorem chk_ev (n : Nat) (f : FS) (args : List Sl) : chk n f args ds = if args.length = n then f args ds else none := rfl
@[simp] theorem mRng1_int (a : ME PyData) {j : Int} (h : a env ds = some (.ok (.int j), ds')) (hj : -(2 ^ 62) ≤ j ∧ j < 2 ^ 62) : mRng1 a env ds = some (.ok (rangeD 0 j.toNat), ds') := by
  unfold mRng1
  rw [mbind_ev, h, rb_ok]
  show ME.lift (if decide _ then _ else _) env ds' = _
  rw [decide_eq_true hj]
  rfl
@[simp] theorem mRgL1_int (a : ME PyData) {j : Int} (h : a env ds = some (.ok (.int j), ds')) (hj : smallI j = true) : mRgL1 a env ds = some (.ok (rangeD 0 j.toNat), ds') := by
  unfold mRgL1
  rw [mbind_ev, h, rb_ok]
  show ME.lift (if smallI j then _ else _) env ds' = _
  rw [hj]
  rfl
/-! statements -/
@[simp] theorem exS_ev (a : ME α) (f : α → MS) : exS a f env ds = (match a env ds with | some (.ok x, ds') => f x env ds' | some (.exc e, ds') => some (.ex e env, ds') | none => none) := rfl
@[simp] theorem mSkip_ev : mSkip env ds = some (.nx env, ds) := rfl
theorem mSeq_nx {a b : MS} (h : a env ds = some (.nx env', ds')) : mSeq a b env ds = b env' ds' := by unfold mSeq; rw [h]
theorem mSeq_rt {a b : MS} {d : PyData} (h : a env ds = some (.rt d, ds')) : mSeq a b env ds = some (.rt d, ds') := by unfold mSeq; rw [h]
theorem mSeq_ex {a b : MS} {x : Exn} (h : a env ds = some (.ex x env', ds')) : mSeq a b env ds = some (.ex x env', ds') := by unfold mSeq; rw [h]
@[simp] theorem mSeq_ev (a b : MS) : mSeq a b env ds = (match a env ds with | some (.nx env', ds') => b env' ds' | r => r) := rfl
@[simp] theorem mSet_ev (i : Nat) (a : ME PyData) : mSet i a env ds = (match a env ds with | some (.ok x, ds') => (match put i (.d x) env with | some env' => some (.nx env', ds') | none => none) | some (.exc e, ds') => some (.ex e env, ds') | none => none) := by
  unfold mSet exS
  rcases a env ds with _ | ⟨_ | _, _⟩ <;> rfl
@[simp] theorem mSetL_ev (i : Nat) (a : ME (List PyData)) : mSetL i a env ds = (match a env ds with | some (.ok x, ds') => (match put i (.l x) env with | some env' => some (.nx env', ds') | none => none) | some (.exc e, ds') => some (.ex e env, ds') | none => none) := by
  unfold mSetL exS
  rcases a env ds with _ | ⟨_ | _, _⟩ <;> rfl
@[simp] theorem mDrop_ev (a : ME PyData) : mDrop a env ds = (match a env ds with | some (.ok x, ds') => some (.nx env, ds') | some (.exc e, ds') => some (.ex e env, ds') | none => none) := by
  unfold mDrop exS
  rcases a env ds with _ | ⟨_ | _, _⟩ <;> rfl
@[simp] theorem mRet_ev (a : ME PyData) : mRet a env ds = (match a env ds with | some (.ok x, ds') => some (.rt x, ds') | some (.exc e, ds') => some (.ex e env, ds') | none => none) := by
  unfold mRet exS
  rcases a env ds with _ | ⟨_ | _, _⟩ <;> rfl
@[simp] theorem mRetF_ev (a : ME (List PyData)) : mRetF a env ds = (match a env ds with | some (.ok x, ds') => some (.rt (.list x), ds') | some (.exc e, ds') => some (.ex e env, ds') | none => none) := by
  unfold mRetF exS
  rcases a env ds with _ | ⟨_ | _, _⟩ <;> rfl
@[simp] theorem mRetL_ev (i : Nat) : mRetL i env ds = (match env[i]? with | some (.l xs) => some (.rt (.list xs), ds) | _ => none) := rfl
@[simp] theorem mRetN_ev : mRetN env ds = some (.rt .none, ds) := rfl
@[simp] theorem mRaise_ev (x : Exn) : mRaise x env ds = some (.ex x env, ds) := rfl
@[simp] theorem mIfS_ev (c : ME Bool) (a b : MS) : mIfS c a b env ds = (match c env ds with | some (.ok x, ds') => (if x then a else b) env ds' | some (.exc e, ds') => some (.ex e env, ds') | none => none) := by
  unfold mIfS exS
  rcases c env ds with _ | ⟨_ | _, _⟩ <;> rfl
@[simp] theorem mAsg_ev (t : Tg) (a : ME PyData) : mAsg t a env ds = (match a env ds with | some (.ok x, ds') => (match t x env with | some env' => some (.nx env', ds') | none => none) | some (.exc e, ds') => some (.ex e env, ds') | none => none) := by
  unfold mAsg exS
  rcases a env ds with _ | ⟨_ | _, _⟩ <;> rfl
@[simp] theorem mApp_ev (i : Nat) (a : ME PyData) : mApp i a env ds = (match env[i]? with | some (.l xs) => (match a env ds with | some (.ok x, ds') => (if decide (xs.length < sizeLine) then some (.nx (env.set i (.l (xs ++ [x]))), ds') else none) | some (.exc e, ds') => some (.ex e env, ds') | none => none) | _ => none) := by
  unfold mApp onL
  rcases env[i]? with _ | (_ | _ | _ | _ | _ | _)
  any_goals rfl
  dsimp only
  rw [exS_ev]
  rcases a env ds with _ | ⟨_ | _, _⟩ <;> rfl
@[simp] theorem tName_ev (i : Nat) (d : PyData) : tName i d env = put i (.d d) env := rfl
@[simp] theorem tTup_ev (n : Nat) (ts : Tgs) (xs : List PyData) : tTup n ts (.tuple xs) env = if xs.length = n then ts xs env else none := rfl
@[simp] theorem tNilT_ev : tNilT [] env = some env := rfl
@[simp] theorem tConsT_ev (t : Tg) (ts : Tgs) (x : PyData) (r : List PyData) : tConsT t ts (x :: r) env = (t x env).bind (ts r) := rfl
/-! evaluated step by step -/
section
variable {ds1 ds2 : DS} {x y z : PyData} {a b : ME PyData}
theorem gOp {f : PyData → PyData → Option PyData} (ha : a env ds = some (.ok x, ds1)) (hb : b env ds1 = some (.ok y, ds2)) (hf : f x y = some z) : mOp f a b env ds = some (.ok z, ds2) := by rw [mOp_ev, ha, rb_ok, hb, rb_ok, hf]; rfl
theorem gUn {f : PyData → Option PyData} (ha : a env ds = some (.ok x, ds1)) (hf : f x = some z) : mUn f a env ds = some (.ok z, ds1) := by rw [mUn_ev, ha, rb_ok, hf]; rfl
theorem gUnF {f : PyData → Option (List PyData)} {zs : List PyData} (ha : a env ds = some (.ok x, ds1)) (hf : f x = some zs) : mUnF f a env ds = some (.ok zs, ds1) := by rw [mUnF_ev, ha, rb_ok, hf]; rfl
theorem gF {m : ME (List PyData)} {xs : List PyData} (ha : m env ds = some (.ok xs, ds1)) : mF m env ds = some (.ok (.list xs), ds1) := by rw [mF_ev, ha]; rfl
theorem gTst {k : Bool} (ha : a env ds = some (.ok (.bool k), ds1)) : mTst a env ds = some (.ok k, ds1) := by rw [mTst_ev, ha]; rfl
theorem gNot {m : ME Bool} {k : Bool} (ha : m env ds = some (.ok k, ds1)) : mNot m env ds = some (.ok (!k), ds1) := by rw [mNot_ev, ha]; rfl
theorem gOr {m m' : ME Bool} {k k' : Bool} (ha : m env ds = some (.ok k, ds1)) (hb : m' env ds1 = some (.ok k', ds1)) : mOr m m' env ds = some (.ok (k || k'), ds1) := by
  rw [mOr_ev, ha, rb_ok]
  cases k
  · exact hb
  · rfl
theorem gAnd {m m' : ME Bool} {k k' : Bool} (ha : m env ds = some (.ok k, ds1)) (hb : m' env ds1 = some (.ok k', ds1)) : mAnd m m' env ds = some (.ok (k && k'), ds1) := by
  rw [mAnd_ev, ha, rb_ok]
  cases k
  · rfl
  · exact hb
theorem gAndV {k k' : Bool} (ha : a env ds = some (.ok (.bool k), ds1)) (hb : b env ds1 = some (.ok (.bool k'), ds1)) : mAndV a b env ds = some (.ok (.bool (k && k')), ds1) := by
  rw [mAndV_ev, ha, rb_ok]
  cases k
  · rfl
  · exact hb
theorem gOrV {k k' : Bool} (ha : a env ds = some (.ok (.bool k), ds1)) (hb : b env ds1 = some (.ok (.bool k'), ds1)) : mOrV a b env ds = some (.ok (.bool (k || k')), ds1) := by
  rw [mOrV_ev, ha, rb_ok]
  cases k
  · exact hb
  · rfl
theorem gChain {c : ME PyData} {f f' : PyData → PyData → Option PyData} {u : PyData} {k k' : Bool} (ha : a env ds = some (.ok x, ds)) (hb : b env ds = some (.ok y, ds)) (hf : f x y = some (.bool k)) (hc : c env ds = some (.ok u, ds)) (hf' : f' y u = some (.bool k')) : mChain f f' a b c env ds = some (.ok (.bool (k && k')), ds) := by
  rw [mChain_ev, ha, rb_ok, hb, rb_ok, hf, lift_ok, rb_ok]
  cases k
  · rfl
  · dsimp only
    rw [hc, rb_ok, hf']
    rfl
theorem gCons {r : ME (List PyData)} {xs : List PyData} (ha : a env ds = some (.ok x, ds1)) (hr : r env ds1 = some (.ok xs, ds2)) : mCons a r env ds = some (.ok (x :: xs), ds2) := by rw [mCons_ev, ha, rb_ok, hr]; rfl
theorem gTup {r : ME (List PyData)} {xs : List PyData} (ha : r env ds = some (.ok xs, ds1)) (hs : short xs.length = true) : mTup r env ds = some (.ok (.tuple xs), ds1) := by rw [mTup_ev, ha, rb_ok, hs]; rfl
theorem gLst {r : ME (List PyData)} {xs : List PyData} (ha : r env ds = some (.ok xs, ds1)) (hs : short xs.length = true) : mLst r env ds = some (.ok xs, ds1) := by rw [mLst_ev, ha, rb_ok, hs]; rfl
theorem gItems {xs : List PyData} (ha : a env ds = some (.ok x, ds1)) (hx : itemsOf x = some xs) : mItems a env ds = some (.ok xs, ds1) := by rw [mItems_ev, ha, rb_ok, hx]; rfl
theorem gCall {f : FS} {n : Nat} {r : ME (List Sl)} {args : List Sl} (ha : r env ds = some (.ok args, ds1)) (hn : args.length = n) {o : Rz PyData} (hf : f args ds1 = o) : mCall (chk n f) r env ds = o := by rw [mCall_ev, ha, rb_ok, chk_ev, if_pos hn, hf]
theorem gAx {r : ME (List Sl)} {xs : List Sl} (ha : a env ds = some (.ok x, ds1)) (hr : r env ds1 = some (.ok xs, ds2)) : axD a r env ds = some (.ok (.d x :: xs), ds2) := by rw [axD_ev, ha, rb_ok, hr]; rfl
theorem gSet {i : Nat} (ha : a env ds = some (.ok x, ds1)) (hp : put i (.d x) env = some env') : mSet i a env ds = some (.nx env', ds1) := by rw [mSet_ev, ha]; dsimp only; rw [hp]
theorem gSetL {i : Nat} {m : ME (List PyData)} {xs : List PyData} (ha : m env ds = some (.ok xs, ds1)) (hp : put i (.l xs) env = some env') : mSetL i m env ds = some (.nx env', ds1) := by rw [mSetL_ev, ha]; dsimp only; rw [hp]
theorem gDrop (ha : a env ds = some (.ok x, ds1)) : mDrop a env ds = some (.nx env, ds1) := by rw [mDrop_ev, ha]
theorem gRet (ha : a env ds = some (.ok x, ds1)) : mRet a env ds = some (.rt x, ds1) := by rw [mRet_ev, ha]
theorem gIfS {c : ME Bool} {m m' : MS} {k : Bool} (hc : c env ds = some (.ok k, ds1)) : mIfS c m m' env ds = (if k then m else m') env ds1 := by rw [mIfS_ev, hc]
theorem gIfT {c : ME Bool} {m m' : MS} (hc : c env ds = some (.ok true, ds1)) : mIfS c m m' env ds = m env ds1 := by rw [mIfS_ev, hc]; rfl
theorem gIfF {c : ME Bool} {m m' : MS} (hc : c env ds = some (.ok false, ds1)) : mIfS c m m' env ds = m' env ds1 := by rw [mIfS_ev, hc]; rfl
theorem gIf {γ : Type} {c : ME Bool} {m m' : ME γ} {k : Bool} (hc : c env ds = some (.ok k, ds1)) : mIf c m m' env ds = (if k then m else m') env ds1 := by rw [mIf_ev, hc]; rfl
theorem gSeq {m m' : MS} {o : Option (Fl × DS)} (h : m env ds = some (.nx env', ds1)) (h' : m' env' ds1 = o) : mSeq m m' env ds = o := by rw [mSeq_nx h, h']
theorem gFor {mi : ME (List PyData)} {t : Tg} {body : MS} {xs : List PyData} {o : Option (Fl × DS)} (hi : mi env ds = some (.ok xs, ds1)) (h : forGo t body xs env ds1 = o) : mFor mi t body env ds = o := by
  unfold mFor
  rw [exS_ev, hi]
  exact h
theorem gRunRt {nN np : Nat} {fr : Bool} {m : MS} {args : List Sl} (h : m (args ++ List.replicate (nN - np) .un) ds = some (.rt x, ds1)) : runB nN np fr m args ds = some (.ok x, ds1) := by unfold runB; rw [h]
theorem gRunNx {nN np : Nat} {m : MS} {args : List Sl} (h : m (args ++ List.replicate (nN - np) .un) ds = some (.nx env', ds1)) : runB nN np false m args ds = some (.ok .none, ds1) := by unfold runB; rw [h]; rfl
theorem gRunEx {nN np : Nat} {fr : Bool} {m : MS} {args : List Sl} {e : Exn} (h : m (args ++ List.replicate (nN - np) .un) ds = some (.ex e env', ds1)) : runB nN np fr m args ds = some (.exc e, ds1) := by unfold runB; rw [h]
theorem gApp {i : Nat} {xs : List PyData} (hs : env[i]? = some (.l xs)) (ha : a env ds = some (.ok x, ds1)) (hl : xs.length < 16777216) : mApp i a env ds = some (.nx (env.set i (.l (xs ++ [x]))), ds1) := by
  rw [mApp_ev, hs]
  dsimp only
  rw [ha]
  dsimp only
  rw [show decide (xs.length < sizeLine) = true from decide_eq_true (by rw [sizeLine_eq]; exact hl), if_pos rfl]
theorem gAsg {t : Tg} (ha : a env ds = some (.ok x, ds1)) (ht : t x env = some env') : mAsg t a env ds = some (.nx env', ds1) := by rw [mAsg_ev, ha]; dsimp only; rw [ht]
end
theorem short_of {n : Nat} (h : n ≤ 16777216) : short n = true := decide_eq_true (by rw [sizeLine_eq]; exact h)
theorem lt_line {n : Nat} (h : n < 16777216) : decide (n < sizeLine) = true := decide_eq_true (by rw [sizeLine_eq]; exact h)
/-! the walks -/
theorem compGo_ev {γ : Type} {e : γ → PyData} {t : Tg} {c : ME Bool} {elt : ME PyData} {p : γ → Bool} {g : γ → PyData} : ∀ (xs : List γ) (acc : List PyData), (∀ x ∈ xs, ∃ env1, t (e x) env = some env1 ∧ c env1 ds = some (.ok (p x), ds) ∧ (p x = true → elt env1 ds = some (.ok (g x), ds))) → acc.length + xs.length ≤ 16777216 →
    compGo t c elt env (xs.map e) ds acc = some (acc ++ (xs.filter p).map g, ds)
  | [], acc, _, _ => by show some (acc, ds) = _; rw [List.filter_nil, List.map_nil, List.append_nil]
  | x :: r, acc, h, hl => by
    obtain ⟨env1, h1, h2, h3⟩ := h x List.mem_cons_self
    rw [List.length_cons] at hl
    show (match t (e x) env with | none => none | some env1 => _) = _
    rw [h1]
    dsimp only
    rw [h2]
    cases hp : p x with
    | true =>
      dsimp only
      rw [h3 hp]
      dsimp only
      rw [lt_line (by omega), if_pos rfl, compGo_ev r (acc ++ [g x]) (fun y hy => h y (List.mem_cons_of_mem _ hy)) (by rw [List.length_append, List.length_singleton]; omega), List.filter_cons, if_pos hp, List.map_cons, List.append_assoc]
      rfl
    | false =>
      dsimp only
      rw [compGo_ev r acc (fun y hy => h y (List.mem_cons_of_mem _ hy)) (by omega), List.filter_cons, if_neg (by rw [hp]; exact Bool.false_ne_true)]
theorem comp_ev {γ : Type} {e : γ → PyData} {xs : List γ} {vs : List Nat} {mi : ME (List PyData)} {t : Tg} {c : ME Bool} {elt : ME PyData} {env1 : Ev} (p : γ → Bool) (g : γ → PyData) (hi : mi env ds = some (.ok (xs.map e), ds)) (hw : wipeE env vs = some env1)
    (h : ∀ x ∈ xs, ∃ env2, t (e x) env1 = some env2 ∧ c env2 ds = some (.ok (p x), ds) ∧ (p x = true → elt env2 ds = some (.ok (g x), ds))) (hl : xs.length ≤ 16777216) : mComp vs mi t c elt env ds = some (.ok ((xs.filter p).map g), ds) := by
  unfold mComp
  rw [mbind_ev, hi, rb_ok, hw]
  dsimp only
  rw [compGo_ev xs [] h (by rw [List.length_nil]; omega)]
  rfl
theorem comp2Go_ev {γ δ : Type} {e : γ → PyData} {e' : δ → PyData} {t : Tg} {c : ME Bool} {mi : ME (List PyData)} {vs1 : List Nat} {t1 : Tg} {c1 : ME Bool} {elt : ME PyData} {ys : γ → List δ} {g : γ → δ → PyData} {b : Nat} : ∀ (xs : List γ) (acc : List PyData),
    (∀ x ∈ xs, (ys x).length ≤ b ∧ ∃ env1 env2, t (e x) env = some env1 ∧ c env1 ds = some (.ok true, ds) ∧ mi env1 ds = some (.ok ((ys x).map e'), ds) ∧ wipeE env1 vs1 = some env2 ∧ ∀ y ∈ ys x, ∃ env3, t1 (e' y) env2 = some env3 ∧ c1 env3 ds = some (.ok true, ds) ∧ elt env3 ds = some (.ok (g x y), ds)) → acc.length + xs.length * b ≤ 16777216 →
    comp2Go t c mi vs1 t1 c1 elt env (xs.map e) ds acc = some (acc ++ xs.flatMap (fun x => (ys x).map (g x)), ds)
  | [], acc, _, _ => by show some (acc, ds) = _; rw [List.flatMap_nil, List.append_nil]
  | x :: r, acc, h, hl => by
    obtain ⟨hb, env1, env2, h1, h2, h3, h4, h5⟩ := h x List.mem_cons_self
    rw [List.length_cons, Nat.succ_mul] at hl
    show (match t (e x) env with | none => none | some env1 => _) = _
    rw [h1]
    dsimp only
    rw [h2]
    dsimp only
    rw [h3]
    dsimp only
    rw [h4]
    dsimp only
    rw [compGo_ev (p := fun _ => true) (g := g x) (ys x) acc (fun y hy => by obtain ⟨env3, q1, q2, q3⟩ := h5 y hy; exact ⟨env3, q1, q2, fun _ => q3⟩) (by omega)]
    dsimp only
    have hf : (ys x).filter (fun _ => true) = ys x := List.filter_eq_self.mpr fun _ _ => rfl
    rw [hf, comp2Go_ev r _ (fun y hy => h y (List.mem_cons_of_mem _ hy)) (by rw [List.length_append, List.length_map]; omega), List.flatMap_cons, List.append_assoc]
theorem comp2_ev {γ δ : Type} {e : γ → PyData} {e' : δ → PyData} {xs : List γ} {vs : List Nat} {m0 mi : ME (List PyData)} {t : Tg} {c : ME Bool} {vs1 : List Nat} {t1 : Tg} {c1 : ME Bool} {elt : ME PyData} {env1 : Ev} (ys : γ → List δ) (g : γ → δ → PyData) (b : Nat) (hi : m0 env ds = some (.ok (xs.map e), ds)) (hw : wipeE env vs = some env1)
    (h : ∀ x ∈ xs, (ys x).length ≤ b ∧ ∃ env2 env3, t (e x) env1 = some env2 ∧ c env2 ds = some (.ok true, ds) ∧ mi env2 ds = some (.ok ((ys x).map e'), ds) ∧ wipeE env2 vs1 = some env3 ∧ ∀ y ∈ ys x, ∃ env4, t1 (e' y) env3 = some env4 ∧ c1 env4 ds = some (.ok true, ds) ∧ elt env4 ds = some (.ok (g x y), ds)) (hl : xs.length * b ≤ 16777216) :
    mComp2 vs m0 t c mi vs1 t1 c1 elt env ds = some (.ok (xs.flatMap fun x => (ys x).map (g x)), ds) := by
  unfold mComp2
  rw [mbind_ev, hi, rb_ok, hw]
  dsimp only
  rw [comp2Go_ev xs [] h (by rw [List.length_nil]; omega)]
  rfl
/-- a comprehension that draws: I holds between, each item is given what P tells -/
theorem compGo_draw {t : Tg} {elt : ME PyData} {I : DS → Prop} {P : PyData → PyData → Prop} : ∀ (items acc : List PyData) (ds : DS), (∀ x ∈ items, ∃ env1, t x env = some env1 ∧ ∀ ds, I ds → ∃ y ds', elt env1 ds = some (.ok y, ds') ∧ I ds' ∧ P x y) → I ds → acc.length + items.length ≤ 16777216 →
    ∃ ys ds', compGo t mYes elt env items ds acc = some (acc ++ ys, ds') ∧ I ds' ∧ Paired P items ys
  | [], acc, ds, _, hI, _ => ⟨[], ds, by rw [List.append_nil]; rfl, hI, .nil⟩
  | x :: r, acc, ds, h, hI, hl => by
    obtain ⟨env1, h1, h2⟩ := h x List.mem_cons_self
    obtain ⟨y, ds1, h3, h4, h5⟩ := h2 ds hI
    rw [List.length_cons] at hl
    obtain ⟨ys, ds', k1, k2, k3⟩ := compGo_draw r (acc ++ [y]) ds1 (fun z hz => h z (List.mem_cons_of_mem _ hz)) h4 (by rw [List.length_append, List.length_singleton]; omega)
    refine ⟨y :: ys, ds', ?_, k2, .cons h5 k3⟩
    show (match t x env with | none => none | some env1 => _) = _
    rw [h1]
    dsimp only
    rw [mYes_ev]
    dsimp only
    rw [h3]
    dsimp only
    rw [lt_line (by omega), if_pos rfl, k1, List.append_assoc]
    rfl
theorem comp_draw {items : List PyData} {vs : List Nat} {mi : ME (List PyData)} {t : Tg} {elt : ME PyData} {env1 : Ev} {I : DS → Prop} {P : PyData → PyData → Prop} (hi : mi env ds = some (.ok items, ds)) (hw : wipeE env vs = some env1)
    (h : ∀ x ∈ items, ∃ env2, t x env1 = some env2 ∧ ∀ ds, I ds → ∃ y ds', elt env2 ds = some (.ok y, ds') ∧ I ds' ∧ P x y) (hI : I ds) (hl : items.length ≤ 16777216) : ∃ ys ds', mComp vs mi t mYes elt env ds = some (.ok ys, ds') ∧ I ds' ∧ Paired P items ys := by
  obtain ⟨ys, ds', k1, k2, k3⟩ := compGo_draw items [] ds h hI (by rw [List.length_nil]; omega)
  refine ⟨ys, ds', ?_, k2, k3⟩
  unfold mComp
  rw [mbind_ev, hi, rb_ok, hw]
  dsimp only
  rw [k1]
  rfl
/-- for, by what holds ahead of each turn -/
theorem for_inv {t : Tg} {body : MS} {I : Nat → Ev → DS → Prop} : ∀ (items : List PyData) (k : Nat) (env : Ev) (ds : DS), (∀ (i : Nat) (x : PyData) (env : Ev) (ds : DS), items[i]? = some x → I (k + i) env ds → ∃ env1 env2 ds2, t x env = some env1 ∧ body env1 ds = some (.nx env2, ds2) ∧ I (k + i + 1) env2 ds2) → I k env ds →
    ∃ env' ds', forGo t body items env ds = some (.nx env', ds') ∧ I (k + items.length) env' ds'
  | [], k, env, ds, _, hI => ⟨env, ds, rfl, hI⟩
  | x :: r, k, env, ds, h, hI => by
    obtain ⟨env1, env2, ds2, h1, h2, h3⟩ := h 0 x env ds rfl hI
    obtain ⟨env', ds', k1, k2⟩ := for_inv (I := I) r (k + 1) env2 ds2 (fun i y e d hy hi => by
      have q := h (i + 1) y e d (by simpa using hy) (by rw [show k + (i + 1) = k + 1 + i by omega]; exact hi)
      rw [show k + (i + 1) + 1 = k + 1 + i + 1 by omega] at q
      exact q) h3
    refine ⟨env', ds', ?_, by rw [List.length_cons, show k + (r.length + 1) = k + 1 + r.length by omega]; exact k2⟩
    show (match t x env with | none => none | some env1 => _) = _
    rw [h1]
    dsimp only
    rw [h2]
    exact k1
/-- while, by a bound of the turns -/
theorem while_inv {c : ME Bool} {body : MS} {I : Nat → Ev → DS → Prop} {Post : Ev → DS → Prop} (h : ∀ (k : Nat) (env : Ev) (ds : DS), I k env ds → (∃ ds', c env ds = some (.ok false, ds') ∧ Post env ds') ∨ ∃ ds1 env2 ds2 j, c env ds = some (.ok true, ds1) ∧ body env ds1 = some (.nx env2, ds2) ∧ j < k ∧ I j env2 ds2) :
    ∀ (n k : Nat) (env : Ev) (ds : DS), k < n → I k env ds → ∃ env' ds', whileGo c body n env ds = some (.nx env', ds') ∧ Post env' ds'
  | 0, k, _, _, hk, _ => absurd hk (Nat.not_lt_zero _)
  | n + 1, k, env, ds, hk, hI => by
    rcases h k env ds hI with ⟨ds', h1, h2⟩ | ⟨ds1, env2, ds2, j, h1, h2, h3, h4⟩
    · exact ⟨env, ds', by show (match c env ds with | some (.ok true, ds1) => _ | some (.ok false, ds1) => _ | some (.exc x, ds1) => _ | none => _) = _; rw [h1], h2⟩
    · obtain ⟨env', ds', k1, k2⟩ := while_inv h n j env2 ds2 (by omega) h4
      refine ⟨env', ds', ?_, k2⟩
      show (match c env ds with | some (.ok true, ds1) => _ | some (.ok false, ds1) => _ | some (.exc x, ds1) => _ | none => _) = _
      rw [h1]
      dsimp only
      rw [h2]
      exact k1
end
end DL

/-! DL16: what repr shows: how long, of which signs; orders of ints. -/
namespace DL
open PySem PySem.Spec L2
open PyProof.Rows hiding St

theorem strOk_of (s : String) : PyData.strOk (Str.ofString s) = true := by
  rw [Str.ofString_eq_toList]
  unfold PyData.strOk
  rw [Array.all_eq_true_iff_forall_mem]
  intro c hc
  have hc : c ∈ s.toList.map Char.toNat := by simpa using hc
  obtain ⟨ch, _, rfl⟩ := List.mem_map.mp hc
  refine decide_eq_true ?_
  have h := ch.valid
  show ch.val.toNat < 1114112
  rcases h with h | h
  · exact Nat.lt_trans h (by decide)
  · exact h.2
theorem strOk_app {a b : Str} (ha : PyData.strOk a = true) (hb : PyData.strOk b = true) : PyData.strOk (a ++ b) = true := by
  unfold PyData.strOk at ha hb ⊢
  rw [Array.all_eq_true_iff_forall_mem] at ha hb ⊢
  intro c hc
  have hc : c ∈ a.cps ++ b.cps := hc
  rcases Array.mem_append.mp hc with h | h
  · exact ha c h
  · exact hb c h
theorem strOk_join : ∀ ts : List Str, (∀ t ∈ ts, PyData.strOk t = true) → PyData.strOk (Str.join ", " ts) = true
  | [], _ => by decide +kernel
  | [x], h => h x List.mem_cons_self
  | x :: y :: r, h => strOk_app (strOk_app (h x List.mem_cons_self) (strOk_of _)) (strOk_join (y :: r) fun t ht => h t (List.mem_cons_of_mem _ ht))
theorem strOk_from : ∀ (ts : List Str) (k : Nat) (acc : Str), PyData.strOk acc = true → (∀ t ∈ ts, PyData.strOk t = true) → PyData.strOk (textFrom k acc ts) = true
  | [], _, _, ha, _ => ha
  | t :: r, k, acc, ha, h => strOk_from r (k + 1) _ (strOk_app (strOk_app ha (strOk_of _)) (h t List.mem_cons_self)) fun u hu => h u (List.mem_cons_of_mem _ hu)
theorem len_join : ∀ ts : List Str, (Str.join ", " ts).length ≤ piled ts
  | [] => Nat.le_refl _
  | x :: r => by have := join_length_add (x :: r) (by simp); omega
theorem len_from : ∀ (ts : List Str) (k : Nat) (acc : Str), (textFrom k acc ts).length ≤ acc.length + piled ts
  | [], _, _ => Nat.le_refl _
  | t :: r, k, acc => by
    refine Nat.le_trans (len_from r (k + 1) _) ?_
    rw [strLen_append, strLen_append, piled_cons]
    have : (((if k > 0 then ", " else "" : String) : Str)).length ≤ 2 := by split <;> decide
    omega
mutual
def cost : PyData → Nat
  | .none => 4
  | .bool _ => 5
  | .int i => if 0 ≤ i ∧ i < 100 then 2 else 100000000
  | .str _ => 100000000
  | .list xs => costs xs + 4
  | .tuple xs => costs xs + 4
  | .dict _ => 100000000
def costs : List PyData → Nat
  | [] => 0
  | x :: r => cost x + 2 + costs r
end
structure Shows (d : PyData) : Prop where
  len : d.shown.length ≤ cost d
  ok : PyData.strOk d.shown = true
  sh : d.showable = true
  nd : d.hasDict = false
theorem small_text : ∀ n : Nat, n < 100 → (Str.ofString (toString (n : Int))).length ≤ 2 := by decide +kernel
mutual
theorem shows : ∀ d : PyData, cost d ≤ 10000000 → Shows d
  | .none, _ => ⟨by decide +kernel, by decide +kernel, rfl, rfl⟩
  | .bool true, _ => ⟨by decide +kernel, by decide +kernel, rfl, rfl⟩
  | .bool false, _ => ⟨by decide +kernel, by decide +kernel, rfl, rfl⟩
  | .int i, h => by
    have hc : 0 ≤ i ∧ i < 100 := by
      by_cases c : 0 ≤ i ∧ i < 100
      · exact c
      · have e : cost (.int i) = 100000000 := by
          show (if 0 ≤ i ∧ i < 100 then 2 else 100000000) = _
          rw [if_neg c]
        omega
    have e : cost (.int i) = 2 := by
      show (if 0 ≤ i ∧ i < 100 then 2 else 100000000) = _
      rw [if_pos hc]
    obtain ⟨n, rfl⟩ : ∃ n : Nat, i = (n : Int) := ⟨i.toNat, by omega⟩
    refine ⟨by rw [e]; exact small_text n (by omega), strOk_of _, ?_, rfl⟩
    show decide ((n : Int).natAbs.log2 < 1920) = true
    refine decide_eq_true ?_
    rw [Int.natAbs_natCast]
    have h0 : ∀ n : Nat, n < 100 → n.log2 < 1920 := by decide +kernel
    exact h0 n (by omega)
  | .str _, h => absurd h (by show ¬ 100000000 ≤ 10000000; decide)
  | .dict _, h => absurd h (by show ¬ 100000000 ≤ 10000000; decide)
  | .list xs, h => by
    have e : cost (.list xs) = costs xs + 4 := rfl
    obtain ⟨h1, h2, h3, h4⟩ := showsAll xs (by omega)
    refine ⟨?_, ?_, h3, h4⟩
    · show (textFrom 0 "[" (PyData.shownAll xs) ++ ("]" : Str)).length ≤ _
      have := len_from (PyData.shownAll xs) 0 "["
      have l1 : (("[" : String) : Str).length = 1 := rfl
      have l2 : (("]" : String) : Str).length = 1 := rfl
      rw [strLen_append, l2, e]
      omega
    · exact strOk_app (strOk_from _ _ _ (strOk_of _) h2) (strOk_of _)
  | .tuple xs, h => by
    have e : cost (.tuple xs) = costs xs + 4 := rfl
    obtain ⟨h1, h2, h3, h4⟩ := showsAll xs (by omega)
    refine ⟨?_, ?_, h3, h4⟩
    · show (("(" : Str) ++ Str.join ", " (PyData.shownAll xs) ++ (((if (PyData.shownAll xs).length == 1 then ",)" else ")" : String) : Str))).length ≤ _
      have := len_join (PyData.shownAll xs)
      have l1 : (("(" : String) : Str).length = 1 := rfl
      have l2 : (((if (PyData.shownAll xs).length == 1 then ",)" else ")" : String) : Str)).length ≤ 2 := by split <;> decide
      rw [strLen_append, strLen_append, l1, e]
      omega
    · exact strOk_app (strOk_app (strOk_of _) (strOk_join _ h2)) (strOk_of _)
theorem showsAll : ∀ xs : List PyData, costs xs ≤ 10000000 → piled (PyData.shownAll xs) ≤ costs xs ∧ (∀ t ∈ PyData.shownAll xs, PyData.strOk t = true) ∧ PyData.showableAll xs = true ∧ PyData.hasDictAll xs = false
  | [], _ => ⟨Nat.le_refl _, (fun _ h => nomatch h), rfl, rfl⟩
  | x :: r, h => by
    have e : costs (x :: r) = cost x + 2 + costs r := rfl
    obtain ⟨a1, a2, a3, a4⟩ := shows x (by omega)
    obtain ⟨b1, b2, b3, b4⟩ := showsAll r (by omega)
    refine ⟨?_, fun t ht => ?_, ?_, ?_⟩
    · show piled (x.shown :: PyData.shownAll r) ≤ _
      rw [piled_cons, e]
      omega
    · rcases List.mem_cons.mp (show t ∈ x.shown :: PyData.shownAll r from ht) with q | q
      · subst q; exact a2
      · exact b2 t q
    · show (x.showable && PyData.showableAll r) = true
      rw [a3, b3]; rfl
    · show (x.hasDict || PyData.hasDictAll r) = false
      rw [a4, b4]; rfl
end
/-- repr of small data -/
theorem fRepr_ok {d : PyData} (h1 : isSeq d = true) (h2 : cost d ≤ 10000000) (h3 : d.depth ≤ 60) : fRepr d = some (.str d.shown) ∧ SeqAt.shaped (.str d.shown) = true := by
  obtain ⟨a1, a2, a3, a4⟩ := shows d h2
  refine ⟨?_, ?_⟩
  · unfold fRepr
    rw [h1, a3, a4, decide_eq_true h3, show short d.shown.length = true from decide_eq_true (by rw [sizeLine_eq]; omega)]
    rfl
  · unfold SeqAt.shaped
    rw [show (PyData.str d.shown).canLay0 = true from a2]
    rfl
theorem eqv_str (x : Str) : PyData.eqv (.str x) (.str x) = true := beq_self_eq_true x
/-- how much lists of small data cost -/
theorem costs_le {k : Nat} : ∀ xs : List PyData, (∀ x ∈ xs, cost x ≤ k) → costs xs ≤ (k + 2) * xs.length
  | [], _ => Nat.zero_le _
  | x :: r, h => by
    have h1 := h x List.mem_cons_self
    have h2 := costs_le r fun y hy => h y (List.mem_cons_of_mem _ hy)
    rw [List.length_cons, Nat.mul_succ]
    show cost x + 2 + costs r ≤ _
    omega
theorem depthAll_le {k : Nat} : ∀ xs : List PyData, (∀ x ∈ xs, x.depth ≤ k) → PyData.depthAll xs ≤ k
  | [], _ => Nat.zero_le _
  | x :: r, h => by
    have h1 := h x List.mem_cons_self
    have h2 := depthAll_le r fun y hy => h y (List.mem_cons_of_mem _ hy)
    have e : PyData.depthAll (x :: r) = max x.depth (PyData.depthAll r) := by first | rfl | rw [PyData.depthAll]
    rw [e]
    exact Nat.max_le.mpr ⟨h1, h2⟩
theorem depth_tuple (xs : List PyData) : (PyData.tuple xs).depth = PyData.depthAll xs + 1 := by first | rfl | simp [PyData.depth] | (simp [PyData.depth]; omega)
theorem depth_list (xs : List PyData) : (PyData.list xs).depth = PyData.depthAll xs + 1 := by first | rfl | simp [PyData.depth] | (simp [PyData.depth]; omega)
/-! ### ints in order -/
def sortI (l : List Int) : List Int := sortB (fun a b => decide (a < b)) l
theorem insB_map {α β : Type} {lt : α → α → Bool} {lt' : β → β → Bool} (f : α → β) (h : ∀ a b, lt' (f a) (f b) = lt a b) (x : α) : ∀ l : List α, insB lt' (f x) (l.map f) = (insB lt x l).map f
  | [] => rfl
  | y :: r => by
    show (if lt' (f y) (f x) then f y :: insB lt' (f x) (r.map f) else f x :: f y :: r.map f) = (if lt y x then y :: insB lt x r else x :: y :: r).map f
    rw [h, insB_map f h x r]
    by_cases c : lt y x = true
    · rw [if_pos c, if_pos c]; rfl
    · rw [if_neg c, if_neg c]; rfl
theorem sortB_map {α β : Type} {lt : α → α → Bool} {lt' : β → β → Bool} (f : α → β) (h : ∀ a b, lt' (f a) (f b) = lt a b) : ∀ l : List α, sortB lt' (l.map f) = (sortB lt l).map f
  | [] => rfl
  | x :: r => by
    show insB lt' (f x) (sortB lt' (r.map f)) = _
    rw [sortB_map f h r, insB_map f h x]
    rfl
theorem sorts_ints (l : List Int) : sorts (l.map .int) = true := by
  unfold sorts
  rw [PySem.W.depth_ints, Bool.and_eq_true, Bool.and_eq_true, Bool.or_eq_true, Bool.or_eq_true]
  refine ⟨⟨List.all_eq_true.mpr fun d hd => List.all_eq_true.mpr fun e he => ?_, .inl (.inr (List.all_eq_true.mpr fun d hd => ?_))⟩, rfl⟩
  · obtain ⟨a, _, rfl⟩ := List.mem_map.mp hd
    obtain ⟨b, _, rfl⟩ := List.mem_map.mp he
    rfl
  · obtain ⟨a, _, rfl⟩ := List.mem_map.mp hd
    rfl
theorem fSort_ints (l : List Int) : fSort (.list (l.map .int)) = some ((sortI l).map .int) := by
  unfold fSort
  dsimp only
  rw [sorts_ints, if_pos rfl]
  exact congrArg some (sortB_map (lt := fun a b => decide (a < b)) PyData.int (fun a b => rfl) l)
theorem sortI_mem {l : List Int} {x : Int} : x ∈ sortI l ↔ x ∈ l := (sortB_perm l).mem_iff
theorem int_total : PySem.W.TotalLe (fun a b : Int => decide (a ≤ b)) where
  total a b := by rcases Int.le_total a b with h | h <;> simp [h]
  trans a b c h1 h2 := by
    have h1 := of_decide_eq_true h1
    have h2 := of_decide_eq_true h2
    exact decide_eq_true (Int.le_trans h1 h2)
theorem sortI_le (l : List Int) : (sortI l).Pairwise (· ≤ ·) := by
  have e : (fun a b : Int => !decide (b ≤ a)) = fun a b => decide (a < b) := by
    funext a b
    by_cases h : a < b
    · rw [decide_eq_true h, decide_eq_false (by omega)]; rfl
    · rw [decide_eq_false h, decide_eq_true (by omega)]; rfl
  have q := sortB_pair int_total l
  rw [e] at q
  exact q.imp fun h => of_decide_eq_true h
/-- sorted of ints each met once -/
theorem sortI_nodup {l : List Int} (h : l.Nodup) : sortI l = sortU l := by
  refine pair_one ?_ (sortU_pair l) fun k => by rw [sortI_mem, sortU_mem]
  have n : (sortI l).Nodup := (sortB_perm l).nodup_iff.mpr h
  exact (List.Pairwise.and (sortI_le l) n).imp fun ⟨a, b⟩ => by omega
theorem nodup_len : ∀ {l m : List Int}, l.Nodup → (∀ x ∈ l, x ∈ m) → l.length ≤ m.length
  | [], _, _, _ => Nat.zero_le _
  | x :: r, m, h, hs => by
    rw [List.nodup_cons] at h
    have hm := hs x List.mem_cons_self
    have h2 : ∀ y ∈ r, y ∈ m.erase x := fun y hy => (List.mem_erase_of_ne (fun e => h.1 (by rw [← e]; exact hy))).mpr (hs y (List.mem_cons_of_mem _ hy))
    have q := nodup_len h.2 h2
    rw [List.length_erase_of_mem hm] at q
    have := List.length_pos_of_mem hm
    rw [List.length_cons]
    omega
end DL

/-! DL17: one's own dicts. -/
namespace DL
open PySem PySem.Spec L2
open PyProof.Rows hiding St

section
variable {K : PySem.W.Frag} {Γ : Gm} {σ : St} {H H1 : Hp} {env env' : Ev} {ds ds1 : DS}
/-- a slot is stored with a new dict -/
theorem Rel.set_dc (R : Rel K Γ σ H env ds) (e : Ext Γ H H1) (d : DrR K Γ H1 ds1) {i : Nat} {p : Addr} {us : List V} {t : Bool} {xs : List (List Int × PyData)} (hf : H p = none) (hH : H1 p = some (dcObj t (xs.map (·.1)) us)) (hl : xs.length ≤ 1000000) (hA : DfAll K H1 (gdx Γ σ env p) us (xs.map (·.2))) (hp : put i (.dc t xs) env = some env') :
    Rel K Γ (σ.set i (some (.ref p))) H1 env' ds1 := by
  obtain ⟨h1, h2, rfl⟩ := put_some hp
  have h3 : i < σ.length := by rw [R.len]; exact h2
  have R1 := R.go e d
  have np := R.new_gd hf
  -- what owns afterwards: p, or another slot
  have ow : ∀ a, owned (σ.set i (some (.ref p))) (env.set i (.dc t xs)) a → a = p ∨ owned σ env a := by
    rintro a ⟨j, y, q1, q2, q3⟩
    by_cases z : i = j
    · subst z
      rw [List.getElem?_set_self h3] at q3
      cases q3
      exact .inl rfl
    · rw [List.getElem?_set_ne z] at q1 q3
      exact .inr ⟨j, y, q1, q2, q3⟩
  have gx : ∀ a, gd Γ σ env a → a ≠ p → gd Γ (σ.set i (some (.ref p))) (env.set i (.dc t xs)) a := fun a q n => ⟨q.1, fun z => (ow a z).elim n q.2.1, q.2.2⟩
  -- what was told at H keeps away from p
  have keep : ∀ {v : Option (Option V)} {y : Sl}, SlR K Γ H (gd Γ σ env) v y → SlR K Γ H1 (gd Γ (σ.set i (some (.ref p))) (env.set i (.dc t xs))) v y := by
    intro v y q
    have m : ∀ {u : V} {x : PyData}, Df K H (gd Γ σ env) u x → Df K H1 (gd Γ (σ.set i (some (.ref p))) (env.set i (.dc t xs))) u x := fun q =>
      (q.avoid hf).mono (fun a u z k => ⟨gx a z.1 z.2, e a _ z.1.2.2 k⟩) fun _ _ z => tup_ext e R.draw z
    have ms : ∀ {u : List V} {x : List PyData}, DfAll K H (gd Γ σ env) u x → DfAll K H1 (gd Γ (σ.set i (some (.ref p))) (env.set i (.dc t xs))) u x := fun q =>
      (q.avoid hf).mono (fun a u z k => ⟨gx a z.1 z.2, e a _ z.1.2.2 k⟩) fun _ _ z => tup_ext e R.draw z
    cases y with
    | un => trivial
    | d x =>
      obtain ⟨u, q1, q2⟩ := q
      exact ⟨u, q1, m q2⟩
    | l x =>
      obtain ⟨a, u, q1, q2, q3, q4, q5, q6⟩ := q
      exact ⟨a, u, q1, e a _ q6 q2, ms q3, q4, q5, q6⟩
    | lk x =>
      obtain ⟨a, u, q1, q2, q3, q4, q5, q6⟩ := q
      exact ⟨a, u, q1, e a _ q6 q2, ms q3, q4, q5, q6⟩
    | dc t0 x =>
      obtain ⟨a, u, q1, q2, q3, q4, q5, q6⟩ := q
      exact ⟨a, u, q1, e a _ q6 q2, ms q3, q4, q5, q6⟩
    | drw => exact q
    | scr ns =>
      obtain ⟨a, q1, q2, q3⟩ := q
      exact ⟨a, q1, scr_ext e R.draw q2, q3⟩
  have free : Γ.H0 p = none := by
    cases q : Γ.H0 p with
    | none => rfl
    | some o =>
      have := R.ext p o np.2.2 q
      rw [hf] at this
      cases this
  -- an owning slot stands elsewhere
  have apart : ∀ (j : Nat) (y : Sl), env[j]? = some y → y.own = true → σ[j]? ≠ some (some (.ref p)) := fun j y hy oy z => by
    obtain ⟨us', q, _⟩ := R.own_at ⟨j, y, hy, oy, z⟩
    rw [hf] at q
    cases q
  refine ⟨by rw [List.length_set, List.length_set]; exact R.len, fun j y hy => ?_, fun j k y z hjk hj hk oj ok => ?_, R.okf, R1.ext, d, fun q eq z => ?_, fun q hq => ?_⟩
  · by_cases z : i = j
    · subst z
      rw [List.getElem?_set_self h2] at hy
      cases hy
      rw [List.getElem?_set_self h3]
      exact ⟨p, us, rfl, hH, hA.mono (fun a u q k => ⟨gx a q.1 q.2, k⟩) (fun _ _ q => q), hl, free, np.2.2⟩
    · rw [List.getElem?_set_ne z] at hy ⊢
      exact keep (R.slot j y hy)
  · by_cases n1 : i = j
    · subst n1
      have n2 : i ≠ k := hjk
      rw [List.getElem?_set_ne n2] at hk ⊢
      rw [List.getElem?_set_self h3]
      exact fun z' => apart k z hk ok z'.symm
    · rw [List.getElem?_set_ne n1] at hj ⊢
      by_cases n2 : i = k
      · subst n2
        rw [List.getElem?_set_self h3]
        exact fun z' => apart j y hj oj z'
      · rw [List.getElem?_set_ne n2] at hk ⊢
        exact R.sep j k y z hjk hj hk oj ok
  · rcases ow _ z with z | z
    · -- the cells' list was there at H
      have dd := R.draw
      unfold DrR at dd
      rw [eq] at dd
      cases hds : ds with
      | none => rw [hds] at dd; exact dd
      | some s =>
        rw [hds] at dd
        have := dd.2.1
        rw [z, hf] at this
        cases this
    · exact R.drc q eq z
  · obtain ⟨ys, e1, e2⟩ := R.lkd q hq
    have n1 : i ≠ q.1 := fun z => by
      subst z
      exact h1 ys e1
    exact ⟨ys, by rw [List.getElem?_set_ne n1]; exact e1, by rw [List.getElem?_set_ne n1]; exact e2⟩
/-- one's own dict is changed -/
theorem Rel.upd_dc (R : Rel K Γ σ H env ds) {i : Nat} {a : Addr} {us' : List V} {t : Bool} {xs xs' : List (List Int × PyData)} (hs : env[i]? = some (.dc t xs)) (hv : σ[i]? = some (some (.ref a))) (hl : xs'.length ≤ 1000000) (hA : DfAll K H (gd Γ σ env) us' (xs'.map (·.2))) :
    Rel K Γ σ (upd H a (dcObj t (xs'.map (·.1)) us')) (env.set i (.dc t xs')) ds := by
  have q := R.slot i _ hs
  obtain ⟨b, us0, e1, e2, e3, e4, e5, e6⟩ := q
  rw [hv] at e1
  cases e1
  have h2 : i < env.length := (List.getElem?_eq_some_iff.mp hs).1
  have oa : owned σ env a := ⟨i, _, hs, rfl, hv⟩
  have ow : ∀ c, owned σ (env.set i (.dc t xs')) c ↔ owned σ env c := fun c => by
    constructor
    · rintro ⟨j, y, q1, q2, q3⟩
      by_cases z : i = j
      · subst z
        exact ⟨i, _, hs, rfl, q3⟩
      · rw [List.getElem?_set_ne z] at q1
        exact ⟨j, y, q1, q2, q3⟩
    · rintro ⟨j, y, q1, q2, q3⟩
      by_cases z : i = j
      · subst z
        exact ⟨i, .dc t xs', by rw [List.getElem?_set_self h2], rfl, q3⟩
      · exact ⟨j, y, by rw [List.getElem?_set_ne z]; exact q1, q2, q3⟩
  have gg : ∀ c, gd Γ σ env c → gd Γ σ (env.set i (.dc t xs')) c ∧ c ≠ a := fun c q => ⟨⟨q.1, fun z => q.2.1 ((ow c).mp z), q.2.2⟩, fun z => q.2.1 (by rw [z]; exact oa)⟩
  have tq : ∀ c u, H c = some (.tup u) → upd H a (dcObj t (xs'.map (·.1)) us') c = some (.tup u) := fun c u q => by
    rw [upd_ne (ne_of q e2 (by intro z; cases t <;> cases z))]; exact q
  have m : ∀ {u : V} {x : PyData}, Df K H (gd Γ σ env) u x → Df K (upd H a (dcObj t (xs'.map (·.1)) us')) (gd Γ σ (env.set i (.dc t xs'))) u x := fun q =>
    q.mono (fun c u z k => ⟨(gg c z).1, by rw [upd_ne (gg c z).2]; exact k⟩) tq
  have ms : ∀ {u : List V} {x : List PyData}, DfAll K H (gd Γ σ env) u x → DfAll K (upd H a (dcObj t (xs'.map (·.1)) us')) (gd Γ σ (env.set i (.dc t xs'))) u x := fun q =>
    q.mono (fun c u z k => ⟨(gg c z).1, by rw [upd_ne (gg c z).2]; exact k⟩) tq
  refine ⟨by rw [List.length_set]; exact R.len, fun j y hy => ?_, fun j k y z hjk hj hk oj ok => ?_, R.okf, fun c o n q => ?_, ?_, fun p e z => R.drc p e ((ow _).mp z), fun p hp => ?_⟩
  · by_cases z : i = j
    · subst z
      rw [List.getElem?_set_self h2] at hy
      cases hy
      exact ⟨a, us', hv, upd_same, ms hA, hl, e5, e6⟩
    · rw [List.getElem?_set_ne z] at hy
      have q := R.slot j y hy
      have ne : ∀ b, y.own = true → σ[j]? = some (some (.ref b)) → b ≠ a := fun b oy e w => R.sep i j _ y z hs hy rfl oy (by rw [hv, e, w])
      cases y with
      | un => trivial
      | d x =>
        obtain ⟨u, q1, q2⟩ := q
        exact ⟨u, q1, m q2⟩
      | l x =>
        obtain ⟨b, u, q1, q2, q3, q4⟩ := q
        exact ⟨b, u, q1, by rw [upd_ne (ne b rfl q1)]; exact q2, ms q3, q4⟩
      | lk x =>
        obtain ⟨b, u, q1, q2, q3, q4⟩ := q
        exact ⟨b, u, q1, by rw [upd_ne (ne b rfl q1)]; exact q2, ms q3, q4⟩
      | dc t0 x =>
        obtain ⟨b, u, q1, q2, q3, q4⟩ := q
        exact ⟨b, u, q1, by rw [upd_ne (ne b rfl q1)]; exact q2, ms q3, q4⟩
      | drw => exact q
      | scr ns =>
        obtain ⟨b, q1, q2, q3⟩ := q
        refine ⟨b, q1, ?_, q3⟩
        rcases q2 with ⟨o, q2⟩ | q2
        · refine .inl ⟨o, ?_⟩
          rw [upd_ne (ne_of q2 e2 (by intro z; cases t <;> cases z))]
          exact q2
        · exact .inr q2
  · have hj' : ∃ y', env[j]? = some y' ∧ y'.own = true := by
      by_cases z : i = j
      · subst z; exact ⟨_, hs, rfl⟩
      · rw [List.getElem?_set_ne z] at hj; exact ⟨y, hj, oj⟩
    have hk' : ∃ y', env[k]? = some y' ∧ y'.own = true := by
      by_cases z : i = k
      · subst z; exact ⟨_, hs, rfl⟩
      · rw [List.getElem?_set_ne z] at hk; exact ⟨_, hk, ok⟩
    obtain ⟨y1, q1, q2⟩ := hj'
    obtain ⟨y2, q3, q4⟩ := hk'
    exact R.sep j k y1 y2 hjk q1 q3 q2 q4
  · have w := R.ext c o n q
    have : c ≠ a := fun z => by rw [z, e5] at q; cases q
    rw [upd_ne this]
    exact w
  · have dd := R.draw
    unfold DrR at dd ⊢
    cases hdr : Γ.dr with
    | none =>
      rw [hdr] at dd
      cases ds with
      | none => trivial
      | some s => exact dd
    | some p =>
      rw [hdr] at dd
      cases ds with
      | none => exact dd
      | some s =>
        obtain ⟨d1, d2, d3⟩ := dd
        refine ⟨by rw [upd_ne fun z => e6 p hdr z.symm]; exact d1, ?_, d3⟩
        have : p.2 ≠ a := fun z => R.drc p hdr (by rw [z]; exact oa)
        rw [upd_ne this]
        exact d2
  · obtain ⟨ys, q1, q2⟩ := R.lkd p hp
    have n1 : i ≠ p.1 := fun z => by
      subst z
      rw [hs] at q1
      cases q1
    exact ⟨ys, by rw [List.getElem?_set_ne n1]; exact q1, q2⟩
end
/-! ### dicts as lists of pairs -/
def keyEq (t : Bool) (a b : List Int) : Bool := if t then a == b else a.headD 0 == b.headD 0
def dGet (t : Bool) (kvs : List (List Int × PyData)) (k : List Int) : Option PyData := (kvs.find? fun p => keyEq t p.1 k).map (·.2)
def dPut (t : Bool) (kvs : List (List Int × PyData)) (k : List Int) (x : PyData) : List (List Int × PyData) := if kvs.any (fun p => keyEq t p.1 k) then kvs.map (fun p => if keyEq t p.1 k then (p.1, x) else p) else kvs ++ [(k, x)]
def keyOf (t : Bool) (d : PyData) : Option (List Int) := match t, d with
  | true, .tuple ds => intsOf ds
  | false, .int n => some [n]
  | _, _ => none
section
variable {K : PySem.W.Frag} {H : Hp} {g : Addr → Prop} {κ : Type} [DecidableEq κ] {f : List Int → κ} {t : Bool}
theorem zip_get (hf : ∀ a b, decide (f a = f b) = keyEq t a b) (k : List Int) : ∀ (kvs : List (List Int × PyData)) (us : List V), DfAll K H g us (kvs.map (·.2)) → (L2.valV (((kvs.map (·.1)).map f).zip us) (f k) = none ∧ dGet t kvs k = none) ∨ ∃ v x, L2.valV (((kvs.map (·.1)).map f).zip us) (f k) = some v ∧ dGet t kvs k = some x ∧ Df K H g v x
  | [], _, .nil => .inl ⟨rfl, rfl⟩
  | p :: r, _, .cons (v := v) (vs := vs) h tl => by
    have e := hf p.1 k
    unfold dGet
    rw [List.find?_cons]
    by_cases c : f p.1 = f k
    · rw [decide_eq_true c] at e
      rw [← e]
      exact .inr ⟨v, p.2, L2.valV_pos (p := (f p.1, v)) c, rfl, h⟩
    · rw [decide_eq_false c] at e
      rw [← e]
      have q : L2.valV ((((p :: r).map (·.1)).map f).zip (v :: vs)) (f k) = L2.valV (((r.map (·.1)).map f).zip vs) (f k) := L2.valV_neg (p := (f p.1, v)) c
      rw [q]
      exact zip_get hf k r vs tl
theorem zip_rep (hf : ∀ a b, decide (f a = f b) = keyEq t a b) (k : List Int) {v : V} {x : PyData} (hv : Df K H g v x) : ∀ (kvs : List (List Int × PyData)) (us : List V), DfAll K H g us (kvs.map (·.2)) →
    ∃ us', (((kvs.map (·.1)).map f).zip us).map (fun kv => if kv.1 = f k then (kv.1, v) else kv) = (((kvs.map fun p => if keyEq t p.1 k then (p.1, x) else p).map (·.1)).map f).zip us' ∧ DfAll K H g us' ((kvs.map fun p => if keyEq t p.1 k then (p.1, x) else p).map (·.2))
  | [], _, .nil => ⟨[], rfl, .nil⟩
  | p :: r, _, .cons (v := w) (vs := vs) h tl => by
    obtain ⟨us', e1, e2⟩ := zip_rep hf k hv r vs tl
    have e := hf p.1 k
    by_cases c : f p.1 = f k
    · rw [decide_eq_true c] at e
      refine ⟨v :: us', ?_, ?_⟩
      · show (if f p.1 = f k then (f p.1, v) else (f p.1, w)) :: List.map _ _ = ((f (if keyEq t p.1 k then (p.1, x) else p).1), v) :: _
        rw [if_pos c, ← e, if_pos rfl]
        exact congrArg _ e1
      · show DfAll K H g _ ((if keyEq t p.1 k then (p.1, x) else p).2 :: _)
        rw [← e, if_pos rfl]
        exact .cons hv e2
    · rw [decide_eq_false c] at e
      refine ⟨w :: us', ?_, ?_⟩
      · show (if f p.1 = f k then (f p.1, v) else (f p.1, w)) :: List.map _ _ = ((f (if keyEq t p.1 k then (p.1, x) else p).1), w) :: _
        rw [if_neg c, ← e, if_neg Bool.false_ne_true]
        exact congrArg _ e1
      · show DfAll K H g _ ((if keyEq t p.1 k then (p.1, x) else p).2 :: _)
        rw [← e, if_neg Bool.false_ne_true]
        exact .cons h e2
theorem zip_any (hf : ∀ a b, decide (f a = f b) = keyEq t a b) (k : List Int) : ∀ (kvs : List (List Int × PyData)) (us : List V), us.length = kvs.length → ((((kvs.map (·.1)).map f).zip us).any fun kv => decide (kv.1 = f k)) = kvs.any fun p => keyEq t p.1 k
  | [], _, _ => rfl
  | p :: r, [], h => by cases h
  | p :: r, v :: vs, h => by
    show (decide (f p.1 = f k) || _) = (keyEq t p.1 k || _)
    rw [hf]
    exact congrArg _ (zip_any hf k r vs (by simpa using h))
theorem zip_put (hf : ∀ a b, decide (f a = f b) = keyEq t a b) (k : List Int) {v : V} {x : PyData} (hv : Df K H g v x) (kvs : List (List Int × PyData)) (us : List V) (h : DfAll K H g us (kvs.map (·.2))) :
    ∃ us', L2.putK (((kvs.map (·.1)).map f).zip us) (f k) v = (((dPut t kvs k x).map (·.1)).map f).zip us' ∧ DfAll K H g us' ((dPut t kvs k x).map (·.2)) := by
  have ln : us.length = kvs.length := by rw [h.length, List.length_map]
  unfold L2.putK dPut
  rw [zip_any hf k kvs us ln]
  by_cases c : (kvs.any fun p => keyEq t p.1 k) = true
  · rw [if_pos c, if_pos c]
    exact zip_rep hf k hv kvs us h
  · rw [if_neg c, if_neg c]
    refine ⟨us ++ [v], ?_, ?_⟩
    · rw [List.map_append, List.map_append, List.zip_append (by rw [List.length_map, List.length_map, ln])]
      rfl
    · rw [List.map_append]
      exact h.append (.cons hv .nil)
end
theorem inlK (a b : List Int) : decide (a.map (Sum.inl : Int → Key) = b.map Sum.inl) = keyEq true a b := by
  show _ = (a == b)
  by_cases h : a = b
  · subst h; simp
  · rw [beq_eq_false_iff_ne.mpr h]
    refine decide_eq_false fun q => h ?_
    exact (List.map_inj_right (fun x y z => by cases z; rfl)).mp q
theorem headK (a b : List Int) : decide ((Sum.inl (a.headD 0) : Key) = Sum.inl (b.headD 0)) = keyEq false a b := by
  show _ = (a.headD 0 == b.headD 0)
  by_cases h : a.headD 0 = b.headD 0
  · rw [h]; simp
  · rw [beq_eq_false_iff_ne.mpr h]
    exact decide_eq_false fun q => h (Sum.inl.inj q)
section
variable {K : PySem.W.Frag} {H : Hp} {g : Addr → Prop} {t : Bool} {a : Addr} {kvs : List (List Int × PyData)} {us : List V} {y : V} {d : PyData} {k : List Int}
/-- a key by its value -/
theorem key_v (hy : Df K H g y d) (hk : keyOf t d = some k) : (t = true ∧ ∃ b, y = .ref b ∧ H b = some (.tup ((k.map (Sum.inl : Int → Key)).map kV))) ∨ (t = false ∧ y = kV (.inl (k.headD 0))) := by
  unfold keyOf at hk
  split at hk
  · cases hy with
    | tup h1 h2 h3 =>
      obtain rfl := intsOf_eq hk
      have e := h3.ints_inv
      subst e
      refine .inl ⟨rfl, _, rfl, ?_⟩
      rw [h1, List.map_map]
      rfl
  · cases hk
    cases hy
    exact .inr ⟨rfl, rfl⟩
  · cases hk
theorem dc_get (h : H a = some (dcObj t (kvs.map (·.1)) us)) (hA : DfAll K H g us (kvs.map (·.2))) (hy : Df K H g y d) (hk : keyOf t d = some k) : (DGet H a y none ∧ dGet t kvs k = none) ∨ ∃ v x, DGet H a y (some v) ∧ dGet t kvs k = some x ∧ Df K H g v x := by
  rcases key_v hy hk with ⟨rfl, b, rfl, hb⟩ | ⟨rfl, rfl⟩
  · have G := DGet.t (k := k.map Sum.inl) (show H a = some (.dT (((kvs.map (·.1)).map fun k => k.map Sum.inl).zip us)) from h) hb
    rcases zip_get (f := fun k => k.map (Sum.inl : Int → Key)) (t := true) inlK k kvs us hA with ⟨q1, q2⟩ | ⟨v, x, q1, q2, q3⟩
    · rw [q1] at G; exact .inl ⟨G, q2⟩
    · rw [q1] at G; exact .inr ⟨v, x, G, q2, q3⟩
  · have G := DGet.k (k := Sum.inl (k.headD 0)) (show H a = some (.dK (((kvs.map (·.1)).map fun k => Sum.inl (k.headD 0)).zip us)) from h)
    rcases zip_get (f := fun k => (Sum.inl (k.headD 0) : Key)) (t := false) headK k kvs us hA with ⟨q1, q2⟩ | ⟨v, x, q1, q2, q3⟩
    · rw [q1] at G; exact .inl ⟨G, q2⟩
    · rw [q1] at G; exact .inr ⟨v, x, G, q2, q3⟩
theorem dc_put {v : V} {x : PyData} (h : H a = some (dcObj t (kvs.map (·.1)) us)) (hA : DfAll K H g us (kvs.map (·.2))) (hy : Df K H g y d) (hk : keyOf t d = some k) (hv : Df K H g v x) (hl : kvs.length < 1000000) : ∃ us', DPut H a y v (upd H a (dcObj t ((dPut t kvs k x).map (·.1)) us')) ∧ DfAll K H g us' ((dPut t kvs k x).map (·.2)) := by
  have ln : us.length = kvs.length := by rw [hA.length, List.length_map]
  have sl := sizeLine_eq
  rcases key_v hy hk with ⟨rfl, b, rfl, hb⟩ | ⟨rfl, rfl⟩
  · obtain ⟨us', e1, e2⟩ := zip_put (f := fun k => k.map (Sum.inl : Int → Key)) (t := true) inlK k hv kvs us hA
    have P := DPut.t (k := k.map Sum.inl) (v := v) (show H a = some (.dT (((kvs.map (·.1)).map fun k => k.map Sum.inl).zip us)) from h) hb (by rw [List.length_zip, List.length_map, List.length_map, ln, Nat.min_self]; omega)
    rw [e1] at P
    exact ⟨us', P, e2⟩
  · obtain ⟨us', e1, e2⟩ := zip_put (f := fun k => (Sum.inl (k.headD 0) : Key)) (t := false) headK k hv kvs us hA
    have P := DPut.k (k := Sum.inl (k.headD 0)) (v := v) (show H a = some (.dK (((kvs.map (·.1)).map fun k => Sum.inl (k.headD 0)).zip us)) from h) (by rw [List.length_zip, List.length_map, List.length_map, ln, Nat.min_self]; omega)
    rw [e1] at P
    exact ⟨us', P, e2⟩
end
end DL

/-! DL18: dicts in the text: d[k], in, d.get, d[k] = v, displays. -/
namespace DL
open PySem PySem.Spec L2
open PyProof.Rows hiding St

/-! ### the meanings -/
def onD {α : Type} (i : Nat) (f : Bool → List (List Int × PyData) → ME α) : ME α := fun env ds => match env[i]? with
  | some (.dc t kvs) => f t kvs env ds
  | _ => none
/-- what stands under a key, if anything -/
def look (t : Bool) (kvs : List (List Int × PyData)) (d : PyData) : Option (Option PyData) := (keyOf t d).map (dGet t kvs)
def mDget (i : Nat) (k : ME PyData) : ME PyData := onD i fun t kvs => k.bind fun d => ME.lift ((look t kvs d).bind id)
def mDin (i : Nat) (k : ME PyData) : ME PyData := k.bind fun d => onD i fun t kvs => ME.lift ((look t kvs d).map fun o => .bool o.isSome)
def mDnot (i : Nat) (k : ME PyData) : ME PyData := k.bind fun d => onD i fun t kvs => ME.lift ((look t kvs d).map fun o => .bool (!o.isSome))
def mDget2 (i : Nat) (k x : ME PyData) : ME PyData := onD i fun t kvs => k.bind fun d => x.bind fun y => ME.lift ((look t kvs d).map fun o => o.getD y)
def mDput (i : Nat) (k x : ME PyData) : MS := exS x fun y env ds => match env[i]? with
  | some (.dc t kvs) => exS k (fun d env ds => match keyOf t d with
    | some z => if decide (kvs.length < 1000000) then some (.nx (env.set i (.dc t (dPut t kvs z y))), ds) else none
    | none => none) env ds
  | _ => none
abbrev DcL := List (List Int × PyData)
def mDempty : ME DcL := ME.pure []
def mDone (t : Bool) (k x : ME PyData) : ME DcL := k.bind fun d => x.bind fun y => ME.lift ((keyOf t d).map fun z => [(z, y)])
def mSetD (i : Nat) (t : Bool) (m : ME DcL) : MS := exS m fun kvs env ds => if decide (kvs.length ≤ 1000000) then match put i (.dc t kvs) env with
    | some env' => some (.nx env', ds)
    | none => none
  else none

section
variable {X : Cx} {C : Exs} {W : WX} {fr : Bool} {e e2 : Expr} {mk mx : ME PyData} {p pos pos' : Pos} {x : Str}
theorem dc_at {K : PySem.W.Frag} {Γ : Gm} {σ : St} {H H1 : Hp} {env : Ev} {ds ds1 : DS} (R : Rel K Γ σ H env ds) {i : Nat} {t : Bool} {kvs : DcL} (h : env[i]? = some (.dc t kvs)) (x1 : Ext Γ H H1) (d1 : DrR K Γ H1 ds1) : ∃ a us, σ[i]? = some (some (V.ref a)) ∧ H1 a = some (dcObj t (kvs.map (·.1)) us) ∧ DfAll K H1 (gd Γ σ env) us (kvs.map (·.2)) ∧ kvs.length ≤ 1000000 := by
  obtain ⟨a, us, q1, q2, q3, q4, _⟩ := (R.go x1 d1).slot i _ h
  exact ⟨a, us, q1, q2, q3, q4⟩
theorem look_rd {K : PySem.W.Frag} {H : Hp} {g : Addr → Prop} {t : Bool} {a : Addr} {kvs : DcL} {us : List V} {y : V} {d : PyData} {o : Option PyData} (h : H a = some (dcObj t (kvs.map (·.1)) us)) (hA : DfAll K H g us (kvs.map (·.2))) (hy : Df K H g y d) (hl : look t kvs d = some o) : ∃ w, DGet H a y w ∧ w.isSome = o.isSome ∧ ∀ x, o = some x → ∃ v, w = some v ∧ Df K H g v x := by
  obtain ⟨k, hk, rfl⟩ := Option.map_eq_some_iff.mp hl
  rcases dc_get h hA hy hk with ⟨G, q⟩ | ⟨v, x, G, q, hv⟩
  · rw [q]
    exact ⟨none, G, rfl, fun x z => by cases z⟩
  · rw [q]
    exact ⟨some v, G, rfl, fun x z => by cases z; exact ⟨v, rfl, hv⟩⟩
theorem se_dget (i : Nat) (hu : X.A.units + 65 < cLine) (hk : SE X C W e mk) (hN : X.N[i]? = some x := by rfl) (hv : Vis X.env.scope x := by first | exact Or.inl rfl | exact Or.inr (Or.inl rfl) | exact Or.inr (Or.inr rfl)) (hd : (x == ("__debug__" : Str)) = false := by decide) (hcd : (x == ("__classdict__" : Str)) = false := by decide)
    (hs : NoSl e := by exact fun _ _ => rfl) : SE X C W (.Subscript (.Name x p) e pos) (mDget i mk) :=
  PE.imp (pe_dget (by omega) (pe_var hN hv hd hcd) hk hs) fun σ H Q ⟨Γ, env, ds, R, h⟩ => by
    unfold mDget onD at h
    rcases q : env[i]? with _ | y
    · rw [q] at h; exact h.elim
    · rw [q] at h
      cases y with
      | dc t kvs =>
        obtain ⟨a, us, q1, _⟩ := dc_at R q Ext.refl R.draw
        refine ⟨_, q1, Γ, env, ds, R, (Aft.bind h).imp fun d ds1 H1 e1 d1 h y hy => ?_⟩
        obtain ⟨a', us', r1, r2, r3, _⟩ := dc_at R q e1 d1
        rw [q1] at r1
        cases r1
        obtain ⟨z, hz, h⟩ := lift_some h
        obtain ⟨o, ho, hz⟩ := Option.bind_eq_some_iff.mp hz
        obtain ⟨w, G, _, g2⟩ := look_rd r2 r3 hy ho
        obtain ⟨v, rfl, hv⟩ := g2 z hz
        exact ⟨a, v, rfl, G, h H1 Ext.refl d1 v hv⟩
      | _ => exact h.elim
theorem din_rd {K : PySem.W.Frag} {σ : St} {H : Hp} {Q : VK} {i : Nat} (h : rdG MD K C W (mDin i mk) σ H Q) : tDIn (rdG MD K C W mk) (tVar i) σ H Q := by
  obtain ⟨Γ, env, ds, R, h⟩ := h
  refine ⟨Γ, env, ds, R, (Aft.bind h).imp fun d ds1 H1 e1 d1 h y hy => ?_⟩
  dsimp only [onD] at h
  rcases q : env[i]? with _ | z
  · rw [q] at h; exact h.elim
  · rw [q] at h
    cases z with
    | dc t kvs =>
      obtain ⟨a, us, r1, r2, r3, _⟩ := dc_at R q e1 d1
      obtain ⟨z, hz, h⟩ := lift_some h
      obtain ⟨o, ho, rfl⟩ := Option.map_eq_some_iff.mp hz
      obtain ⟨w, G, g1, _⟩ := look_rd r2 r3 hy ho
      exact ⟨_, r1, a, w, rfl, G, h H1 Ext.refl d1 _ (by rw [g1]; exact .bl _)⟩
    | _ => exact h.elim
theorem dnot_rd {K : PySem.W.Frag} {σ : St} {H : Hp} {Q : VK} {i : Nat} (h : rdG MD K C W (mDnot i mk) σ H Q) : tDNotIn (rdG MD K C W mk) (tVar i) σ H Q := by
  obtain ⟨Γ, env, ds, R, h⟩ := h
  refine ⟨Γ, env, ds, R, (Aft.bind h).imp fun d ds1 H1 e1 d1 h y hy => ?_⟩
  dsimp only [onD] at h
  rcases q : env[i]? with _ | z
  · rw [q] at h; exact h.elim
  · rw [q] at h
    cases z with
    | dc t kvs =>
      obtain ⟨a, us, r1, r2, r3, _⟩ := dc_at R q e1 d1
      obtain ⟨z, hz, h⟩ := lift_some h
      obtain ⟨o, ho, rfl⟩ := Option.map_eq_some_iff.mp hz
      obtain ⟨w, G, g1, _⟩ := look_rd r2 r3 hy ho
      exact ⟨_, r1, a, w, rfl, G, h H1 Ext.refl d1 _ (by rw [g1]; exact .bl _)⟩
    | _ => exact h.elim
theorem se_din (i : Nat) (hu : X.A.units + 65 < cLine) (hk : SE X C W e mk) (hN : X.N[i]? = some x := by rfl) (hv : Vis X.env.scope x := by first | exact Or.inl rfl | exact Or.inr (Or.inl rfl) | exact Or.inr (Or.inr rfl)) (hd : (x == ("__debug__" : Str)) = false := by decide) (hcd : (x == ("__classdict__" : Str)) = false := by decide) : SE X C W (.Compare e [.In] [.Name x p] pos) (mDin i mk) :=
  PE.imp (pe_cmp (pc_din (by omega) hk (pe_var hN hv hd hcd)) rfl) fun _ _ _ h => din_rd h
theorem se_dnot (i : Nat) (hu : X.A.units + 65 < cLine) (hk : SE X C W e mk) (hN : X.N[i]? = some x := by rfl) (hv : Vis X.env.scope x := by first | exact Or.inl rfl | exact Or.inr (Or.inl rfl) | exact Or.inr (Or.inr rfl)) (hd : (x == ("__debug__" : Str)) = false := by decide) (hcd : (x == ("__classdict__" : Str)) = false := by decide) : SE X C W (.Compare e [.NotIn] [.Name x p] pos) (mDnot i mk) :=
  PE.imp (pe_cmp (pc_dnotin (by omega) hk (pe_var hN hv hd hcd)) rfl) fun _ _ _ h => dnot_rd h
theorem st_din (i : Nat) (hu : X.A.units + 65 < cLine) (hk : SE X C W e mk) (hN : X.N[i]? = some x := by rfl) (hv : Vis X.env.scope x := by first | exact Or.inl rfl | exact Or.inr (Or.inl rfl) | exact Or.inr (Or.inr rfl)) (hd : (x == ("__debug__" : Str)) = false := by decide) (hcd : (x == ("__classdict__" : Str)) = false := by decide) : ST X C W (.Compare e [.In] [.Name x p] pos) (mTst (mDin i mk)) :=
  PT.imp (pt_cmp (pc_din (by omega) hk (pe_var hN hv hd hcd)) rfl) fun _ _ _ h => tst_rd (fun _ _ _ z => din_rd z) h
theorem st_dnot (i : Nat) (hu : X.A.units + 65 < cLine) (hk : SE X C W e mk) (hN : X.N[i]? = some x := by rfl) (hv : Vis X.env.scope x := by first | exact Or.inl rfl | exact Or.inr (Or.inl rfl) | exact Or.inr (Or.inr rfl)) (hd : (x == ("__debug__" : Str)) = false := by decide) (hcd : (x == ("__classdict__" : Str)) = false := by decide) : ST X C W (.Compare e [.NotIn] [.Name x p] pos) (mTst (mDnot i mk)) :=
  PT.imp (pt_cmp (pc_dnotin (by omega) hk (pe_var hN hv hd hcd)) rfl) fun _ _ _ h => tst_rd (fun _ _ _ z => dnot_rd z) h
theorem ss_dput (i : Nat) {sp : Pos} (hu : X.A.units + 65 < cLine) (hx : SE X C W e2 mx) (hk : SE X C W e mk) (hN : X.N[i]? = some x := by rfl) (hv : Vis X.env.scope x := by first | exact Or.inl rfl | exact Or.inr (Or.inl rfl) | exact Or.inr (Or.inr rfl)) (hd : (x == ("__debug__" : Str)) = false := by decide) (hcd : (x == ("__classdict__" : Str)) = false := by decide)
    (hs : swapsWith e2 (some (.Subscript (.Name x p) e sp)) pos.line X.env = pure false := by rfl) : SS X C W fr (.Assign [.Subscript (.Name x p) e sp] e2 pos) (mDput i mk mx) :=
  PS.imp (L2.ps_dput (by omega) (pe_var hN hv hd hcd) hk hx hs) fun D σ H ⟨Γ, env, ds, R, h⟩ => ⟨Γ, env, ds, R, (exS_aft R h).imp fun y ds1 H1 x1 d1 h v hv => by
    have R1 := R.go x1 d1
    rcases q : env[i]? with _ | z
    · rw [q] at h; exact h.elim
    · rw [q] at h
      cases z with
      | dc t kvs =>
        obtain ⟨a, us, q1, _⟩ := dc_at R1 q Ext.refl R1.draw
        refine ⟨_, q1, Γ, env, ds1, R1, (exS_aft R1 h).imp fun d ds2 H2 x2 d2 h w hw => ?_⟩
        have R2 := R1.go x2 d2
        obtain ⟨a', us', r1, r2, r3, r4⟩ := dc_at R1 q x2 d2
        rw [q1] at r1
        cases r1
        cases hz : keyOf t d with
        | none => rw [hz] at h; exact h.elim
        | some z =>
          rw [hz] at h
          dsimp only at h
          by_cases hl : kvs.length < 1000000
          · rw [decide_eq_true hl, if_pos rfl] at h
            obtain ⟨us2, P, hA⟩ := dc_put r2 r3 hw hz (Df.ext x2 d1 hv) hl
            refine ⟨a, _, rfl, P, h _ _ (R2.upd_dc q q1 ?_ hA)⟩
            unfold dPut
            split
            · rw [List.length_map]; omega
            · rw [List.length_append, List.length_singleton]; omega
          · rw [decide_eq_false hl, if_neg Bool.false_ne_true] at h
            exact h.elim
      | _ => exact h.elim⟩
/-! ### displays -/
def rdDc (K : PySem.W.Frag) (C : Exs) (W : WX) (t : Bool) (m : ME DcL) : TE := fun σ H Q => ∃ Γ env ds, Rel K Γ σ H env ds ∧
  Aft K C W Γ σ H (m env ds) fun kvs _ H' => ∀ a us, H a = none → H' a = some (dcObj t (kvs.map (·.1)) us) → DfAll K H' (gdx Γ σ env a) us (kvs.map (·.2)) → Q (.ref a) H'
abbrev SD (X : Cx) (C : Exs) (W : WX) (t : Bool) (e : Expr) (m : ME DcL) : Prop := PE X e (rdDc X.K C W t m)
theorem sd_emptyT : SD X C W true (.Dict [] [] pos) mDempty := PE.imp pe_dnewT fun σ H Q ⟨Γ, env, ds, R, h⟩ p hp => h _ (ext_new hp) (R.draw.new hp) p [] hp upd_same .nil
theorem sd_emptyK : SD X C W false (.Dict [] [] pos) mDempty := PE.imp pe_dnewK fun σ H Q ⟨Γ, env, ds, R, h⟩ p hp => h _ (ext_new hp) (R.draw.new hp) p [] hp upd_same .nil
theorem ss_setD (i : Nat) {t : Bool} {m : ME DcL} (hN : X.N.Nodup) (he : SD X C W t e m) (hi : X.N[i]? = some x := by rfl) (hx : Loc X.env.scope x := by exact .inl rfl) (hs : swapsWith e (some (.Name x p)) pos.line X.env = pure false := by rfl)
    (hf : X.fn x = true ∨ X.env.scope.names.lookup x = some .local := by first | exact .inl rfl | exact .inr rfl) : SS X C W fr (.Assign [.Name x p] e pos) (mSetD i t m) :=
  PS.imp (ps_set hN hi hx he hs hf) fun D σ H ⟨Γ, env, ds, R, h⟩ => ⟨Γ, env, ds, R, (exS_aft R h).imp fun kvs ds1 H1 e1 d1 h a us q1 q2 q3 => by
    by_cases hl : kvs.length ≤ 1000000
    · rw [decide_eq_true hl, if_pos rfl] at h
      cases hp : put i (.dc t kvs) env with
      | none => rw [hp] at h; exact h.elim
      | some env' =>
        rw [hp] at h
        exact h _ _ (R.set_dc e1 d1 q1 q2 hl q3 hp)
    · rw [decide_eq_false hl, if_neg Bool.false_ne_true] at h
      exact h.elim⟩
/-- {k: v}, k a tuple of ints -/
def tDispT (tk tv : TE) : TE := fun σ H Q => ∀ p, H p = none → tPairs [(tk, tv)] σ (upd H p (.dT [])) fun ps H2 => H2 p = some (.dT []) ∧ ∃ (b : Addr) (k : List Key) (v : V), ps = [(.ref b, v)] ∧ H2 b = some (.tup (k.map kV)) ∧ Q (.ref p) (upd H2 p (.dT [(k, v)]))
theorem pe_dispT {k v : Expr} {tk tv : TE} (hu : X.A.units + 65 < cLine) (hk : PE X k tk) (hv : PE X v tv) : PE X (.Dict [some k] [v] pos) (tDispT tk tv) := by
  refine ⟨fun pins s σ H Q I q => ?_⟩
  have hn := I.hok.fresh (Nat.le_refl s.heap.objs.size)
  have I1 := I.laid (a := s.heap.objs.size) (o := .dT []) (h' := s.heap.push { cls := .type "dict", data := .dict #[] }) (t' := s.toks) (fun _ _ z => Heap.get?_push_of_some _ z) (Nat.le_refl _) (dt_empty s.heap I.big)
  rw [arm_eval_Dict, zip_pairTrees [some k] [v] X.env pos rfl rfl, dictDisplay_pairs (pairTrees [some k] [v] X.env pos) (fun z => by cases z) (by show 1 < 17; decide)]
  refine wpAny_bind (wpAny_standAt (wpAny_bind (wpAny_subDictH (knd := tupleKind (mixKind X.prog X.w)) (Q := fun d s' => wpAny (model X.prog X.w) X.A (pure (Value.ref d)) (EP X pins σ Q) X.xe s') (show (tupleKind (mixKind X.prog X.w)).room X.A from (show X.A.units < cLine by omega)) (by show 1 ≤ 15; decide) ?_)))
  refine thn ((pps_cons hk hv pps_nil).run pins _ σ _ _ I1 (q _ hn)) fun ws s2 ⟨ps, H2, I2, rel, e0, b, ks, w, ep, eb, q2⟩ => ?_
  subst ep
  obtain ⟨z, hd, xs, r0, dd⟩ := dt_of I2.hok e0
  cases r0
  cases rel with
  | @cons _ c _ _ h1 h2 =>
    cases h2
    obtain ⟨u1, u2⟩ := c
    obtain ⟨h3, h4⟩ := h1
    obtain rfl : u1 = Value.ref b := h3
    refine ⟨[(ks, b, u2)], ⟨rfl, rfl, key_of I2.hok eb, trivial⟩, dd, fun h' tk' dd' hs => wpAny_pure ?_⟩
    obtain ⟨o, es, epo, hq, k2, k3, k4, _, k5⟩ := dd'
    refine ⟨.ref s.heap.objs.size, upd H2 s.heap.objs.size (.dT [(ks, w)]), d_write (ob := .dT [(ks, w)]) I2 (by rw [e0]; exact True.intro) hs ⟨o, hq⟩ ⟨?_, hd, [(ks, b, u2)], .cons ⟨rfl, ?_, h4⟩ .nil, o, es, epo, hq, k2, k3, k4, k5⟩, rfl, q2⟩
    · rw [sizeLine_eq]; exact (by decide : 1 ≤ 16777216)
    · rw [upd_ne (ne_of eb e0 (fun z => nomatch z))]
      exact eb
theorem sd_oneT (hu : X.A.units + 65 < cLine) (hk : SE X C W e mk) (hv : SE X C W e2 mx) : SD X C W true (.Dict [some e] [e2] pos) (mDone true mk mx) :=
  PE.imp (pe_dispT hu hk hv) fun σ H Q ⟨Γ, env, ds, R, h⟩ p hp => by
    have x0 : Ext Γ H (upd H p (.dT [])) := ext_new hp
    have y0 := R.draw.new (o := .dT []) hp
    have R0 := R.go x0 y0
    have B : Rel X.K (Γ.blk σ env (upd H p (.dT [])) p) σ (upd H p (.dT [])) env ds := R.blk (vs := []) hp x0 y0 ⟨_, upd_same⟩ rfl
    have h0 : Aft X.K C W Γ σ (upd H p (.dT [])) (mDone true mk mx env ds) fun kvs ds' _ => ∀ (H3 : Hp) (us : List V), Ext Γ H H3 → DrR X.K Γ H3 ds' → H3 p = some (dcObj true (kvs.map (·.1)) us) → DfAll X.K H3 (gdx Γ σ env p) us (kvs.map (·.2)) → Q (.ref p) H3 := by
      revert h
      unfold Aft
      rcases mDone true mk mx env ds with _ | ⟨kvs | x, ds'⟩
      · exact id
      · exact fun h H' _ _ H3 us x3 d3 q1 q2 => h H3 x3 d3 p us hp q1 q2
      · exact fun h cls d H' x1 d1 hx => h cls d H' (x0.trans x1) d1 hx
    refine ⟨_, env, ds, B, (Aft.bind h0).blk.imp fun d ds1 H1 e1 d1 h v hv => ?_⟩
    have B1 := B.go e1 d1
    refine ⟨_, env, ds1, B1, (Aft.bind h).blk.imp fun y ds2 H2 e2 d2 h w hw => ?_⟩
    obtain ⟨z, hz, h⟩ := lift_some h
    obtain ⟨k, hk, rfl⟩ := Option.map_eq_some_iff.mp hz
    have nd := (R.new_gd hp).2.2
    have pH : H2 p = some (.dT []) := e2 p _ nd (e1 p _ nd upd_same)
    have hv2 : Df X.K H2 (gd (Γ.blk σ env (upd H p (.dT [])) p) σ env) v d := Df.ext e2 d1 hv
    rcases key_v hv2 hk with ⟨_, b, rfl, hb⟩ | ⟨z, _⟩
    · refine ⟨pH, b, _, w, rfl, hb, ?_⟩
      have hbp : b ≠ p := fun z => by rw [z, pH] at hb; cases hb
      have nx : ∀ a o, a ≠ p → H2 a = some o → upd H2 p (.dT [(k.map Sum.inl, w)]) a = some o := fun a o n q => by rw [upd_ne n]; exact q
      have x12 : Ext Γ H H2 := x0.trans (e1.trans e2)
      have fin := h H2 Ext.refl d2.unblk
      have x3 : Ext Γ H (upd H2 p (.dT [(k.map Sum.inl, w)])) := fun a o n q => nx a o (ne_of_none q hp) (x12 a o n q)
      have cn := R.cell_ne hp
      have d3 : DrR X.K Γ (upd H2 p (.dT [(k.map Sum.inl, w)])) ds2 := by
        have dd := d2.unblk
        unfold DrR at dd ⊢
        cases hdr : Γ.dr with
        | none =>
          rw [hdr] at dd
          cases ds2 with
          | none => trivial
          | some s => exact dd
        | some r =>
          rw [hdr] at dd
          cases ds2 with
          | none => exact dd
          | some s =>
            obtain ⟨g1, g2, g3⟩ := dd
            exact ⟨nx _ _ (fun z => nd r hdr z.symm) g1, nx _ _ (cn r hdr) g2, g3⟩
      have hw3 : Df X.K (upd H2 p (.dT [(k.map Sum.inl, w)])) (gdx Γ σ env p) w y := (show Df X.K H2 (gd (Γ.blk σ env (upd H p (.dT [])) p) σ env) w y from hw).mono (fun a u z q => ⟨⟨⟨z.1.1, z.2.1, z.2.2⟩, z.1.2⟩, nx a _ z.1.2 q⟩) fun a u q => nx a _ (fun z => by rw [z, pH] at q; cases q) q
      exact fin _ [w] x3 d3 upd_same (.cons hw3 .nil)
    · cases z
end
end DL

/-! DL19: list.index; max, min of two; a written tuple of the module walked; a dict and a list at once. -/
namespace DL
open PySem PySem.Spec L2
open PyProof.Rows hiding St

section
variable {X : Cx} {C : Exs} {W : WX} {fr : Bool} {K : PySem.W.Frag} {M : Md} {o e a b : Expr} {mo me ma mb : ME PyData} {p pos ap cp : Pos} {x y : Str}
/-! ### xs.index(e) -/
def ixFrom (d : PyData) : Nat → List PyData → Option Nat
  | _, [] => none
  | k, z :: r => if PyData.eqv z d then some k else ixFrom d (k + 1) r
def fIndex (l d : PyData) : Option PyData := match l with
  | .list ds => if SeqAt.shaped d && SeqAt.shaped (.list ds) then (ixFrom d 0 ds).map fun (j : Nat) => .int (j : Int) else none
  | _ => none
def isList : PyData → Bool
  | .list _ => true
  | _ => false
def mIndex (o e : ME PyData) : ME PyData := o.bind fun x => (ME.lift (if isList x then some () else none)).bind fun _ => e.bind fun d => ME.lift (fIndex x d)
theorem ixFrom_spec {d : PyData} : ∀ {ds : List PyData} {k j : Nat}, ixFrom d k ds = some j → k ≤ j ∧ (∃ z, ds[j - k]? = some z ∧ PyData.eqv z d = true) ∧ ∀ (m : Nat) (z : PyData), m < j - k → ds[m]? = some z → PyData.eqv z d = false
  | [], _, _, h => by cases h
  | z :: r, k, j, h => by
    unfold ixFrom at h
    split at h
    · rename_i c
      cases h
      exact ⟨Nat.le_refl _, ⟨z, by rw [Nat.sub_self]; rfl, c⟩, fun m _ hm => absurd hm (by omega)⟩
    · rename_i c
      obtain ⟨h1, ⟨w, h2, h3⟩, h4⟩ := ixFrom_spec h
      have e : j - k = (j - (k + 1)) + 1 := by omega
      refine ⟨by omega, ⟨w, by rw [e]; exact h2, h3⟩, fun m u hm hu => ?_⟩
      cases m with
      | zero =>
        cases hu
        exact Bool.not_eq_true _ ▸ c
      | succ m => exact h4 m u (by omega) hu
theorem se_index (hu : X.A.units + 65 < cLine) (p1 : Pers M) (ho : PE X o (rdG M X.K C W mo)) (he : SE X C W e me) (hbase : attributeBase o "index" X.env (eval o X.env) = eval o X.env := by rfl)
    (hfew : ((backTo cp (starEach [e] X.env)).all (fun x => !x.1) && (backToKw cp (keywordEach [] X.env)).all (fun x => x.1.isSome) && decide ([e].length + ([] : List Keyword).length + (if ([] : List Keyword).isEmpty then 0 else 1) < 30)) = true := by rfl)
    (hline : (ap.endLine == cp.line) = true := by rfl) (hs : starEach (e :: []) X.env = (false, eval e X.env) :: starEach [] X.env := by rfl) (hplain : (backTo cp (starEach [] X.env)).any (·.1) = false := by rfl) : SE X C W (.Call (.Attribute o "index" ap) [e] [] cp) (mIndex mo me) :=
  PE.imp (pe_bm PySem.F.plainAttrs_list PySem.F.slot_list_index PySem.F.type_list_index (mt_indexD hu) ho (pa_cons he pa_nil hs) hbase hfew hline hs hplain) fun σ H Q ⟨Γ, env, ds, R, h⟩ => by
    refine ⟨Γ, env, ds, R, (Aft.bind h).imp fun d ds1 H1 e1 d1 q v hv => ?_⟩
    have R1 := R.go e1 d1
    obtain ⟨z, hz, q⟩ := lift_some (Aft.bind q)
    have q := q H1 Ext.refl d1
    have tyl : tyV X.K "list" v H1 := by
      cases d with
      | list xs =>
        obtain ⟨a, us, rfl, hS, _⟩ := (p1.pk hv).list
        exact tyV_list hS
      | _ => cases hz
    refine ⟨tyl, Γ, env, ds1, R1, (Aft.bind q).imp fun e' ds2 H2 e2 d2 q w hw => ?_⟩
    obtain ⟨z, hz, q⟩ := lift_some q
    have hv2 := p1.ext e2 d1 hv
    unfold fIndex at hz
    split at hz
    · split at hz
      · rename_i hc
        rw [Bool.and_eq_true] at hc
        obtain ⟨j, hj, rfl⟩ := Option.map_eq_some_iff.mp hz
        obtain ⟨_, ⟨z, g1, g2⟩, g3⟩ := ixFrom_spec hj
        obtain ⟨a, us, rfl, hS, hl, hA⟩ := (p1.pk hv2).list
        rw [Nat.sub_zero] at g1 g3
        exact ⟨a, w, e', _, j, z, rfl, rfl, .lst (.inl (.inl hS)) hA.dp, hw.dp, hc.2, hc.1, g1, g2, g3, q H2 Ext.refl d2 _ (.int _)⟩
      · cases hz
    · cases hz
/-! ### a written tuple of ints of the module, walked -/
theorem si_glob {tg : Expr} {u : Value} {c : Addr} {ns : List Int} (hm : X.mg x = some u) (r : RelV (.ref c) u) (hs : ∀ H, SqT X.K H c (ns.map V.int)) (hg : Gl X x := by rfl) (hdb : (x == ("__debug__" : Str)) = false := by decide) : SI X C W tg (.Name x pos) (mItems (mC (.tuple (ns.map .int)))) :=
  PI.imp (pi_seq (pe_glob hg hm r hdb)) fun σ H Q ⟨Γ, env, ds, R, h⟩ => ⟨c, rfl, .inr ⟨⟨_, hs H⟩, Aft.here h R.draw _ (wk_tup R (hs H) (DfAll.of_ints ns))⟩⟩
/-! ### max, min of two -/
def fMax2 : PyData → PyData → Option PyData
  | .int i, .int j => some (.int (if j > i then j else i))
  | _, _ => none
def fMin2 : PyData → PyData → Option PyData
  | .int i, .int j => some (.int (if j < i then j else i))
  | _, _ => none
theorem two_rd {r : List V → Hp → VK → Prop} {f : PyData → PyData → Option PyData} (hr : ∀ (i j : Int) (z : PyData) (H : Hp) (Q : VK), f (.int i) (.int j) = some z → (∀ H' g, Df K H' g (match z with | .int n => .int n | _ => .non) z) → Q (match z with | .int n => .int n | _ => .non) H → r [.int i, .int j] H Q)
    (hf : ∀ d e z, f d e = some z → ∃ i j n, d = .int i ∧ e = .int j ∧ z = .int n) {σ : St} {H : Hp} {Q : VK} (h : rdG MD K C W (mOp f ma mb) σ H Q) : tCB r (tCons (rdG MD K C W ma) (tCons (rdG MD K C W mb) tNil)) σ H Q := by
  obtain ⟨Γ, env, ds, R, h⟩ := h
  refine ⟨Γ, env, ds, R, (Aft.bind h).imp fun d ds1 H1 e1 d1 q v hv => ?_⟩
  have R1 := R.go e1 d1
  refine ⟨Γ, env, ds1, R1, (Aft.bind q).imp fun e ds2 H2 e2 d2 q w hw => ?_⟩
  obtain ⟨z, hz, q⟩ := lift_some q
  obtain ⟨i, j, n, rfl, rfl, rfl⟩ := hf d e z hz
  cases hv
  cases hw
  exact hr i j _ H2 Q hz (fun _ _ => .int n) (q H2 Ext.refl d2 _ (.int n))
theorem se_max2 (hc : X.calm = true) (hm : X.mg "max" = none) (ha : SE X C W a ma) (hb : SE X C W b mb) (hg : Gl X "max" := by rfl) (he : starEach (a :: [b]) X.env = (false, eval a X.env) :: starEach [b] X.env := by rfl) (he2 : starEach (b :: []) X.env = (false, eval b X.env) :: starEach [] X.env := by rfl)
    (hpl : (backTo pos (starEach [b] X.env)).any (·.1) = false := by rfl) : SE X C W (.Call (.Name "max" p) [a, b] [] pos) (mOp fMax2 ma mb) :=
  PE.imp (pe_callB (call_max2 hc) hg hm PyProof.Rows.boot_max (pa_cons ha (pa_cons hb pa_nil he2) he) (by decide) (by decide) he hpl) fun _ _ _ h => two_rd (fun i j z H Q hz _ q => by cases hz; exact ⟨i, j, rfl, q⟩) (fun d e z hz => by
    unfold fMax2 at hz
    split at hz
    · cases hz; exact ⟨_, _, _, rfl, rfl, rfl⟩
    · cases hz) h
theorem se_min2 (hc : X.calm = true) (hm : X.mg "min" = none) (ha : SE X C W a ma) (hb : SE X C W b mb) (hg : Gl X "min" := by rfl) (he : starEach (a :: [b]) X.env = (false, eval a X.env) :: starEach [b] X.env := by rfl) (he2 : starEach (b :: []) X.env = (false, eval b X.env) :: starEach [] X.env := by rfl)
    (hpl : (backTo pos (starEach [b] X.env)).any (·.1) = false := by rfl) : SE X C W (.Call (.Name "min" p) [a, b] [] pos) (mOp fMin2 ma mb) :=
  PE.imp (pe_callB (call_min2 hc) hg hm PyProof.Rows.boot_min (pa_cons ha (pa_cons hb pa_nil he2) he) (by decide) (by decide) he hpl) fun _ _ _ h => two_rd (fun i j z H Q hz _ q => by cases hz; exact ⟨i, j, rfl, q⟩) (fun d e z hz => by
    unfold fMin2 at hz
    split at hz
    · cases hz; exact ⟨_, _, _, rfl, rfl, rfl⟩
    · cases hz) h
/-! ### a, b = {..}, [..] -/
def mParCL (i j : Nat) (t : Bool) (a : ME DcL) (b : ME (List PyData)) : MS := exS a fun x => exS b fun y env ds => if decide (x.length ≤ 1000000) then putS i j (.dc t x) (.l y) env ds else none
theorem ss_parCL (i j : Nat) {t : Bool} {md : ME DcL} {fb : ME (List PyData)} {px py pt : Pos} {kt k2 : Nat} {pt2 : Pos} (hN : X.N.Nodup) (ha : SD X C W t a md) (hb : SF X C W b fb) (hc : X.calm = true := by rfl) (hi : X.N[i]? = some x := by rfl) (hj : X.N[j]? = some y := by rfl) (hij : i ≠ j := by decide) (hx : X.env.scope.names.lookup x = some .local := by rfl) (hy : X.env.scope.names.lookup y = some .local := by rfl)
    (he : starEach (a :: [b]) X.env = (false, eval a X.env) :: starEach [b] X.env := by rfl) (he2 : starEach (b :: []) X.env = (false, eval b X.env) :: starEach [] X.env := by rfl)
    (hw : swappedStores [.Tuple [.Name x px, .Name y py] kt pt] (.Tuple [a, b] k2 pt2) X.env = pure (some [x, y]) := by rfl) (hs : swapsWithSole [.Tuple [.Name x px, .Name y py] kt pt] (.Tuple [a, b] k2 pt2) pos.line X.env = pure false := by rfl) :
    SS X C W fr (.Assign [.Tuple [.Name x px, .Name y py] kt pt] (.Tuple [a, b] k2 pt2) pos) (mParCL i j t md fb) :=
  PS.imp (ps_par hc hN hi hj hij hx hy (pa_cons ha (pa_cons hb pa_nil he2) he) hw hs) fun D σ H ⟨Γ, env, ds, R, h⟩ => by
    refine ⟨Γ, env, ds, R, (exS_aft R h).imp fun d ds1 H1 e1 d1 q p us g1 g2 g4 => ?_⟩
    have R1 := R.go e1 d1
    have RB : Rel X.K (Γ.blk σ env H1 p) σ H1 env ds1 := R.blk (vs := []) g1 e1 d1 ⟨_, g2⟩ rfl
    refine ⟨_, env, ds1, RB, (exS_aft R1 q).blk.imp fun e ds2 H2 e2 d2 q p' us' f1 f2 f3 f4 => ?_⟩
    by_cases hl : d.length ≤ 1000000
    · rw [decide_eq_true hl, if_pos rfl] at q
      obtain ⟨env1, env2, p1, p2, q⟩ := putS_aft q
      refine ⟨_, _, rfl, q _ _ ?_⟩
      have S1 := R.set_dc e1 d1 g1 g2 hl g4 p1
      refine S1.set_l e2 d2.unblk f1 f2 f3 (f4.mono (fun a u z k => ⟨⟨?_, z.2⟩, k⟩) fun _ _ z => z) p2
      obtain ⟨h1, h2, rfl⟩ := put_some p1
      have hi : i < σ.length := by rw [R.len]; exact h2
      refine ⟨z.1.1.1, fun ⟨j, x, q1, q2, q3⟩ => ?_, z.1.2.2⟩
      by_cases e : i = j
      · subst e
        rw [List.getElem?_set_self hi] at q3
        cases q3
        exact z.1.1.2 rfl
      · rw [List.getElem?_set_ne e] at q1 q3
        exact z.1.2.1 ⟨j, x, q1, q2, q3⟩
    · rw [decide_eq_false hl, if_neg Bool.false_ne_true] at q
      exact q.elim
end
end DL

/-! DL20: a, b = {..}, data; {k: v} with an int key. -/
namespace DL
open PySem PySem.Spec L2
open PyProof.Rows hiding St

def mParCD (i j : Nat) (t : Bool) (a : ME DcL) (b : ME PyData) : MS := exS a fun x => exS b fun y env ds => if decide (x.length ≤ 1000000) then putS i j (.dc t x) (.d y) env ds else none
/-- the members of a list, each once -/
def dist {α : Type} [DecidableEq α] (xs : List α) : List α := match xs with
  | [] => []
  | x :: r => if x ∈ dist r then dist r else x :: dist r
section
variable {α : Type} [DecidableEq α]
theorem dist_mem {x : α} : ∀ {xs : List α}, x ∈ dist xs ↔ x ∈ xs
  | [] => Iff.rfl
  | y :: r => by
    show x ∈ (if y ∈ dist r then dist r else y :: dist r) ↔ _
    have ih := dist_mem (x := x) (xs := r)
    by_cases h : y ∈ dist r
    · rw [if_pos h, ih, List.mem_cons]
      refine ⟨.inr, fun q => q.elim (fun e => ?_) id⟩
      rw [e]
      exact dist_mem.mp h
    · rw [if_neg h, List.mem_cons, List.mem_cons, ih]
theorem dist_nodup : ∀ xs : List α, (dist xs).Nodup
  | [] => List.nodup_nil
  | y :: r => by
    show (if y ∈ dist r then dist r else y :: dist r).Nodup
    by_cases h : y ∈ dist r
    · rw [if_pos h]; exact dist_nodup r
    · rw [if_neg h]; exact List.nodup_cons.mpr ⟨h, dist_nodup r⟩
theorem dist_id : ∀ {xs : List α}, xs.Nodup → dist xs = xs
  | [], _ => rfl
  | y :: r, h => by
    rw [List.nodup_cons] at h
    show (if y ∈ dist r then dist r else y :: dist r) = _
    rw [dist_id h.2, if_neg h.1]
theorem dist_len (xs : List α) : (dist xs).length ≤ xs.length := by
  induction xs with
  | nil => exact Nat.le_refl _
  | cons y r ih =>
    show (if y ∈ dist r then dist r else y :: dist r).length ≤ _
    split
    · rw [List.length_cons]; omega
    · rw [List.length_cons, List.length_cons]; omega
theorem dist_full {xs : List α} (h : (dist xs).length = xs.length) : xs.Nodup := by
  induction xs with
  | nil => exact List.nodup_nil
  | cons y r ih =>
    change (if y ∈ dist r then dist r else y :: dist r).length = _ at h
    by_cases q : y ∈ dist r
    · rw [if_pos q, List.length_cons] at h
      have := dist_len r
      omega
    · rw [if_neg q, List.length_cons, List.length_cons] at h
      exact List.nodup_cons.mpr ⟨fun z => q (dist_mem.mpr z), ih (by omega)⟩
theorem nodup_sub_len {l m : List α} (h : l.Nodup) (hs : ∀ x ∈ l, x ∈ m) : l.length ≤ m.length := by
  induction l generalizing m with
  | nil => exact Nat.zero_le _
  | cons x r ih =>
    rw [List.nodup_cons] at h
    have hm := hs x List.mem_cons_self
    have h2 : ∀ y ∈ r, y ∈ m.erase x := fun y hy => (List.mem_erase_of_ne (fun e => h.1 (by rw [← e]; exact hy))).mpr (hs y (List.mem_cons_of_mem _ hy))
    have q := ih h.2 h2
    rw [List.length_erase_of_mem hm] at q
    have := List.length_pos_of_mem hm
    rw [List.length_cons]
    omega
/-- what is once each and all of it has as many -/
theorem dist_count {l xs : List α} (h : l.Nodup) (hs : ∀ x, x ∈ l ↔ x ∈ xs) : l.length = (dist xs).length :=
  Nat.le_antisymm (nodup_sub_len h fun x hx => dist_mem.mpr ((hs x).mp hx)) (nodup_sub_len (dist_nodup xs) fun x hx => (hs x).mpr (dist_mem.mp hx))
end
/-- tuples of ints -/
def rowsD : List PyData → Option (List (List Int))
  | [] => some []
  | .tuple ds :: r => (intsOf ds).bind fun k => (rowsD r).map (k :: ·)
  | _ => none
/-- the number of a set's members: ints, or tuples of ints -/
def fSetLen : PyData → Option PyData
  | .list ds => match intsOf ds with
    | some ns => if decide (ns.length ≤ 1000) then some (.int (dist ns).length) else none
    | none => match rowsD ds with
      | some ks => if decide (ks.length ≤ 64) then some (.int (dist ks).length) else none
      | none => none
  | .tuple ds => match intsOf ds with
    | some ns => if decide (ns.length ≤ 1000) then some (.int (dist ns).length) else none
    | none => none
  | _ => none
section
variable {X : Cx} {C : Exs} {W : WX} {fr : Bool} {a b e e2 : Expr} {x y : Str} {pos : Pos} {mk mx : ME PyData}
theorem ss_parCD (i j : Nat) {t : Bool} {md : ME DcL} {mb : ME PyData} {px py pt : Pos} {kt k2 : Nat} {pt2 : Pos} (hN : X.N.Nodup) (ha : SD X C W t a md) (hb : SE X C W b mb) (hc : X.calm = true := by rfl) (hi : X.N[i]? = some x := by rfl) (hj : X.N[j]? = some y := by rfl) (hij : i ≠ j := by decide) (hx : X.env.scope.names.lookup x = some .local := by rfl) (hy : X.env.scope.names.lookup y = some .local := by rfl)
    (he : starEach (a :: [b]) X.env = (false, eval a X.env) :: starEach [b] X.env := by rfl) (he2 : starEach (b :: []) X.env = (false, eval b X.env) :: starEach [] X.env := by rfl)
    (hw : swappedStores [.Tuple [.Name x px, .Name y py] kt pt] (.Tuple [a, b] k2 pt2) X.env = pure (some [x, y]) := by rfl) (hs : swapsWithSole [.Tuple [.Name x px, .Name y py] kt pt] (.Tuple [a, b] k2 pt2) pos.line X.env = pure false := by rfl) :
    SS X C W fr (.Assign [.Tuple [.Name x px, .Name y py] kt pt] (.Tuple [a, b] k2 pt2) pos) (mParCD i j t md mb) :=
  PS.imp (ps_par hc hN hi hj hij hx hy (pa_cons ha (pa_cons hb pa_nil he2) he) hw hs) fun D σ H ⟨Γ, env, ds, R, h⟩ => by
    refine ⟨Γ, env, ds, R, (exS_aft R h).imp fun d ds1 H1 e1 d1 q p us g1 g2 g4 => ?_⟩
    have RB : Rel X.K (Γ.blk σ env H1 p) σ H1 env ds1 := R.blk (vs := []) g1 e1 d1 ⟨_, g2⟩ rfl
    refine ⟨_, env, ds1, RB, (exS_aft (R.go e1 d1) q).blk.imp fun z ds2 H2 e2 d2 q v hv => ?_⟩
    by_cases hl : d.length ≤ 1000000
    · rw [decide_eq_true hl, if_pos rfl] at q
      obtain ⟨env1, env2, p1, p2, q⟩ := putS_aft q
      refine ⟨_, v, rfl, q _ _ ?_⟩
      have S1 := (R.set_dc e1 d1 g1 g2 hl g4 p1).go e2 d2.unblk
      refine S1.set_d ((show Df X.K H2 (gd (Γ.blk σ env H1 p) σ env) v z from hv).mono (fun a u z k => ⟨?_, k⟩) fun _ _ z => z) p2
      obtain ⟨h1, h2, rfl⟩ := put_some p1
      have hi : i < σ.length := by rw [R.len]; exact h2
      refine ⟨z.1.1, fun ⟨j, x, q1, q2, q3⟩ => ?_, z.2.2⟩
      by_cases e : i = j
      · subst e
        rw [List.getElem?_set_self hi] at q3
        cases q3
        exact z.1.2 rfl
      · rw [List.getElem?_set_ne e] at q1 q3
        exact z.2.1 ⟨j, x, q1, q2, q3⟩
    · rw [decide_eq_false hl, if_neg Bool.false_ne_true] at q
      exact q.elim
theorem sd_oneK (hu : X.A.units + 65 < cLine) (hk : SE X C W e mk) (hv : SE X C W e2 mx) : SD X C W false (.Dict [some e] [e2] pos) (mDone false mk mx) :=
  PE.imp (pe_disp (pps_cons hk hv pps_nil) rfl rfl (fun z => by cases z) (show 1 ≤ 15 by decide)) fun σ H Q ⟨Γ, env, ds, R, h⟩ p hp => by
    have x0 : Ext Γ H (upd H p (.dK [])) := ext_new hp
    have y0 := R.draw.new (o := .dK []) hp
    have R0 := R.go x0 y0
    have B : Rel X.K (Γ.blk σ env (upd H p (.dK [])) p) σ (upd H p (.dK [])) env ds := R.blk (vs := []) hp x0 y0 ⟨_, upd_same⟩ rfl
    have h0 : Aft X.K C W Γ σ (upd H p (.dK [])) (mDone false mk mx env ds) fun kvs ds' _ => ∀ (H3 : Hp) (us : List V), Ext Γ H H3 → DrR X.K Γ H3 ds' → H3 p = some (dcObj false (kvs.map (·.1)) us) → DfAll X.K H3 (gdx Γ σ env p) us (kvs.map (·.2)) → Q (.ref p) H3 := by
      revert h
      unfold Aft
      rcases mDone false mk mx env ds with _ | ⟨kvs | x, ds'⟩
      · exact id
      · exact fun h H' _ _ H3 us x3 d3 q1 q2 => h H3 x3 d3 p us hp q1 q2
      · exact fun h cls d H' x1 d1 hx => h cls d H' (x0.trans x1) d1 hx
    refine ⟨_, env, ds, B, (Aft.bind h0).blk.imp fun d ds1 H1 e1 d1 h v hv => ?_⟩
    have B1 := B.go e1 d1
    refine ⟨_, env, ds1, B1, (Aft.bind h).blk.imp fun y ds2 H2 e2 d2 h w hw => ?_⟩
    obtain ⟨z, hz, h⟩ := lift_some h
    obtain ⟨k, hk, rfl⟩ := Option.map_eq_some_iff.mp hz
    have nd := (R.new_gd hp).2.2
    have pH : H2 p = some (.dK []) := e2 p _ nd (e1 p _ nd upd_same)
    have hv2 : Df X.K H2 (gd (Γ.blk σ env (upd H p (.dK [])) p) σ env) v d := Df.ext e2 d1 hv
    rcases key_v hv2 hk with ⟨z, _⟩ | ⟨_, rfl⟩
    · cases z
    · refine ⟨pH, [(.inl (k.headD 0), w)], rfl, (show 1 ≤ 15 by decide), ?_⟩
      have nx : ∀ a o, a ≠ p → H2 a = some o → upd H2 p (.dK (mergeK [] [(.inl (k.headD 0), w)])) a = some o := fun a o n q => by rw [upd_ne n]; exact q
      have x12 : Ext Γ H H2 := x0.trans (e1.trans e2)
      have fin := h H2 Ext.refl d2.unblk
      have x3 : Ext Γ H (upd H2 p (.dK (mergeK [] [(.inl (k.headD 0), w)]))) := fun a o n q => nx a o (ne_of_none q hp) (x12 a o n q)
      have cn := R.cell_ne hp
      have d3 : DrR X.K Γ (upd H2 p (.dK (mergeK [] [(.inl (k.headD 0), w)]))) ds2 := by
        have dd := d2.unblk
        unfold DrR at dd ⊢
        cases hdr : Γ.dr with
        | none =>
          rw [hdr] at dd
          cases ds2 with
          | none => trivial
          | some s => exact dd
        | some r =>
          rw [hdr] at dd
          cases ds2 with
          | none => exact dd
          | some s =>
            obtain ⟨g1, g2, g3⟩ := dd
            exact ⟨nx _ _ (fun z => nd r hdr z.symm) g1, nx _ _ (cn r hdr) g2, g3⟩
      have hw3 : Df X.K (upd H2 p (.dK (mergeK [] [(.inl (k.headD 0), w)]))) (gdx Γ σ env p) w y := (show Df X.K H2 (gd (Γ.blk σ env (upd H p (.dK [])) p) σ env) w y from hw).mono (fun a u z q => ⟨⟨⟨z.1.1, z.2.1, z.2.2⟩, z.1.2⟩, nx a _ z.1.2 q⟩) fun a u q => nx a _ (fun z => by rw [z, pH] at q; cases q) q
      exact fin _ [w] x3 d3 upd_same (.cons hw3 .nil)
end
end DL

/-! DS1: set(list), by what adding each item does. -/
namespace DL
open PySem PySem.Spec L2
open PyProof.Rows hiding St

/-- all that stood at first still stands -/
abbrev Kp (h0 h : Heap) : Prop := ∀ b o, h0.get? b = some o → h.get? b = some o
section
variable {P : Program} {w : World} {A : Around} {E : Value → Shared → Prop} {s : Shared}
theorem Moved.kp {wr : List Addr} {G : Array GenState → Array GenState → Prop} {s s' : Shared} {h0 : Heap} (m : Moved wr G s s') (nw : ∀ b ∈ wr, h0.get? b = none) (k : Kp h0 s.heap) : Kp h0 s'.heap :=
  fun b o e => m.heap b o (fun z => nomatch (nw b z).symm.trans e) (k b o e)
/-- what is asked of an adding: from the i-th state of things to the next -/
def AddsAt (P : Program) (w : World) (A : Around) (S : Addr) (h0 : Heap) (J : Nat → Heap → Prop) (i : Nat) (v : Value) : Prop :=
  ∀ (E : Value → Shared → Prop) (s : Shared) (Q : Bool → Shared → Prop), Kp h0 s.heap → J i s.heap → (∀ r h' tk, s.toks ≤ tk → Heap.SameBut S s.heap h' → J (i + 1) h' → Q r { s with heap := h', toks := tk }) → wpAny (model P w) A (setAdd S v) Q E s
theorem set_loop {I : Addr} {fp wr : List Addr} {G : Array GenState → Array GenState → Prop} {n : Nat} {Pv : Nat → Value → Prop} {St : Nat → Shared → Prop} {R : Result → Shared → Prop} (W : WalksS P w A.in1 I fp wr G n Pv St) {S : Addr} (nS : S ∉ fp) {h0 : Heap} {J : Nat → Heap → Prop}
    (nw : ∀ b ∈ wr, h0.get? b = none) (n0 : h0.get? S = none) (kJ : ∀ {i h h'}, J i h → (∀ o, h.get? S = some o → h'.get? S = some o) → Kp h0 h' → J i h') (add : ∀ i v, i < n → Pv i v → AddsAt P w A.in1 S h0 J i v) :
    ∀ (k i : Nat) (s : Shared), i + k = n → St i s → Kp h0 s.heap → J i s.heap → (∀ s', Moved (S :: wr) G s s' → J n s'.heap → Kp h0 s'.heap → R (.ok (.ret .none)) s') → codeAny (model P w) A (.builtin "set.update.loop" ⟨[.ref S, .ref I], []⟩) R s := by
  have nSw : S ∉ wr := fun z => nS (W.sub _ z)
  intro k
  induction k with
  | zero =>
    intro i s e st kp j fin
    obtain rfl : i = n := e
    refine codeAny_builtin F.entry_set_update_loop ?_
    rw [Around.under_plainId F.plain_set_update_loop _]
    show wpAny _ A.in1 (pyNext (.ref I) >>= _) _ _ s
    refine wpAny_bind (W.done s _ _ st fun s1 m => ?_)
    have kp1 := Moved.kp m nw kp
    show wpAny _ A.in1 (ret Value.none) _ _ s1
    exact wpAny_pure (fin s1 (m.mono fun b z => List.mem_cons_of_mem _ z) (kJ j (fun o q => m.heap S o nSw q) kp1) kp1)
  | succ k ih =>
    intro i s e st kp j fin
    refine codeAny_builtin F.entry_set_update_loop ?_
    rw [Around.under_plainId F.plain_set_update_loop _]
    show wpAny _ A.in1 (pyNext (.ref I) >>= _) _ _ s
    refine wpAny_bind (W.item i s _ _ (by omega) st fun v s1 pv st1 m => ?_)
    have kp1 := Moved.kp m nw kp
    show wpAny _ A.in1 (holding [v] (setAdd S v) >>= _) _ _ s1
    refine wpAny_bind (wpAny_holding (add i v (by omega) pv _ s1 _ kp1 (kJ j (fun o q => m.heap S o nSw q) kp1) fun r h2 tk ht sb j2 => ?_))
    have kp2 : Kp h0 h2 := fun b o q => (sb.2 b fun z => by rw [z, n0] at q; cases q).trans (kp1 b o q)
    refine wpAny_pure ⟨plainId_quiet F.plain_set_update_loop _, ih (i + 1) _ (by omega) (W.frame _ s1 _ _ st1 ht fun b z o q => (sb.2 b fun y => nS (y ▸ z)).trans q) kp2 j2 fun s3 m3 j3 kp3 => fin s3 (Moved.trans W.gtrans ((m.mono fun b z => List.mem_cons_of_mem _ z).then_heap ht fun b o z q => ?_) m3) j3 kp3⟩
    exact (sb.2 b fun y => z (by rw [y]; exact List.mem_cons_self)).trans q
set_option maxHeartbeats 3200000 in
/-- set(xs) -/
theorem call_set_by {l : Addr} {items : Array Value} {Q : Value → Shared → Prop} (J : Nat → Heap → Prop) (nh : A.handled = none) (hl : s.heap.IsList l items)
    (j0 : ∀ h', h'.get? s.heap.objs.size = some (setE w) → J 0 h') (kJ : ∀ {i h h'}, J i h → (∀ o, h.get? s.heap.objs.size = some o → h'.get? s.heap.objs.size = some o) → Kp s.heap h' → J i h')
    (add : ∀ i v, items[i]? = some v → ∀ B : Around, B.units ≤ A.units + 3 → AddsAt P w B s.heap.objs.size s.heap J i v)
    (fin : ∀ (h' : Heap) (tk : Nat), J items.size h' → Kp s.heap h' → Q (.ref s.heap.objs.size) { s with heap := h', toks := tk }) :
    wpAny (model P w) A (call (.type "set") [.ref l]) Q E s := by
  obtain ⟨c, tl, hmro⟩ := F.called_set.mro
  have hmade := F.called_set.made
  have hsub := F.called_set.sub
  have h1 := F.called_set.notType
  have h2 := F.called_set.canCreate
  have hct := F.typeCall_set_1 (.ref l)
  refine wpAny_call (codeAny_of_tree ?_)
  show wpAny _ _ (callAny (.type "set") _) _ _ _
  refine wpAny_pure ⟨Code.quiet_builtin _ (by decide +kernel), codeAny_builtin F.entry_type_call ?_⟩
  rw [Around.under_plain (weight_type_call_type "set" [.ref l] []) rfl]
  repeat (any_goals (first | assumption | wp_step))
  refine codeAny_mono (code_set_led1 (.ref l) (E := E) (Q₁ := fun u z => u = .ref s.heap.objs.size ∧ z = { s with heap := s.heap.push (setE w) }) ⟨rfl, rfl⟩) fun r s1 hr => ?_
  cases r with
  | error e => exact hr
  | ok fl =>
    cases fl with
    | ret u =>
      obtain ⟨rfl, rfl⟩ := hr
      have gS : (s.heap.push (setE w)).get? s.heap.objs.size = some (setE w) := Heap.get?_push_size _ rfl
      have hT : Shared.TypeIs { s with heap := s.heap.push (setE w) } (.ref s.heap.objs.size) "set" := ⟨_, gS, rfl⟩
      have hli := F.called_set.init.lookup
      have hbi := F.called_set.init.bind (.ref s.heap.objs.size)
      repeat (any_goals (first | assumption | wp_step))
      refine codeAny_mono (codeAny_call_builtin (R := wants (fun u z => u = .none ∧ ∃ h' tk, z = { s with heap := h', toks := tk } ∧ J items.size h' ∧ Kp s.heap h') E) F.called_set.init.plain F.entry_set_init (check_set_init_1 hT ?_)) fun r2 s2 hr2 => ?_
      · obtain ⟨ol, gl, hcl, nl, hdl⟩ := hl
        obtain ⟨ocls, odict, odata, oslots⟩ := ol
        simp only at hcl hdl
        subst hcl hdl
        have gl1 : (s.heap.push (setE w)).get? l = some { cls := .type "list", dict := odict, data := .seq items nl, slots := oslots } := Heap.get?_push_of_some _ gl
        have hsls := F.sub_list_set
        have hslf := F.sub_list_frozenset
        have hne : (Value.type "list" == Value.type "dict") = false := by decide
        have il : (s.heap.push (setE w)).IsList l items := ⟨_, gl1, rfl, nl, rfl⟩
        unfold Builtin.«set.__init__» noKeywords Builtin.Frozenset.updateFrom
        generalize hPI : pyIter = PI
        wp_walk
        subst hPI
        refine wpAny_pyIter_list il ?_
        refine wpAny_bind (wpAny_runValue ?_)
        have ll : l < s.heap.objs.size := Heap.lt_size gl
        have sz : (s.heap.push (setE w)).objs.size = s.heap.objs.size + 1 := Heap.size_push ..
        have nI : l ≠ (s.heap.push (setE w)).objs.size := by rw [sz]; exact Nat.ne_of_lt (Nat.lt_succ_of_lt ll)
        have nS : s.heap.objs.size ∉ [(s.heap.push (setE w)).objs.size, l] := by
          rw [sz]
          simp only [List.mem_cons, List.not_mem_nil, or_false, not_or]
          exact ⟨Nat.ne_of_lt (Nat.lt_succ_self _), Nat.ne_of_gt ll⟩
        have non : ∀ b, s.heap.objs.size ≤ b → s.heap.get? b = none := fun b hb => by
          cases q : s.heap.get? b with
          | none => rfl
          | some o => exact absurd (Heap.lt_size q) (Nat.not_lt.mpr hb)
        refine set_loop (h0 := s.heap) (J := J) ((Walks.list (by simp [nh]) _ l nI items).toS) nS (fun b hb => non b (by rw [List.mem_singleton.mp hb, sz]; exact Nat.le_succ _)) (non _ (Nat.le_refl _)) kJ (fun i v _ hv => add i v hv _ (by first | omega | exact Nat.le_refl _)) items.size 0 _ (Nat.zero_add _)
          ⟨⟨_, Heap.get?_push_size _ rfl, rfl, rfl⟩, il.push _⟩ (fun b o q => Heap.get?_push_of_some _ (Heap.get?_push_of_some _ q)) (j0 _ (Heap.get?_push_of_some _ gS)) fun s3 m j k => ?_
        obtain ⟨h', g2, d', tk', os'⟩ := s3
        have eg : g2 = s.gens := m.gens
        have ed : d' = s.drawn := m.drawn
        have eo : os' = s.os := m.os
        subst eg ed eo
        show wpAny _ _ _ _ _ _
        refine wpAny_pure ?_
        show wpAny _ _ (ret Value.none) _ _ _
        exact wpAny_pure ⟨rfl, h', tk', rfl, j, k⟩
      · cases r2 with
        | error e => exact hr2
        | ok fl2 =>
          cases fl2 with
          | ret u =>
            obtain ⟨rfl, h', tk, rfl, j, k⟩ := hr2
            repeat (any_goals (first | assumption | wp_step))
            exact fin h' tk j k
          | _ => exact hr2.elim
    | _ => exact hr.elim
end
end DL

/-! DS0: set(t), t a tuple, by what adding each item does; of ints, counted. -/
namespace DL
open PySem PySem.Spec L2
open PyProof.Rows hiding St
section
variable {P : Program} {w : World} {A : Around} {E : Value → Shared → Prop} {s : Shared}
set_option maxHeartbeats 3200000 in
/-- set(t) -/
theorem call_set_tup_by {l : Addr} {items : Array Value} {Q : Value → Shared → Prop} (J : Nat → Heap → Prop) (nh : A.handled = none) (hl : s.heap.IsTuple l items)
    (j0 : ∀ h', h'.get? s.heap.objs.size = some (setE w) → J 0 h') (kJ : ∀ {i h h'}, J i h → (∀ o, h.get? s.heap.objs.size = some o → h'.get? s.heap.objs.size = some o) → Kp s.heap h' → J i h')
    (add : ∀ i v, items[i]? = some v → ∀ B : Around, B.units ≤ A.units + 3 → AddsAt P w B s.heap.objs.size s.heap J i v)
    (fin : ∀ (h' : Heap) (tk : Nat), J items.size h' → Kp s.heap h' → Q (.ref s.heap.objs.size) { s with heap := h', toks := tk }) :
    wpAny (model P w) A (call (.type "set") [.ref l]) Q E s := by
  obtain ⟨c, tl, hmro⟩ := F.called_set.mro
  have hmade := F.called_set.made
  have hsub := F.called_set.sub
  have h1 := F.called_set.notType
  have h2 := F.called_set.canCreate
  have hct := F.typeCall_set_1 (.ref l)
  refine wpAny_call (codeAny_of_tree ?_)
  show wpAny _ _ (callAny (.type "set") _) _ _ _
  refine wpAny_pure ⟨Code.quiet_builtin _ (by decide +kernel), codeAny_builtin F.entry_type_call ?_⟩
  rw [Around.under_plain (weight_type_call_type "set" [.ref l] []) rfl]
  repeat (any_goals (first | assumption | wp_step))
  refine codeAny_mono (code_set_led1 (.ref l) (E := E) (Q₁ := fun u z => u = .ref s.heap.objs.size ∧ z = { s with heap := s.heap.push (setE w) }) ⟨rfl, rfl⟩) fun r s1 hr => ?_
  cases r with
  | error e => exact hr
  | ok fl =>
    cases fl with
    | ret u =>
      obtain ⟨rfl, rfl⟩ := hr
      have gS : (s.heap.push (setE w)).get? s.heap.objs.size = some (setE w) := Heap.get?_push_size _ rfl
      have hT : Shared.TypeIs { s with heap := s.heap.push (setE w) } (.ref s.heap.objs.size) "set" := ⟨_, gS, rfl⟩
      have hli := F.called_set.init.lookup
      have hbi := F.called_set.init.bind (.ref s.heap.objs.size)
      repeat (any_goals (first | assumption | wp_step))
      refine codeAny_mono (codeAny_call_builtin (R := wants (fun u z => u = .none ∧ ∃ h' tk, z = { s with heap := h', toks := tk } ∧ J items.size h' ∧ Kp s.heap h') E) F.called_set.init.plain F.entry_set_init (check_set_init_1 hT ?_)) fun r2 s2 hr2 => ?_
      · obtain ⟨ol, gl, hcl, nl, hdl⟩ := hl
        obtain ⟨ocls, odict, odata, oslots⟩ := ol
        simp only at hcl hdl
        subst hcl hdl
        have gl1 : (s.heap.push (setE w)).get? l = some { cls := .type "tuple", dict := odict, data := .seq items nl, slots := oslots } := Heap.get?_push_of_some _ gl
        have hsls := F.sub_tuple_set
        have hslf := F.sub_tuple_frozenset
        have hne : (Value.type "tuple" == Value.type "dict") = false := by decide
        have il : (s.heap.push (setE w)).IsTuple l items := ⟨_, gl1, rfl, nl, rfl⟩
        unfold Builtin.«set.__init__» noKeywords Builtin.Frozenset.updateFrom
        generalize hPI : pyIter = PI
        wp_walk
        subst hPI
        refine wpAny_pyIter_tuple il ?_
        refine wpAny_bind (wpAny_runValue ?_)
        have ll : l < s.heap.objs.size := Heap.lt_size gl
        have sz : (s.heap.push (setE w)).objs.size = s.heap.objs.size + 1 := Heap.size_push ..
        have nI : l ≠ (s.heap.push (setE w)).objs.size := by rw [sz]; exact Nat.ne_of_lt (Nat.lt_succ_of_lt ll)
        have nS : s.heap.objs.size ∉ [(s.heap.push (setE w)).objs.size, l] := by
          rw [sz]
          simp only [List.mem_cons, List.not_mem_nil, or_false, not_or]
          exact ⟨Nat.ne_of_lt (Nat.lt_succ_self _), Nat.ne_of_gt ll⟩
        have non : ∀ b, s.heap.objs.size ≤ b → s.heap.get? b = none := fun b hb => by
          cases q : s.heap.get? b with
          | none => rfl
          | some o => exact absurd (Heap.lt_size q) (Nat.not_lt.mpr hb)
        refine set_loop (h0 := s.heap) (J := J) ((Walks.tuple (by simp [nh]) _ l nI items).toS) nS (fun b hb => non b (by rw [List.mem_singleton.mp hb, sz]; exact Nat.le_succ _)) (non _ (Nat.le_refl _)) kJ (fun i v _ hv => add i v hv _ (by first | omega | exact Nat.le_refl _)) items.size 0 _ (Nat.zero_add _)
          ⟨⟨_, Heap.get?_push_size _ rfl, rfl, rfl⟩, il.push _⟩ (fun b o q => Heap.get?_push_of_some _ (Heap.get?_push_of_some _ q)) (j0 _ (Heap.get?_push_of_some _ gS)) fun s3 m j k => ?_
        obtain ⟨h', g2, d', tk', os'⟩ := s3
        have eg : g2 = s.gens := m.gens
        have ed : d' = s.drawn := m.drawn
        have eo : os' = s.os := m.os
        subst eg ed eo
        show wpAny _ _ _ _ _ _
        refine wpAny_pure ?_
        show wpAny _ _ (ret Value.none) _ _ _
        exact wpAny_pure ⟨rfl, h', tk', rfl, j, k⟩
      · cases r2 with
        | error e => exact hr2
        | ok fl2 =>
          cases fl2 with
          | ret u =>
            obtain ⟨rfl, h', tk, rfl, j, k⟩ := hr2
            repeat (any_goals (first | assumption | wp_step))
            exact fin h' tk j k
          | _ => exact hr2.elim
    | _ => exact hr.elim
/-- set(t) of ints -/
theorem call_set_tupN {l : Addr} {items : Array Value} {ns : List Int} {Q : Value → Shared → Prop} (nh : A.handled = none) (hl : s.heap.IsTuple l items) (hi : IntsAre items.toList ns) (hb : items.size + 1 < scanBound)
    (fin : ∀ (h' : Heap) (tk : Nat), h'.SetOf (intKind P w) s.heap.objs.size (fun k' => (firstMet (fun i => ns.getD i 0) items.size).any (· == k')) (firstMet (fun i => ns.getD i 0) items.size).length → Kp s.heap h' → Q (.ref s.heap.objs.size) { s with heap := h', toks := tk }) :
    wpAny (model P w) A (call (.type "set") [.ref l]) Q E s := by
  refine call_set_tup_by (fun i h => h.SetOf (intKind P w) s.heap.objs.size (fun k' => (firstMet (fun i => ns.getD i 0) i).any (· == k')) (firstMet (fun i => ns.getD i 0) i).length) nh hl (fun h' e => ?_) (fun {i h h'} j q _ => ?_) (fun i v hv B _ => ?_) fin
  · exact SetOf_congr ((setObjOf_fresh (knd := intKind P w) _).setOf e (by unfold scanBound; omega)) (fun _ => rfl) rfl
  · obtain ⟨o, es, ep, tb, ho, rest⟩ := j
    exact ⟨o, es, ep, tb, q _ ho, rest⟩
  · intro E' z Q' kp j c
    obtain ⟨t, rfl⟩ := IntsAre.int_at hi i v (by rw [Array.getElem?_toList]; exact hv)
    have il : i < items.size := (Array.getElem?_eq_some_iff.mp hv).1
    unfold setAdd
    refine wpAny_holding (wpAny_bind ((intKind P w).pyHash (k := ns.getD i 0) (intKind_is _ _ _ _) ?_))
    have room : (firstMet (fun i => ns.getD i 0) i).length + 1 < scanBound := by have := firstMet_length_le (fun i => ns.getD i 0) i; omega
    exact wpAny_setAddHashed_of (knd := intKind P w) (s := { z with toks := z.toks + 1 }) (intKind_is _ _ _ _) rfl j room fun h' sb S2 => c _ h' _ (Nat.le_succ _) sb (SetOf_congr S2 (fun k' => by rw [firstMet_succ, step_any]) (by rw [firstMet_succ, step_length]))
end
end DL

/-! DS2: len(set(rows)), up to 64 rows. -/
namespace DL
open PySem PySem.Spec L2
open PyProof.Rows hiding St

section
variable {P : Program} {w : World} {A : Around} {E : Value → Shared → Prop} {s : Shared} {a : Addr} {L : List (Addr × List Int)} {es : Array (Int × Value)} {ep : Nat} {t : SetTable}
/-- a set of n members stands at a -/
def SetN (h : Heap) (a : Addr) (n : Nat) : Prop := ∃ o es ep t, h.get? a = some o ∧ o.ExactSet ∧ o.data = .set es ep t ∧ t.fits es.size = true ∧ es.size = n
theorem setN_of (R : SetTR P w s.heap a L es ep t) : SetN s.heap a L.length := by
  obtain ⟨o, ho, hx, hd⟩ := R.ob
  exact ⟨o, es, ep, t, ho, hx, hd, R.fits, R.size⟩
/-- the 64th member -/
theorem add_last (R : SetTR P w s.heap a L es ep t) (big : L.length = 63) {x : Addr} {k : List Int} (hx : IsT P w s.heap k x) (hu : A.units < cLine) {Q : Bool → Shared → Prop} (old : k ∈ L.map (·.2) → Q false s)
    (new : ∀ h', k ∉ L.map (·.2) → Heap.SameBut a s.heap h' → SetN h' a 64 → Q true { s with heap := h' }) : wpAny (model P w) A (setAddHashed a (.ref x) (thash P w k)) Q E s := by
  obtain ⟨o, ho, ex, hd⟩ := R.ob
  have size := R.size
  have m127 : t.mask = 127 := by
    have r := R.room
    rcases R.tab.mok with e | e | e
    · omega
    · omega
    · exact e
  unfold setAddHashed
  refine wpAny_holding ?_
  rw [show (100000 : Nat) = 99999 + 1 from rfl, setAddHashedIn_succ]
  refine wpAny_bind (wpAny_setState_of ho hd R.fits ?_)
  dsimp only
  refine wp_if_neg (by simp [byScan, Value.scannable]) ?_
  try refine wpAny_bind (wpAny_pure ?_)
  refine wpAny_bind (search_at R hx hu (fun hm => ?_) fun K hm hK hb => ?_)
  · dsimp only
    exact wpAny_pure (old hm)
  · dsimp only
    refine wpAny_bind (wpAny_setState_of ho hd R.fits ?_)
    dsimp only
    have q := R.tab.put hK hb
    generalize ept : t.put (way t.mask (thash P w k) K) = pt at q ⊢
    obtain ⟨t1, p⟩ := pt
    dsimp only at q ⊢
    obtain ⟨q1, q2, q3, q4, q5, q6, q7, q8, q9⟩ := q
    subst q1
    have pl : t1.plain = true := q6.trans R.plain
    first
      | (refine wpAny_bind ?_; refine wp_if_pos pl ?_; refine hashBy_tup hx ?_)
      | refine wp_if_pos pl (wpAny_bind (hashBy_tup hx ?_))
    simp only [if_true]
    have len : (SetTable.insertAt es (SetTable.below t.place (way t.mask (thash P w k) K)) (thash P w k, Value.ref x)).size = 64 := by
      rw [← Array.length_toList, SetTable.toList_insertAt, len_ins _ (by rw [Array.length_toList, size]; simpa using q2), Array.length_toList, size, big]
    generalize SetTable.insertAt es (SetTable.below t.place (way t.mask (thash P w k) K)) (thash P w k, Value.ref x) = es1 at len ⊢
    refine wpAny_bind (wpAny_storeSet_of ho hd ?_ (by rw [len, sizeLine_eq]; decide))
    have nf : ¬ t1.tooFull = true := by
      unfold SetTable.tooFull
      rw [decide_eq_true_eq, q9, List.length_map, big, q4, m127]
      decide
    have sb : Heap.SameBut a s.heap (s.heap.update a (Obj.putSet es1 t1)) := Heap.SameBut.update ..
    have ho1 := store_at (es' := es1) (t' := t1) ho hd
    generalize s.heap.update a (Obj.putSet es1 t1) = h1 at sb ho1 ⊢
    first
      | refine wp_if_neg (by simp [nf]) ?_
      | (refine wpAny_bind ?_; refine wp_if_neg (by simp [nf]) ?_; refine wpAny_pure ?_)
    refine wpAny_pure (new h1 hm sb ⟨_, es1, ep + 1, t1, ho1, ⟨ex.1, ex.2.1, ex.2.2⟩, rfl, ?_, len⟩)
    have sz := q3.sz
    rw [len_ins _ (by rw [List.length_map]; simpa using q2), List.length_map, big] at sz
    unfold SetTable.fits SetTable.fill
    rw [q3.dm, Bool.and_eq_true, beq_iff_eq, decide_eq_true_eq, sz, len]
    refine ⟨rfl, ?_⟩
    show 63 + 1 + 0 ≤ t1.mask
    rw [q4, m127]
    decide
end
end DL

/-! DS3: len(set(e)). -/
namespace DL
open PySem PySem.Spec L2
open PyProof.Rows hiding St

section
variable {P : Program} {w : World} {A : Around} {E : Value → Shared → Prop} {s : Shared}
/-- the rows put in so far, up to 64 -/
def JR (P : Program) (w : World) (S : Addr) (ks : List (Addr × List Int)) (i : Nat) (h : Heap) : Prop := (∃ L es ep t, SetTR P w h S L es ep t ∧ Got ks i L) ∨ (i = 64 ∧ SetN h S 64 ∧ (ks.map (·.2)).Nodup)
theorem got_nd {ks L : List (Addr × List Int)} {i : Nat} (g : Got ks i L) (nd : (L.map (·.2)).Nodup) : (L.map (·.2)).length = (dist ((ks.take i).map (·.2))).length :=
  dist_count nd fun x => ⟨fun h => by
    obtain ⟨p, hp, rfl⟩ := List.mem_map.mp h
    exact List.mem_map.mpr ⟨p, g.sub p hp, rfl⟩, fun h => by
    obtain ⟨p, hp, rfl⟩ := List.mem_map.mp h
    exact g.all p hp⟩
theorem call_set_rows {l : Addr} {items : Array Value} (ks : List (Addr × List Int)) {Q : Value → Shared → Prop} (nh : A.handled = none) (hl : s.heap.IsList l items) (hit : items.toList = ks.map fun p => Value.ref p.1) (hk : ∀ p ∈ ks, IsT P w s.heap p.2 p.1) (few : ks.length ≤ 64) (hu : A.units + 3 < cLine)
    (fin : ∀ (h' : Heap) (tk : Nat), SetN h' s.heap.objs.size (dist (ks.map (·.2))).length → Kp s.heap h' → Q (.ref s.heap.objs.size) { s with heap := h', toks := tk }) : wpAny (model P w) A (call (.type "set") [.ref l]) Q E s := by
  have sz : items.size = ks.length := by
    rw [← Array.length_toList, hit, List.length_map]
  have keepT : ∀ {h' : Heap}, Kp s.heap h' → ∀ p ∈ ks, IsT P w h' p.2 p.1 := fun k p hp => isT_keep (hk p hp) k
  have lt : ∀ {p : Addr × List Int}, p ∈ ks → p.1 < s.heap.objs.size := fun {p} hp => by
    obtain ⟨o, _, _, ho, _⟩ := hk p hp
    exact Heap.lt_size ho
  refine call_set_by (JR P w s.heap.objs.size ks) nh hl (fun h' g => .inl ⟨[], #[], 0, _, setTR_fresh g, Got.zero ks⟩) (fun {i h h'} j kS kp => ?_) (fun i v hv B hB => ?_) fun h' tk j kp => fin h' tk ?_ kp
  · rcases j with ⟨L, es, ep, t, R, g⟩ | ⟨rfl, ⟨o, es, ep, t, ho, r⟩, nd⟩
    · exact .inl ⟨L, es, ep, t, R.keep kS fun p hp => keepT kp p (List.mem_of_mem_take (g.sub p hp)), g⟩
    · exact .inr ⟨rfl, ⟨o, es, ep, t, kS o ho, r⟩, nd⟩
  · have hv' : (ks.map fun p => Value.ref p.1)[i]? = some v := by rw [← hit, Array.getElem?_toList]; exact hv
    rw [List.getElem?_map] at hv'
    obtain ⟨p, hp, rfl⟩ := Option.map_eq_some_iff.mp hv'
    have il : i < ks.length := (List.getElem?_eq_some_iff.mp hp).1
    have bu : B.units < cLine := by omega
    intro E' z Q' kp j c
    rcases j with ⟨L, es, ep, t, R, g⟩ | ⟨e, _⟩
    · have hx : IsT P w z.heap p.2 p.1 := keepT kp p (List.mem_of_getElem? hp)
      unfold setAdd
      refine wpAny_holding (wpAny_bind (wpAny_pyHash_tuple bu hx ?_))
      have gl := g.len
      rcases Nat.lt_or_ge (L.length + 1) 64 with q | q
      · refine add_at (s := { z with toks := z.toks + (p.2.length + 1) }) R hx bu q fun r h' L' es' ep' t' sb R' c1 c2 => ?_
        refine c r h' _ (Nat.le_add_right _ _) sb (.inl ⟨L', es', ep', t', R', ?_⟩)
        by_cases m : p.2 ∈ L.map (·.2)
        · rw [c1 m]; exact g.same hp m
        · exact g.more hp (c2 m)
      · refine add_last (s := { z with toks := z.toks + (p.2.length + 1) }) R (by omega) hx bu (fun m => ?_) fun h' m sb n => ?_
        · exact c false z.heap _ (Nat.le_add_right _ _) (Heap.SameBut.refl _ _) (.inl ⟨L, es, ep, t, R, g.same hp m⟩)
        · refine c true h' _ (Nat.le_add_right _ _) sb (.inr ⟨by omega, n, ?_⟩)
          have e1 := got_nd g R.nd
          have i63 : i = 63 := by omega
          have nd : ((ks.take i).map (·.2)).Nodup := dist_full (by rw [← e1, List.length_map, List.length_map, List.length_take]; omega)
          have ek : ks = ks.take i ++ [p] := by
            have t1 := take_next hp
            rw [← t1, i63, List.take_of_length_le (by omega)]
          rw [ek, List.map_append, List.nodup_append]
          refine ⟨nd, by simp, fun a ha b hb e => m ?_⟩
          rw [List.map_singleton, List.mem_singleton] at hb
          rw [← hb, ← e]
          obtain ⟨q, hq, rfl⟩ := List.mem_map.mp ha
          exact g.all q hq
    · omega
  · rw [sz] at j
    rcases j with ⟨L, es, ep, t, R, g⟩ | ⟨e, n, nd⟩
    · have e1 := got_nd g R.nd
      rw [List.take_length, List.length_map] at e1
      have := setN_of (s := { s with heap := h' }) R
      rw [e1] at this
      exact this
    · rw [dist_id nd, List.length_map, e]
      exact n
theorem firstMet_nd (val : Nat → Int) : ∀ i, (firstMet val i).Nodup
  | 0 => List.nodup_nil
  | i + 1 => by
    rw [firstMet_succ]
    unfold step_dedup
    by_cases h : (firstMet val i).any (· == val i) = true
    · rw [if_pos h]; exact firstMet_nd val i
    · rw [if_neg h, List.nodup_append]
      refine ⟨firstMet_nd val i, by simp, fun a ha b hb e => h (List.any_eq_true.mpr ⟨a, ha, ?_⟩)⟩
      rw [List.mem_singleton.mp hb] at e
      rw [e, beq_self_eq_true]
theorem firstMet_count (ns : List Int) : (firstMet (fun i => ns.getD i 0) ns.length).length = (dist ns).length := by
  refine dist_count (firstMet_nd _ _) fun x => ?_
  have h := firstMet_any (fun i => ns.getD i 0) ns.length x
  have e : (List.range ns.length).map (fun i => ns.getD i 0) = ns := by
    refine List.ext_getElem? fun i => ?_
    rw [List.getElem?_map]
    rcases Nat.lt_or_ge i ns.length with q | q
    · rw [List.getElem?_range q, List.getElem?_eq_getElem q]
      show some (ns.getD i 0) = _
      rw [List.getD_eq_getElem?_getD, List.getElem?_eq_getElem q]
      rfl
    · rw [List.getElem?_eq_none (by rw [List.length_range]; exact q), List.getElem?_eq_none q]
      rfl
  rw [e] at h
  have a1 : ∀ l : List Int, l.any (· == x) = true ↔ x ∈ l := fun l => by
    rw [List.any_eq_true]
    exact ⟨fun ⟨y, hy, q⟩ => by rw [← beq_iff_eq.mp q]; exact hy, fun hx => ⟨x, hx, beq_self_eq_true x⟩⟩
  rw [← a1, ← a1, h]
end
section
variable {K : PySem.W.Frag} {H : Hp} {g : Addr → Prop}
theorem intsOf_eq2 : ∀ {ds : List PyData} {ns : List Int}, intsOf ds = some ns → ds = ns.map .int
  | [], ns, h => by cases h; rfl
  | .int b :: r, ns, h => by
    change (intsOf r).map (b :: ·) = some ns at h
    obtain ⟨m, h1, rfl⟩ := Option.map_eq_some_iff.mp h
    rw [intsOf_eq2 h1]
    rfl
theorem rowsD_vals : ∀ {us : List V} {ds : List PyData} {ks : List (List Int)}, DfAll K H g us ds → rowsD ds = some ks → ∃ ps : List (Addr × List Int), us = ps.map (fun p => V.ref p.1) ∧ ps.map (·.2) = ks ∧ ∀ p ∈ ps, H p.1 = some (.tup (p.2.map V.int))
  | _, [], ks, .nil, h => by cases h; exact ⟨[], rfl, rfl, fun _ h => nomatch h⟩
  | v :: us, .tuple ds :: r, ks, .cons h1 h2, h => by
    change (intsOf ds).bind _ = some ks at h
    cases hi : intsOf ds with
    | none => rw [hi] at h; cases h
    | some k =>
      rw [hi] at h
      change (rowsD r).map (k :: ·) = some ks at h
      obtain ⟨m, h3, rfl⟩ := Option.map_eq_some_iff.mp h
      obtain ⟨ps, rfl, e2, h4⟩ := rowsD_vals h2 h3
      obtain rfl := intsOf_eq2 hi
      cases h1 with
      | tup g1 g2 g3 =>
        have e := g3.ints_inv
        subst e
        refine ⟨(_, k) :: ps, rfl, by rw [List.map_cons, e2], fun p hp => ?_⟩
        rcases List.mem_cons.mp hp with rfl | hp
        · exact g1
        · exact h4 p hp
end
section
variable {X : Cx} {C : Exs} {W : WX} {a : Expr} {ma : ME PyData} {M : Md} {p p2 q pos : Pos}
theorem fSetLen_some {d y : PyData} (h : fSetLen d = some y) : (∃ ds, d = .list ds ∧ ((∃ ns, intsOf ds = some ns ∧ ns.length ≤ 1000 ∧ y = .int (dist ns).length) ∨ ∃ ks, rowsD ds = some ks ∧ ks.length ≤ 64 ∧ y = .int (dist ks).length)) ∨ ∃ ds ns, d = .tuple ds ∧ intsOf ds = some ns ∧ ns.length ≤ 1000 ∧ y = .int (dist ns).length := by
  unfold fSetLen at h
  split at h
  · rename_i ds
    refine .inl ⟨ds, rfl, ?_⟩
    split at h
    · rename_i ns e
      split at h
      · rename_i c
        cases h
        exact .inl ⟨ns, e, of_decide_eq_true c, rfl⟩
      · cases h
    · split at h
      · rename_i ks e
        split at h
        · rename_i c
          cases h
          exact .inr ⟨ks, e, of_decide_eq_true c, rfl⟩
        · cases h
      · cases h
  · rename_i ds
    split at h
    · rename_i ns e
      split at h
      · rename_i c
        cases h
        exact .inr ⟨ds, ns, rfl, e, of_decide_eq_true c, rfl⟩
      · cases h
    · cases h
  · cases h
theorem se_lenSet (hc : X.calm = true) (hu : X.A.units + 65 < cLine) (pm : Pers M) (hm : X.mg "len" = none) (hm2 : X.mg "set" = none) (ha : PE X a (rdG M X.K C W ma)) (hg : Gl X "len" := by rfl) (hg2 : Gl X "set" := by rfl)
    (na : starEach [a] X.env = (false, eval a X.env) :: starEach [] X.env := by rfl) : SE X C W (.Call (.Name "len" p) [.Call (.Name "set" p2) [a] [] q] [] pos) (mUn fSetLen ma) := by
  refine ⟨fun pins s σ H Q I ⟨Γ, env, ds, R, h⟩ => ?_⟩
  refine Call_ (ld_blt I hg hm PySem.boot_len ?_)
  refine PyProof.Rows.callWith_builtin1 (PyProof.Rows.args_cons ?_ rfl) rfl rfl
  refine Call_ (ld_blt I hg2 hm2 PyProof.Rows.boot_set ?_)
  refine PyProof.Rows.callWith_type1 (PyProof.Rows.args_cons (thn (ha.run pins s σ H (fun x H1 => ∃ d y, MP X.K Γ σ env H1 x d ∧ fSetLen d = some (.int y) ∧ Q (.int y) H1) I ⟨Γ, env, ds, R, h.bind.imp fun d ds1 H1 e1 d1 q x hx => ?_⟩) fun v s1 ⟨x, H1, I1, r1, d, y, hd, hf, q1⟩ => PyProof.Rows.args_nil ?_) na) na rfl
  · obtain ⟨z, hz, q⟩ := lift_some q
    rcases fSetLen_some hz with ⟨ds', rfl, f⟩ | ⟨ds', ns, rfl, _, _, rfl⟩
    · rcases f with ⟨ns, _, _, rfl⟩ | ⟨ks, _, _, rfl⟩
      · exact ⟨_, _, pm.pk hx, hz, q H1 Ext.refl d1 _ (.int _)⟩
      · exact ⟨_, _, pm.pk hx, hz, q H1 Ext.refl d1 _ (.int _)⟩
    · exact ⟨_, _, pm.pk hx, hz, q H1 Ext.refl d1 _ (.int _)⟩
  · rcases fSetLen_some hf with ⟨ds', rfl, f⟩ | ⟨ds', ns, rfl, hi, hn, hy⟩
    rotate_left
    · obtain ⟨l, us, rfl, hS, hl, hA⟩ := hd.tuple
      cases r1
      obtain ⟨its, r, pl, hz⟩ := I1.tuple (.inl (.inl hS))
      have hit : its.toArray.size = us.length := by rw [List.size_toArray, ← r.length]
      have nh := I1.ok.hd hc
      obtain rfl := intsOf_eq2 hi
      have e := hA.ints_inv
      subst e
      rw [List.length_map] at hit
      refine call_set_tupN nh pl (ns := ns) (by simpa using intsAre_of r) (by rw [hit]; unfold scanBound; omega) fun h' tk hS hk => ?_
      rw [hit, firstMet_count] at hS
      obtain ⟨o, es, ep, t, ho, hex, hd', _, _, _, hf', hn'⟩ := hS
      have dl := dist_len ns
      refine PyProof.Rows.args_nil ?_
      have I2 : Inv X pins σ H1 { s1 with heap := h', toks := tk } := I1.kept hk
      refine call_len_set ho hex hd' hf' (by rw [hn']; omega) ⟨.int y, H1, I2.tok _, ⟨_, by rw [hn']; cases hy; rfl⟩, q1⟩
    obtain ⟨l, us, rfl, hl, hs, hA⟩ := hd.list
    cases r1
    have hq : SqL X.K H1 l us := .inl (.inl hl)
    obtain ⟨its, r, pl, hz⟩ := I1.list hq
    have hit : its.toArray.size = us.length := by rw [List.size_toArray, ← r.length]
    have nh := I1.ok.hd hc
    rcases f with ⟨ns, hi, hn, hy⟩ | ⟨ks, hi, hn, hy⟩
    · obtain rfl := intsOf_eq2 hi
      have e := hA.ints_inv
      subst e
      rw [List.length_map] at hit
      refine call_set_list nh pl.isList (ns := ns) (by simpa using r.ints) (by rw [hit]; unfold scanBound; omega) fun h' tk hS hk => ?_
      rw [hit, firstMet_count] at hS
      obtain ⟨o, es, ep, t, ho, hex, hd', _, _, _, hf', hn'⟩ := hS
      have dl := dist_len ns
      refine PyProof.Rows.args_nil ?_
      have I2 : Inv X pins σ H1 { s1 with heap := h', toks := tk } := I1.kept fun b o e => hk b o (Heap.lt_size e) e
      refine call_len_set ho hex hd' hf' (by rw [hn']; omega) ⟨.int y, H1, I2.tok _, ⟨_, by rw [hn']; cases hy; rfl⟩, q1⟩
    · obtain ⟨ps, rfl, e2, h4⟩ := rowsD_vals hA hi
      have dl := dist_len ks
      refine call_set_rows (P := X.prog) (w := X.w) ps nh pl.isList (by simpa using refs_of_vals r) (fun p hp => I1.isT (.inl (.inl (h4 p hp)))) (by rw [← e2, List.length_map] at hn; exact hn) (by omega) fun h' tk n kp => ?_
      rw [e2] at n
      obtain ⟨o, es, ep, t, ho, hex, hd', hf', hn'⟩ := n
      refine PyProof.Rows.args_nil ?_
      have I2 : Inv X pins σ H1 { s1 with heap := h', toks := tk } := I1.kept kp
      refine call_len_set ho hex hd' hf' (by rw [hn']; omega) ⟨.int y, H1, I2.tok _, ⟨_, by rw [hn']; cases hy; rfl⟩, q1⟩
end
end DL

/-! DS4: list(zip(t, u)), t and u tuples. -/
namespace DL
open PySem PySem.Spec L2
open PyProof.Rows hiding St

section
variable {P : Program} {w : World} {A : Around} {E : Value → Shared → Prop} {s : Shared}
/-- the next pair, an earlier one still held -/
theorem zt_item {z TI TO T i1 i2 l1 l2 : Addr} {f : Bool} {oT : Obj} {k : Nat} {xs ys : Array Value} {x y : Value} {Q : Value → Shared → Prop} (D : ZipApart z TI TO i1 i2 l1 l2)
    (gz : IsZipHeld s.heap z TI TO T f) (gT : s.heap.get? T = some oT) (gI : IsPair s.heap TI (.ref i1) (.ref i2)) (j1 : s.heap.IsTupleIter i1 l1 k) (j2 : s.heap.IsTupleIter i2 l2 k) (t1 : s.heap.IsTuple l1 xs) (t2 : s.heap.IsTuple l2 ys)
    (hx : xs[k]? = some x) (hy : ys[k]? = some y)
    (fin : ∀ h', IsZipHeld h' z TI TO T true → h'.IsTupleIter i1 l1 (k + 1) → h'.IsTupleIter i2 l2 (k + 1) → IsPair h' s.heap.objs.size x y → h'.objs.size = s.heap.objs.size + 1 → (∀ c o, c ≠ z → c ≠ i1 → c ≠ i2 → s.heap.get? c = some o → h'.get? c = some o) → Q (.ref s.heap.objs.size) { s with heap := h' }) :
    wpAny (model P w) A (Builtin.«zip.__next__» ⟨[.ref z], []⟩) (fun fin s' => ∃ v, fin = .done (.ret v) ∧ Q v s') E s := by
  show wpAny _ _ (field (.ref z) 2 >>= _) _ _ _
  refine wpAny_bind (wpAny_field gz rfl (x := .bool false) rfl ?_)
  show wpAny _ _ (field (.ref z) 3 >>= _) _ _ _
  refine wpAny_bind (wpAny_field gz rfl (x := .ref TI) rfl (wpAny_bind (wpAny_seqItems gI rfl ?_)))
  show wpAny _ _ (Builtin.SmallTypes.ownedTupleIsFree (.ref z) >>= _) _ _ _
  refine wpAny_bind (wpAny_tupleHeld_zip gz gT fun g1 gz1 b1 => ?_)
  simp only [Bool.false_eq_true, if_false]
  refine wpAny_bind ?_
  rw [← Array.forIn_toList]
  simp only [List.forIn_cons, List.forIn_nil]
  refine wpAny_bind (wpAny_bind (wpAny_holding ?_))
  show wpAny _ _ (Builtin.SmallTypes.nextOf (.ref i1) >>= _) _ _ _
  refine wpAny_bind (RZ.nextOf_tuple_item (s := { s with heap := g1 }) (j1.extBut b1.extBut D.i1z) (t1.extBut b1.extBut D.l1z) hx fun g2 j12 b2 => wpAny_pure (wpAny_pure ?_))
  refine wpAny_bind (wpAny_bind (wpAny_holding ?_))
  show wpAny _ _ (Builtin.SmallTypes.nextOf (.ref i2) >>= _) _ _ _
  refine wpAny_bind (RZ.nextOf_tuple_item (s := { s with heap := g2 }) ((j2.extBut b1.extBut D.i2z).extBut b2.extBut D.i12.symm) ((t2.extBut b1.extBut D.l2z).extBut b2.extBut D.l2i1) hy fun g3 j23 b3 => wpAny_pure (wpAny_pure (wpAny_pure ?_)))
  show wpAny _ _ (newTuple [x, y] >>= _) _ _ _
  refine wpAny_bind (wpAny_newTuple ?_)
  have es : g3.objs.size = s.heap.objs.size := by rw [b3.1, b2.1, b1.1]
  have gz3 : IsZipHeld g3 z TI TO T true := b3.extBut _ _ D.i2z.symm (b2.extBut _ _ D.i1z.symm gz1)
  have kp : ∀ c o, c ≠ z → c ≠ i1 → c ≠ i2 → s.heap.get? c = some o → g3.get? c = some o := fun c o c1 c2 c3 e => b3.extBut _ _ c3 (b2.extBut _ _ c2 (b1.extBut _ _ c1 e))
  have j13 : g3.IsTupleIter i1 l1 (k + 1) := j12.extBut b3.extBut D.i12
  refine wpAny_pure ⟨_, rfl, ?_⟩
  show Q (.ref g3.objs.size) _
  have hp : IsPair (g3.push { cls := .type "tuple", data := .seq #[x, y] }) g3.objs.size x y := Heap.get?_push_size _ rfl
  have z4 : (g3.push { cls := .type "tuple", data := .seq #[x, y] }).objs.size = g3.objs.size + 1 := Heap.size_push ..
  rw [es] at hp z4 ⊢
  exact fin _ (Heap.get?_push_of_some _ gz3) (j13.at fun o e => Heap.get?_push_of_some _ e) (j23.at fun o e => Heap.get?_push_of_some _ e) hp z4 fun c o c1 c2 c3 e => Heap.get?_push_of_some _ (kp c o c1 c2 c3 e)
/-- no further pair, an earlier one still held -/
theorem zt_end {z TI TO T i1 i2 l1 l2 : Addr} {f : Bool} {oT : Obj} {k : Nat} {xs ys : Array Value} {Q : Fin → Shared → Prop} (nh : A.handled = none) (D : ZipApart z TI TO i1 i2 l1 l2)
    (gz : IsZipHeld s.heap z TI TO T f) (gT : s.heap.get? T = some oT) (gI : IsPair s.heap TI (.ref i1) (.ref i2)) (j1 : s.heap.IsTupleIter i1 l1 k) (t1 : s.heap.IsTuple l1 xs) (hx : xs[k]? = none)
    (fin : ∀ h' e, (∀ c o, c ≠ z → c ≠ i1 → c ≠ i2 → s.heap.get? c = some o → h'.get? c = some o) → (∃ o, h'.get? e = some o ∧ o.cls = .type "StopIteration") → E (.ref e) { s with heap := h' }) :
    wpAny (model P w) A (Builtin.«zip.__next__» ⟨[.ref z], []⟩) Q E s := by
  show wpAny _ _ (field (.ref z) 2 >>= _) _ _ _
  refine wpAny_bind (wpAny_field gz rfl (x := .bool false) rfl ?_)
  show wpAny _ _ (field (.ref z) 3 >>= _) _ _ _
  refine wpAny_bind (wpAny_field gz rfl (x := .ref TI) rfl (wpAny_bind (wpAny_seqItems gI rfl ?_)))
  show wpAny _ _ (Builtin.SmallTypes.ownedTupleIsFree (.ref z) >>= _) _ _ _
  refine wpAny_bind (wpAny_tupleHeld_zip gz gT fun g1 gz1 b1 => ?_)
  simp only [Bool.false_eq_true, if_false]
  refine wpAny_bind ?_
  rw [← Array.forIn_toList]
  simp only [List.forIn_cons, List.forIn_nil]
  refine wpAny_bind (wpAny_bind (wpAny_holding ?_))
  show wpAny _ _ (Builtin.SmallTypes.nextOf (.ref i1) >>= _) _ _ _
  exact wpAny_bind (RZ.nextOf_tuple_end (s := { s with heap := g1 }) nh (j1.extBut b1.extBut D.i1z) (t1.extBut b1.extBut D.l1z) hx fun g2 e b2 he => fin g2 e (fun c o c1 c2 _ q => b2 _ _ c2 (b1.extBut _ _ c1 q)) he)
theorem zt_next {z TI TO T i1 i2 l1 l2 : Addr} {f : Bool} {oT : Obj} {k : Nat} {xs ys : Array Value} {x y : Value} {Q : Option Value → Shared → Prop} (D : ZipApart z TI TO i1 i2 l1 l2)
    (gz : IsZipHeld s.heap z TI TO T f) (gT : s.heap.get? T = some oT) (gI : IsPair s.heap TI (.ref i1) (.ref i2)) (j1 : s.heap.IsTupleIter i1 l1 k) (j2 : s.heap.IsTupleIter i2 l2 k) (t1 : s.heap.IsTuple l1 xs) (t2 : s.heap.IsTuple l2 ys)
    (hx : xs[k]? = some x) (hy : ys[k]? = some y)
    (fin : ∀ h', IsZipHeld h' z TI TO T true → h'.IsTupleIter i1 l1 (k + 1) → h'.IsTupleIter i2 l2 (k + 1) → IsPair h' s.heap.objs.size x y → h'.objs.size = s.heap.objs.size + 1 → (∀ c o, c ≠ z → c ≠ i1 → c ≠ i2 → s.heap.get? c = some o → h'.get? c = some o) → Q (some (.ref s.heap.objs.size)) { s with heap := h' }) :
    wpAny (model P w) A (pyNext (.ref z)) Q E s := by
  have ty : s.TypeIs (.ref z) "zip" := ⟨_, gz, rfl⟩
  unfold pyNext
  exact wpAny_bind (wpAny_attempt (wpAny_callSpecial?_slot (name := Str.ofString "__next__") ty F.slot_zip_next (wpAny_call_entry F.slot_zip_next ty F.entry_zip_next
      (zt_item D gz gT gI j1 j2 t1 t2 hx hy fun h' a1 a2 a3 a4 a5 a6 => wpAny_pure (fin h' a1 a2 a3 a4 a5 a6)) (F.args_zip_next_1 _))))
theorem zt_stop {z TI TO T i1 i2 l1 l2 : Addr} {f : Bool} {oT : Obj} {k : Nat} {xs ys : Array Value} {Q : Option Value → Shared → Prop} (nh : A.handled = none) (D : ZipApart z TI TO i1 i2 l1 l2)
    (gz : IsZipHeld s.heap z TI TO T f) (gT : s.heap.get? T = some oT) (gI : IsPair s.heap TI (.ref i1) (.ref i2)) (j1 : s.heap.IsTupleIter i1 l1 k) (t1 : s.heap.IsTuple l1 xs) (hx : xs[k]? = none)
    (fin : ∀ h', (∀ c o, c ≠ z → c ≠ i1 → c ≠ i2 → s.heap.get? c = some o → h'.get? c = some o) → Q none { s with heap := h' }) : wpAny (model P w) A (pyNext (.ref z)) Q E s := by
  have ty : s.TypeIs (.ref z) "zip" := ⟨_, gz, rfl⟩
  unfold pyNext
  refine wpAny_bind (wpAny_attempt (wpAny_callSpecial?_slot (name := Str.ofString "__next__") ty F.slot_zip_next (wpAny_call_entry F.slot_zip_next ty F.entry_zip_next
      (zt_end (ys := ys) nh D gz gT gI j1 t1 hx fun h' e hk he => ?_) (F.args_zip_next_1 _))))
  obtain ⟨o, ho, hc⟩ := he
  exact wpAny_bind (wpAny_isInstance (T := "StopIteration") (b := true) ⟨o, ho, hc⟩ isSubtype_stop (wpAny_pure (fin _ hk)))
abbrev lstO (acc : Array Value) (c : Nat) : Obj := { cls := .type "list", data := .seq acc c }
/-- the list so far -/
structure Zl (h0 : Heap) (S z TI TO i1 i2 l1 l2 : Addr) (xs ys : Array Value) (i : Nat) (h : Heap) (as : List Addr) : Prop where
  lst : ∃ c, h.get? S = some (lstO (as.map Value.ref).toArray c)
  len : as.length = i
  nd : as.Nodup
  big : ∀ a ∈ as, S < a ∧ a < h.objs.size
  prs : ∀ (j : Nat) (a : Addr), as[j]? = some a → ∃ u v, xs[j]? = some u ∧ ys[j]? = some v ∧ IsPair h a u v
  pI : IsPair h TI (.ref i1) (.ref i2)
  j1 : h.IsTupleIter i1 l1 i
  j2 : h.IsTupleIter i2 l2 i
  t1 : h.IsTuple l1 xs
  t2 : h.IsTuple l2 ys
  zip : (IsZip h z TI TO .none ∧ ∃ a b, IsPair h TO a b) ∨ ∃ T f oT, IsZipHeld h z TI TO T f ∧ h.get? T = some oT ∧ S < T
  kp : ∀ b o, b ≠ z → b ≠ TO → b ≠ i1 → b ≠ i2 → h0.get? b = some o → h.get? b = some o
/-- these lie below S -/
structure Zb (S z TI TO i1 i2 l1 l2 : Addr) : Prop where
  z : z < S
  TI : TI < S
  TO : TO < S
  i1 : i1 < S
  i2 : i2 < S
  l1 : l1 < S
  l2 : l2 < S
theorem zip_no_len : typeLookup (.type "zip") "__len__" = pure none := by rw [typeLookup_type, builtinLookup_eq_fast]; kernel_rfl
theorem zip_no_hint : typeLookup (.type "zip") "__length_hint__" = pure none := by rw [typeLookup_type, builtinLookup_eq_fast]; kernel_rfl
theorem zl_loop {h0 : Heap} {S z TI TO i1 i2 l1 l2 : Addr} {xs ys : Array Value} {res : Value} {R : Result → Shared → Prop} (nh : A.handled = none) (D : ZipApart z TI TO i1 i2 l1 l2) (B : Zb S z TI TO i1 i2 l1 l2) (le : xs.size = ys.size) (few : xs.size ≤ sizeLine)
    (n0 : h0.get? S = none)
    (fin : ∀ h' as, Zl h0 S z TI TO i1 i2 l1 l2 xs ys xs.size h' as ∨ (∃ h, Zl h0 S z TI TO i1 i2 l1 l2 xs ys xs.size h as ∧ ∀ b o, b ≠ z → b ≠ TO → b ≠ i1 → b ≠ i2 → h.get? b = some o → h'.get? b = some o) → R (.ok (.ret res)) { s with heap := h' }) :
    ∀ (k i : Nat) (h : Heap) (as : List Addr), i + k = xs.size → Zl h0 S z TI TO i1 i2 l1 l2 xs ys i h as → codeAny (model P w) A (.builtin "list.extend.loop" ⟨[.ref S, .ref z, res], []⟩) R { s with heap := h } := by
  intro k
  induction k with
  | zero =>
    intro i h as e Z
    obtain rfl : i = xs.size := e
    refine codeAny_builtin F.entry_extend_loop ?_
    rw [Around.under_plainId F.plain_extend_loop _]
    show wpAny _ A.in1 (pyNext (.ref z) >>= _) _ _ _
    have hx : xs[xs.size]? = none := Array.getElem?_eq_none (Nat.le_refl _)
    rcases Z.zip with ⟨gz, a, b, gO⟩ | ⟨T, f, oT, gz, gT, _⟩
    · exact wpAny_bind (RZ.pyNext_zipT_end (s := { s with heap := h }) nh D gz Z.pI gO Z.j1 Z.j2 Z.t1 Z.t2 (.inl hx) fun h' hk => wpAny_pure (fin h' as (.inr ⟨h, Z, hk⟩)))
    · exact wpAny_bind (zt_stop (s := { s with heap := h }) (ys := ys) nh D gz gT Z.pI Z.j1 Z.t1 hx fun h' hk => wpAny_pure (fin h' as (.inr ⟨h, Z, fun b o c1 _ c3 c4 => hk b o c1 c3 c4⟩)))
  | succ k ih =>
    intro i h as e Z
    refine codeAny_builtin F.entry_extend_loop ?_
    rw [Around.under_plainId F.plain_extend_loop _]
    show wpAny _ A.in1 (pyNext (.ref z) >>= _) _ _ _
    have ex := Array.getElem?_eq_getElem (show i < xs.size by omega)
    have ey := Array.getElem?_eq_getElem (show i < ys.size by omega)
    obtain ⟨c, gS⟩ := Z.lst
    have sS : S < h.objs.size := Heap.lt_size gS
    have goal : ∀ h', IsPair h' h.objs.size xs[i] ys[i] → h'.objs.size = h.objs.size + 1 → h'.IsTupleIter i1 l1 (i + 1) → h'.IsTupleIter i2 l2 (i + 1) → (∃ T f oT, IsZipHeld h' z TI TO T f ∧ h'.get? T = some oT ∧ S < T) → (∀ c o, c ≠ z → c ≠ TO → c ≠ i1 → c ≠ i2 → h.get? c = some o → h'.get? c = some o) →
        wpAny (model P w) A.in1 (updateSeq S (·.push (.ref h.objs.size)) >>= fun _ => again (.builtin "list.extend.loop" ⟨[.ref S, .ref z, res], []⟩)) (fun fin s' => match fin with | .done f => R (.ok f) s' | .again c' => c'.quiet = true ∧ codeAny (model P w) A c' R s') (fun e s' => R (.error e) s') { s with heap := h' } := fun h' p1 sz1 j1 j2 zp kp => by
      have gS1 := kp S _ (Nat.ne_of_gt B.z) (Nat.ne_of_gt B.TO) (Nat.ne_of_gt B.i1) (Nat.ne_of_gt B.i2) gS
      have asz : (as.map Value.ref).toArray.size = i := by rw [List.size_toArray, List.length_map, Z.len]
      have k2 : ∀ b o, b ≠ S → h'.get? b = some o → (h'.update S (Obj.mapSeq (·.push (Value.ref h.objs.size)))).get? b = some o := fun b o hb q => (Heap.get?_update_other _ _ (Ne.symm hb)).trans q
      have gS2 := Heap.get?_update_self (Obj.mapSeq (·.push (Value.ref h.objs.size))) gS1 rfl
      refine wpAny_bind (wpAny_updateSeq (s := { s with heap := h' }) gS1 rfl (wpAny_pure ⟨plainId_quiet F.plain_extend_loop _, ?_⟩) (by rw [asz]; omega) (by show (Array.push _ _).size ≤ _; rw [Array.size_push, asz]; omega))
      refine ih (i + 1) _ (as ++ [h.objs.size]) (by omega) ⟨⟨_, gS2.trans (congrArg (fun a => some (lstO a _)) ?_)⟩, by rw [List.length_append, Z.len]; rfl, ?_, fun a ha => ?_, fun j a ha => ?_, ?_, j1.at fun o q => k2 _ o (Nat.ne_of_lt B.i1) q, j2.at fun o q => k2 _ o (Nat.ne_of_lt B.i2) q, ?_, ?_, ?_, fun b o c1 c2 c3 c4 q => ?_⟩
      · show Array.push _ _ = _
        rw [List.map_append, List.map_singleton, List.push_toArray]
      · rw [List.nodup_append]
        refine ⟨Z.nd, by simp, fun a ha b hb q => ?_⟩
        rw [List.mem_singleton] at hb
        exact Nat.ne_of_lt (Z.big a ha).2 (q.trans hb)
      · have us : (h'.update S (Obj.mapSeq (·.push (Value.ref h.objs.size)))).objs.size = h'.objs.size := Heap.size_update ..
        rw [us, sz1]
        rcases List.mem_append.mp ha with q | q
        · exact ⟨(Z.big a q).1, Nat.lt_succ_of_lt (Z.big a q).2⟩
        · rw [List.mem_singleton.mp q]; exact ⟨sS, Nat.lt_succ_self _⟩
      · rcases Nat.lt_or_ge j as.length with q | q
        · rw [List.getElem?_append_left q] at ha
          obtain ⟨u, v, e1, e2, p⟩ := Z.prs j a ha
          obtain ⟨b1, b2⟩ := Z.big a (List.mem_of_getElem? ha)
          have up : ∀ {c : Addr}, c < S → a ≠ c := fun q => Nat.ne_of_gt (Nat.lt_trans q b1)
          exact ⟨u, v, e1, e2, k2 _ _ (Nat.ne_of_gt b1) (kp _ _ (up B.z) (up B.TO) (up B.i1) (up B.i2) p)⟩
        · rw [List.getElem?_append_right q] at ha
          have ej : j - as.length = 0 := by
            cases hj : j - as.length with
            | zero => rfl
            | succ m => rw [hj] at ha; cases ha
          rw [ej] at ha
          cases ha
          obtain rfl : j = i := by have := Z.len; omega
          exact ⟨_, _, ex, ey, k2 _ _ (Nat.ne_of_gt sS) p1⟩
      · exact k2 _ _ (Nat.ne_of_lt B.TI) (kp _ _ D.TIz D.TITO D.TIi1 D.TIi2 Z.pI)
      · exact (Z.t1.at fun o q => kp _ o D.l1z D.l1TO D.l1i1 D.l1i2 q).at fun o q => k2 _ o (Nat.ne_of_lt B.l1) q
      · exact (Z.t2.at fun o q => kp _ o D.l2z D.l2TO D.l2i1 D.l2i2 q).at fun o q => k2 _ o (Nat.ne_of_lt B.l2) q
      · obtain ⟨T, f, oT, z1, z2, z3⟩ := zp
        exact .inr ⟨T, f, oT, k2 _ _ (Nat.ne_of_lt B.z) z1, k2 _ _ (Nat.ne_of_gt z3) z2, z3⟩
      · exact k2 _ _ (fun y => by rw [y, n0] at q; cases q) (kp b o c1 c2 c3 c4 (Z.kp b o c1 c2 c3 c4 q))
    rcases Z.zip with ⟨gz, a, b, gO⟩ | ⟨T, f, oT, gz, gT, bT⟩
    · exact wpAny_bind (RZ.pyNext_zipT_item (s := { s with heap := h }) D gz Z.pI gO Z.j1 Z.j2 Z.t1 Z.t2 ex ey fun h' a1 a2 a3 a4 a5 a6 kp => goal h' a5 a6 a3 a4 ⟨_, false, _, a1, a5, sS⟩ kp)
    · have up : ∀ {c : Addr}, c < S → T ≠ c := fun q => Nat.ne_of_gt (Nat.lt_trans q bT)
      exact wpAny_bind (zt_next (s := { s with heap := h }) D gz gT Z.pI Z.j1 Z.j2 Z.t1 Z.t2 ex ey fun h' a1 a2 a3 a4 a5 kp => goal h' a4 a5 a2 a3 ⟨T, true, oT, a1, kp _ _ (up B.z) (up B.i1) (up B.i2) gT, bT⟩ fun c o c1 _ c3 c4 => kp c o c1 c3 c4)
set_option maxHeartbeats 1600000 in
theorem call_list_zt {z TI TO i1 i2 l1 l2 : Addr} {xs ys : Array Value} {a b : Value} {Q : Value → Shared → Prop} (nh : A.handled = none) (D : ZipApart z TI TO i1 i2 l1 l2) (B : Zb s.heap.objs.size z TI TO i1 i2 l1 l2) (le : xs.size = ys.size) (few : xs.size ≤ sizeLine)
    (gz : IsZip s.heap z TI TO .none) (gI : IsPair s.heap TI (.ref i1) (.ref i2)) (gO : IsPair s.heap TO a b) (j1 : s.heap.IsTupleIter i1 l1 0) (j2 : s.heap.IsTupleIter i2 l2 0) (t1 : s.heap.IsTuple l1 xs) (t2 : s.heap.IsTuple l2 ys)
    (fin : ∀ (h' : Heap) (as : List Addr), (∃ c, h'.get? s.heap.objs.size = some (lstO (as.map Value.ref).toArray c)) → as.length = xs.size → as.Nodup → (∀ x ∈ as, s.heap.objs.size < x) → (∀ (j : Nat) x, as[j]? = some x → ∃ u v, xs[j]? = some u ∧ ys[j]? = some v ∧ IsPair h' x u v) →
      (∀ b o, b ≠ z → b ≠ TO → b ≠ i1 → b ≠ i2 → s.heap.get? b = some o → h'.get? b = some o) → Q (.ref s.heap.objs.size) { s with heap := h' }) :
    wpAny (model P w) A (call (.type "list") [.ref z]) Q E s := by
  refine callType_codes (Q₁ := fun obj s₁ => obj = .ref s.heap.objs.size ∧ s₁ = { s with heap := s.heap.push { cls := .type "list", data := .seq #[] } }) F.called_list (F.typeCall_list_1 _) F.entry_list_init
    (code_list_new _ ⟨rfl, rfl⟩) fun obj s₁ h₁ => ?_
  obtain ⟨rfl, rfl⟩ := h₁
  have gS : (s.heap.push { cls := .type "list", data := .seq #[] }).get? s.heap.objs.size = some { cls := .type "list", data := .seq #[] } := Heap.get?_push_size _ rfl
  refine ⟨⟨_, gS, rfl⟩, F.args_list_init_2 _ _, ?_⟩
  show wpAny _ A.in1.in1 (do let old ← Builtin.List.listItems (.ref s.heap.objs.size); Builtin.List.listUpdate (.ref s.heap.objs.size) (fun _ => #[]); letGo old.toList.reverse; Builtin.List.listExtendWith (.ref s.heap.objs.size) (.ref z) .none) _ _ _
  refine wpAny_bind ?_
  unfold Builtin.List.listItems
  refine wpAny_bind (wpAny_seqItems gS rfl (wpAny_pure ?_))
  show wpAny _ A.in1.in1 (updateSeq s.heap.objs.size (fun _ => #[]) >>= fun _ => letGo (#[] : Array Value).toList.reverse >>= fun _ => Builtin.List.listExtendWith (.ref s.heap.objs.size) (.ref z) .none) _ _ _
  refine wpAny_bind (wpAny_updateSeq gS rfl ?_)
  have gS2 := Heap.get?_update_self (Obj.mapSeq (fun _ => (#[] : Array Value))) gS rfl
  refine wpAny_bind (wpAny_letGo ?_)
  unfold Builtin.List.listExtendWith
  have up : ∀ (h : Heap) (f : Obj → Obj), (∀ b o, s.heap.get? b = some o → h.get? b = some o) → ∀ b o, s.heap.get? b = some o → (h.update s.heap.objs.size f).get? b = some o := fun h f q b o e =>
    (Heap.get?_update_other _ _ (Ne.symm (Nat.ne_of_lt (Heap.lt_size e)))).trans (q b o e)
  have k1 : ∀ b o, s.heap.get? b = some o → (s.heap.push { cls := .type "list", data := .seq #[] }).get? b = some o := fun b o e => Heap.get?_push_of_some _ e
  have k2 := up _ (Obj.mapSeq (fun _ => (#[] : Array Value))) k1
  have ty : ∀ {h : Heap}, (∀ b o, s.heap.get? b = some o → h.get? b = some o) → Shared.TypeIs { s with heap := h } (.ref z) "zip" := fun {h} q => ⟨_, q _ _ gz, rfl⟩
  refine wpAny_bind (wpAny_typeOf (ty k2) ?_)
  have h1 : Builtin.List.listSameRef (.ref s.heap.objs.size) (.ref z) = false := by simp [Builtin.List.listSameRef, Nat.ne_of_gt B.z]
  have h2 : (Value.type "zip" == Value.type "list") = false := by decide
  have h3 : (Value.type "zip" == Value.type "tuple") = false := by decide
  simp only [h1, h2, h3, Bool.or_false, Bool.false_eq_true, if_false]
  refine wpAny_bind (wpAny_pyIter_zip (s := { s with heap := _ }) (k2 _ _ gz) ?_)
  refine wpAny_bind (wpAny_holding ?_)
  unfold Builtin.List.listLengthHint
  refine wpAny_bind (wpAny_specialOf (ty k2) zip_no_len ?_)
  show wpAny _ A.in1.in1 (specialOf (Value.ref z) (Str.ofString "__length_hint__") >>= _) _ _ _
  refine wpAny_bind (wpAny_specialOf (ty k2) zip_no_hint ?_)
  refine wpAny_pure ?_
  show wpAny _ A.in1.in1 (rule "list.extend.makes-room" >>= fun _ => Builtin.List.listTouch (.ref s.heap.objs.size) >>= fun _ =>
    again (.builtin "list.extend.loop" ⟨[.ref s.heap.objs.size, .ref z, .none], []⟩)) _ _ _
  refine wpAny_bind (wpAny_rule ?_)
  refine wpAny_bind ?_
  show wpAny _ A.in1.in1 (updateSeq s.heap.objs.size (·.push .none) >>= fun _ => updateSeq s.heap.objs.size (·.pop)) _ _ _
  refine wpAny_bind (wpAny_updateSeq gS2 rfl ?_)
  have gS3 := Heap.get?_update_self (Obj.mapSeq (·.push Value.none)) gS2 rfl
  refine wpAny_updateSeq (hz := by seq_fits) gS3 rfl ?_
  have gS4 := Heap.get?_update_self (Obj.mapSeq (·.pop)) gS3 rfl
  have k4 := up _ (Obj.mapSeq (·.pop)) (up _ (Obj.mapSeq (·.push Value.none)) k2)
  refine wpAny_pure ⟨plainId_quiet F.plain_extend_loop _, ?_⟩
  have n0 : s.heap.get? s.heap.objs.size = none := by
    cases q : s.heap.get? s.heap.objs.size with
    | none => rfl
    | some o => exact absurd (Heap.lt_size q) (Nat.lt_irrefl _)
  refine zl_loop (s := s) (A := A.in1) (h0 := s.heap) (S := s.heap.objs.size) (by simpa using nh) D B le few n0 (fun h' as q => ⟨rfl, ?_⟩) xs.size 0 _ [] (Nat.zero_add _) ⟨⟨_, gS4⟩, rfl, List.nodup_nil, (fun a ha => nomatch ha), (fun j a ha => nomatch ha), k4 _ _ gI, j1.at fun o e => k4 _ o e, j2.at fun o e => k4 _ o e, t1.at fun o e => k4 _ o e, t2.at fun o e => k4 _ o e, .inl ⟨k4 _ _ gz, _, _, k4 _ _ gO⟩, fun b o _ _ _ _ e => k4 b o e⟩
  rcases q with Z | ⟨h, Z, kp⟩
  · exact fin h' as Z.lst Z.len Z.nd (fun x hx => (Z.big x hx).1) Z.prs Z.kp
  · have ne : ∀ {b c : Addr}, s.heap.objs.size ≤ b → c < s.heap.objs.size → b ≠ c := fun p q => Nat.ne_of_gt (Nat.lt_of_lt_of_le q p)
    obtain ⟨c, e⟩ := Z.lst
    refine fin h' as ⟨c, kp _ _ (ne (Nat.le_refl _) B.z) (ne (Nat.le_refl _) B.TO) (ne (Nat.le_refl _) B.i1) (ne (Nat.le_refl _) B.i2) e⟩ Z.len Z.nd (fun x hx => (Z.big x hx).1) (fun j x hx => ?_) fun b o c1 c2 c3 c4 q => kp b o c1 c2 c3 c4 (Z.kp b o c1 c2 c3 c4 q)
    obtain ⟨u, v, e1, e2, p⟩ := Z.prs j x hx
    have hb := Nat.le_of_lt (Z.big x (List.mem_of_getElem? hx)).1
    exact ⟨u, v, e1, e2, kp _ _ (ne hb B.z) (ne hb B.TO) (ne hb B.i1) (ne hb B.i2) p⟩
end
end DL

/-! DS5: list(zip(a, b)), the reading; a < b of tuples of ints; the greatest of a tuple. -/
namespace DL
open PySem PySem.Spec L2
open PyProof.Rows hiding St

/-- pairs laid at these addresses -/
def laidT (H : Hp) : List Addr → List (V × V) → Hp
  | a :: as, p :: ps => upd (laidT H as ps) a (.tup [p.1, p.2])
  | _, _ => H
theorem laidT_ne {H : Hp} {b : Addr} : ∀ {as : List Addr} {ps : List (V × V)}, b ∉ as → laidT H as ps b = H b
  | [], _, _ => by unfold laidT; rfl
  | _ :: _, [], _ => by unfold laidT; rfl
  | a :: as, p :: ps, h => by
    rw [laidT, upd_ne (fun e => h (by rw [e]; exact List.mem_cons_self))]
    exact laidT_ne fun q => h (List.mem_cons_of_mem _ q)
theorem laidT_at {H : Hp} : ∀ {as : List Addr} {ps : List (V × V)} {j : Nat} {a : Addr} {p : V × V}, as.Nodup → as[j]? = some a → ps[j]? = some p → laidT H as ps a = some (.tup [p.1, p.2])
  | [], _, j, _, _, _, h, _ => by cases j <;> cases h
  | _ :: _, [], j, _, _, _, _, h => by cases j <;> cases h
  | _ :: _, _ :: _, 0, _, _, _, h1, h2 => by cases h1; cases h2; rw [laidT]; exact upd_same
  | b :: as, q :: ps, j + 1, a, p, nd, h1, h2 => by
    rw [List.nodup_cons] at nd
    have h1 : as[j]? = some a := h1
    rw [laidT, upd_ne (fun e => nd.1 (by rw [← e]; exact List.mem_of_getElem? h1))]
    exact laidT_at nd.2 h1 h2
section
variable {X : Cx} {pins : List (Addr × Obj)} {σ : L2.St} {H : Hp} {s : Shared}
theorem Inv.pairs : ∀ {as : List Addr} {ps : List (V × V)} {h' : Heap}, Inv X pins σ H s → Kp s.heap h' → (∀ x ∈ as, s.heap.objs.size ≤ x) → as.Nodup → as.length = ps.length →
    (∀ (j : Nat) (x : Addr) (p : V × V), as[j]? = some x → ps[j]? = some p → ∃ u v, RelV p.1 u ∧ RelV p.2 v ∧ IsPair h' x u v) → Inv X pins σ (laidT H as ps) { s with heap := h' }
  | [], ps, h', I, k, _, _, _, _ => by unfold laidT; exact I.kept (t' := s.toks) k
  | _ :: _, [], _, _, _, _, _, e, _ => nomatch e
  | a :: as, p :: ps, h', I, k, big, nd, e, pr => by
    rw [List.nodup_cons] at nd
    obtain ⟨G, g1, g2⟩ := restrict h' fun b => decide (b ≠ a)
    have gk : ∀ b o, b ≠ a → h'.get? b = some o → G.get? b = some o := fun b o hb q => by
      rw [g1 b (decide_eq_true hb)]
      exact q
    have ga : G.get? a = none := g2 a (decide_eq_false fun z => z rfl)
    have big_a := big a List.mem_cons_self
    have I1 : Inv X pins σ (laidT H as ps) { s with heap := G } := Inv.pairs I (fun b o q => gk b o (Nat.ne_of_lt (Nat.lt_of_lt_of_le (Heap.lt_size q) big_a)) (k b o q)) (fun x hx => big x (List.mem_cons_of_mem _ hx)) nd.2 (Nat.succ.inj e) fun j x q h1 h2 => by
      obtain ⟨u, v, r1, r2, hp⟩ := pr (j + 1) x q h1 h2
      exact ⟨u, v, r1, r2, gk _ _ (fun z => nd.1 (by rw [← z]; exact List.mem_of_getElem? h1)) hp⟩
    obtain ⟨u, v, r1, r2, hp⟩ := pr 0 a p rfl rfl
    rw [laidT]
    exact I1.laidN (h' := h') (t' := s.toks) (fun b o q => by
      have hb : b ≠ a := fun z => by
        have q : G.get? b = some o := q
        rw [z, ga] at q; cases q
      have q : G.get? b = some o := q
      rw [g1 b (decide_eq_true hb)] at q
      exact q) ga (by rw [laidT_ne nd.1]; exact I.hok.fresh big_a) ⟨by show 2 ≤ sizeLine; decide, [u, v], .cons r1 (.cons r2 .nil), ⟨_, hp, rfl, _, rfl⟩⟩
theorem refs_vals : ∀ as : List Addr, Vals (as.map V.ref) (as.map Value.ref)
  | [] => .nil
  | _ :: as => .cons rfl (refs_vals as)
theorem Inv.pairsL {as : List Addr} {ps : List (V × V)} {h' : Heap} {S c : Nat} (I : Inv X pins σ H s) (k : Kp s.heap h') (big : ∀ x ∈ as, s.heap.objs.size ≤ x) (nd : as.Nodup) (e : as.length = ps.length)
    (pr : ∀ (j : Nat) (x : Addr) (p : V × V), as[j]? = some x → ps[j]? = some p → ∃ u v, RelV p.1 u ∧ RelV p.2 v ∧ IsPair h' x u v) (hS : s.heap.objs.size ≤ S) (nS : S ∉ as) (gS : h'.get? S = some (lstO (as.map Value.ref).toArray c)) (few : as.length ≤ sizeLine) :
    Inv X pins σ (upd (laidT H as ps) S (.lst (as.map V.ref))) { s with heap := h' } := by
  obtain ⟨G, g1, g2⟩ := restrict h' fun b => decide (b ≠ S)
  have gk : ∀ b o, b ≠ S → h'.get? b = some o → G.get? b = some o := fun b o hb q => by
    rw [g1 b (decide_eq_true hb)]
    exact q
  have ga : G.get? S = none := g2 S (decide_eq_false fun z => z rfl)
  have I1 : Inv X pins σ (laidT H as ps) { s with heap := G } := Inv.pairs I (fun b o q => gk b o (Nat.ne_of_lt (Nat.lt_of_lt_of_le (Heap.lt_size q) hS)) (k b o q)) big nd e fun j x q h1 h2 => by
    obtain ⟨u, v, r1, r2, hp⟩ := pr j x q h1 h2
    exact ⟨u, v, r1, r2, gk _ _ (fun z => nS (by rw [← z]; exact List.mem_of_getElem? h1)) hp⟩
  exact I1.laidN (h' := h') (t' := s.toks) (fun b o q => by
    have q : G.get? b = some o := q
    have hb : b ≠ S := fun z => by rw [z, ga] at q; cases q
    rw [g1 b (decide_eq_true hb)] at q
    exact q) ga (by rw [laidT_ne nS]; exact I.hok.fresh hS) ⟨by rw [List.length_map]; exact few, as.map Value.ref, c, refs_vals as, gS⟩
end
section
variable {X : Cx} {e e2 : Expr} {ta : TA} {p p2 pos pos2 : Pos}
def tListZip (K : PySem.W.Frag) (ta : TA) : TE := fun σ H Q => ta σ H fun vs H1 => ∃ a b xs ys, vs = [V.ref a, V.ref b] ∧ SqT K H1 a xs ∧ SqT K H1 b ys ∧ xs.length = ys.length ∧
  ∀ (q : Addr) (as : List Addr), H1 q = none → (∀ x ∈ as, H1 x = none) → q ∉ as → as.Nodup → as.length = xs.length → xs.length ≤ sizeLine → Q (.ref q) (upd (laidT H1 as (xs.zip ys)) q (.lst (as.map V.ref)))
theorem pe_listZip (hc : X.calm = true) (hml : X.mg "list" = none) (hmz : X.mg "zip" = none) (ha : PA X [e, e2] ta) (hgl : Gl X "list" := by rfl) (hgz : Gl X "zip" := by rfl) (hs : starEach [e, e2] X.env = (false, eval e X.env) :: starEach [e2] X.env := by rfl) (hpl : (backTo pos2 (starEach [e2] X.env)).any (·.1) = false := by rfl)
    (na : starEach [.Call (.Name "zip" p2) [e, e2] [] pos2] X.env = (false, eval (.Call (.Name "zip" p2) [e, e2] [] pos2) X.env) :: starEach [] X.env := by rfl) :
    PE X (.Call (.Name "list" p) [.Call (.Name "zip" p2) [e, e2] [] pos2] [] pos) (tListZip X.K ta) := by
  refine ⟨fun pins s σ H Q I h => ?_⟩
  refine Call_ (ld_blt I hgl hml PyProof.Rows.boot_list (PyProof.Rows.callWith_type1 (PyProof.Rows.args_cons ?_ na) na))
  refine Call_ (ld_blt I hgz hmz PyProof.Rows.boot_zip (PyProof.Rows.callWith_type1 (thn (ha.run pos2 pins s σ H _ I h) fun us s1 ⟨vs, H1, I1, r1, q1⟩ => ?_) hs hpl))
  obtain ⟨a, b, xs, ys, rfl, hx, hy, le, q⟩ := q1
  cases r1 with
  | cons r rr =>
    cases rr with
    | cons r' rr =>
      cases rr
      cases r
      cases r'
      obtain ⟨ix, rx, px, zx⟩ := I1.tuple hx
      obtain ⟨iy, ry, py, zy⟩ := I1.tuple hy
      have lx := rx.length
      have ly := ry.length
      have tx : s1.heap.IsTuple a ix.toArray := px
      have ty : s1.heap.IsTuple b iy.toArray := py
      obtain ⟨o1, ho1, _⟩ := id px
      obtain ⟨o2, ho2, _⟩ := id py
      have ba := Heap.lt_size ho1
      have bb := Heap.lt_size ho2
      refine RZ.call_zipT tx ty fun h1 hz hI hO j1 j2 sz hk => PyProof.Rows.args_nil ?_
      have bd : Zb h1.objs.size (s1.heap.objs.size + 4) (s1.heap.objs.size + 2) (s1.heap.objs.size + 3) s1.heap.objs.size (s1.heap.objs.size + 1) a b := by
        rw [sz]
        exact ⟨Nat.lt_succ_self _, Nat.add_lt_add_left (by decide) _, Nat.add_lt_add_left (by decide) _, Nat.lt_add_of_pos_right (by decide), Nat.add_lt_add_left (by decide) _, Nat.lt_of_lt_of_le ba (Nat.le_add_right _ _), Nat.lt_of_lt_of_le bb (Nat.le_add_right _ _)⟩
      refine call_list_zt (s := { s1 with heap := h1 }) (xs := ix.toArray) (ys := iy.toArray) (I1.ok.hd hc) (PySem.W.ktu_apart s1.heap.objs.size a b ba bb) bd (by rw [List.size_toArray, List.size_toArray, ← lx, ← ly, le]) (by rw [List.size_toArray, ← lx]; exact zx) hz hI hO j1 j2 (tx.at fun o q => hk _ o q) (ty.at fun o q => hk _ o q) fun h' as ⟨c, gS⟩ la nd big prs kp => ?_
      have sz2 : s1.heap.objs.size ≤ h1.objs.size := by rw [sz]; exact Nat.le_add_right _ _
      have big2 : ∀ x ∈ as, s1.heap.objs.size ≤ x := fun x hx => Nat.le_of_lt (Nat.lt_of_le_of_lt sz2 (big x hx))
      have nS : h1.objs.size ∉ as := fun z => Nat.lt_irrefl _ (big _ z)
      rw [List.size_toArray, ← lx] at la
      have kp1 : Kp s1.heap h' := fun b o q => by
        have l := Heap.lt_size q
        exact kp b o (Nat.ne_of_lt (Nat.lt_of_lt_of_le l (Nat.le_add_right _ _))) (Nat.ne_of_lt (Nat.lt_of_lt_of_le l (Nat.le_add_right _ _))) (Nat.ne_of_lt l) (Nat.ne_of_lt (Nat.lt_of_lt_of_le l (Nat.le_add_right _ _))) (hk b o q)
      have I2 : Inv X pins σ (upd (laidT H1 as (xs.zip ys)) h1.objs.size (.lst (as.map V.ref))) { s1 with heap := h' } := by
        refine Inv.pairsL (s := s1) (c := c) I1 kp1 big2 nd (by rw [la, List.length_zip, ← le, Nat.min_self]) (fun j x pr h2 h3 => ?_) sz2 nS gS (by rw [la]; exact zx)
        obtain ⟨u, v, e1, e2, hp⟩ := prs j x h2
        obtain ⟨z1, z2⟩ := List.getElem?_zip_eq_some.mp h3
        obtain ⟨u', g1, r1⟩ := rx.get z1
        obtain ⟨v', g2, r2⟩ := ry.get z2
        have e1 : ix[j]? = some u := by simpa using e1
        have e2 : iy[j]? = some v := by simpa using e2
        rw [e1] at g1
        rw [e2] at g2
        cases g1
        cases g2
        exact ⟨u, v, r1, r2, hp⟩
      exact ⟨.ref h1.objs.size, _, I2, rfl, q _ as (I1.hok.fresh sz2) (fun x hx => I1.hok.fresh (big2 x hx)) nS nd la zx⟩
end
section
variable {X : Cx} {C : Exs} {W : WX} {K : PySem.W.Frag} {a b : Expr} {ma mb : ME PyData} {p p2 pos pos2 : Pos}
def zipD : List PyData → List PyData → List PyData
  | x :: xs, y :: ys => .tuple [x, y] :: zipD xs ys
  | _, _ => []
/-- list(zip(t, u)), t and u of one length -/
def fZip : PyData → PyData → Option (List PyData)
  | .tuple xs, .tuple ys => if decide (xs.length = ys.length) then some (zipD xs ys) else none
  | _, _ => none
def mOpF (f : PyData → PyData → Option (List PyData)) (a b : ME PyData) : ME (List PyData) := a.bind fun x => b.bind fun y => ME.lift (f x y)
theorem zip_df {H H1 : Hp} {g g' : Addr → Prop} : ∀ {xs ys : List V} {ds es : List PyData} {as : List Addr}, DfAll K H1 g xs ds → DfAll K H1 g ys es → as.length = xs.length → xs.length = ys.length → (∀ (j : Nat) (a : Addr) (p : V × V), as[j]? = some a → (xs.zip ys)[j]? = some p → H a = some (.tup [p.1, p.2])) →
    (∀ {v d}, Df K H1 g v d → Df K H g' v d) → DfAll K H g' (as.map V.ref) (zipD ds es)
  | [], [], _, _, [], .nil, .nil, _, _, _, _ => .nil
  | x :: xs, y :: ys, _, _, a :: as, .cons h1 h2, .cons h3 h4, e1, e2, at_, up =>
    .cons (.tup (at_ 0 a (x, y) rfl rfl) (show 2 ≤ sizeLine by decide) (.cons (up h1) (.cons (up h3) .nil))) (zip_df h2 h4 (Nat.succ.inj e1) (Nat.succ.inj e2) (fun j a p q1 q2 => at_ (j + 1) a p q1 q2) up)
  | [], _ :: _, _, _, _, _, _, _, e, _, _ => nomatch e
  | _ :: _, [], _, _, _, _, _, _, e, _, _ => nomatch e
  | [], _, _, _, _ :: _, _, _, e, _, _, _ => nomatch e
  | _ :: _, _, _, _, [], _, _, e, _, _, _ => nomatch e
theorem ext_laidT {Γ : Gm} {H : Hp} : ∀ {as : List Addr} {ps : List (V × V)}, (∀ x ∈ as, H x = none) → as.Nodup → Ext Γ H (laidT H as ps) := fun {as ps} h nd b o n q => by
  rw [laidT_ne fun z => by rw [h b z] at q; cases q]
  exact q
theorem drr_laidT {Γ : Gm} {H : Hp} {ds : DS} (d : DrR K Γ H ds) : ∀ {as : List Addr} {ps : List (V × V)}, (∀ x ∈ as, H x = none) → as.Nodup → DrR K Γ (laidT H as ps) ds
  | [], _, _, _ => by unfold laidT; exact d
  | _ :: _, [], _, _ => by unfold laidT; exact d
  | a :: as, p :: ps, h, nd => by
    rw [List.nodup_cons] at nd
    rw [laidT]
    exact (drr_laidT d (fun x hx => h x (List.mem_cons_of_mem _ hx)) nd.2).new (by rw [laidT_ne nd.1]; exact h a List.mem_cons_self)
theorem sf_listZip (hc : X.calm = true) (hml : X.mg "list" = none) (hmz : X.mg "zip" = none) (ha : SE X C W a ma) (hb : SE X C W b mb) (hgl : Gl X "list" := by rfl) (hgz : Gl X "zip" := by rfl) (hs : starEach [a, b] X.env = (false, eval a X.env) :: starEach [b] X.env := by rfl) (hs2 : starEach [b] X.env = (false, eval b X.env) :: starEach [] X.env := by rfl) (hpl : (backTo pos2 (starEach [b] X.env)).any (·.1) = false := by rfl)
    (na : starEach [.Call (.Name "zip" p2) [a, b] [] pos2] X.env = (false, eval (.Call (.Name "zip" p2) [a, b] [] pos2) X.env) :: starEach [] X.env := by rfl) :
    SF X C W (.Call (.Name "list" p) [.Call (.Name "zip" p2) [a, b] [] pos2] [] pos) (mOpF fZip ma mb) :=
  PE.imp (pe_listZip hc hml hmz (pa_cons ha (pa_cons hb pa_nil hs2) hs) hgl hgz hs hpl na) fun σ H Q ⟨Γ, env, ds, R, h⟩ => by
    refine ⟨Γ, env, ds, R, h.bind.imp fun d ds1 H1 e1 d1 q x hx => ⟨Γ, env, ds1, R.go e1 d1, q.bind.imp fun e ds2 H2 e2 d2 q y hy => ?_⟩⟩
    obtain ⟨z, hz, q⟩ := lift_some q
    have hx := hx.ext e2 d1
    unfold fZip at hz
    split at hz
    · rename_i xs ys
      split at hz
      · rename_i le
        have le := of_decide_eq_true le
        cases hz
        cases hx with
        | @tup _ us _ g1 g2 g3 =>
          cases hy with
          | @tup _ ws _ k1 k2 k3 =>
            have l1 := g3.length
            have l2 := k3.length
            refine ⟨_, _, _, _, rfl, SqT.of g1, SqT.of k1, by rw [l1, l2, le], fun r as hr ha nr nd la lz => ?_⟩
            have E1 : Ext Γ H2 (laidT H2 as (us.zip ws)) := ext_laidT (ps := us.zip ws) ha nd
            have D1 := drr_laidT d2 (ps := us.zip ws) ha nd
            have hr1 := (laidT_ne (H := H2) (ps := us.zip ws) nr).trans hr
            refine q _ (E1.trans (ext_new hr1)) (D1.new hr1) r (as.map V.ref) (R.none_back e1 d1 ((R.go e1 d1).none_back e2 d2 hr)) upd_same (by rw [List.length_map, la]; exact lz) ?_
            refine zip_df g3 k3 la (by rw [l1, l2, le]) (fun j a pr q1 q2 => ?_) fun {v d} hd => ?_
            · rw [upd_ne (fun z => nr (by rw [← z]; exact List.mem_of_getElem? q1))]
              exact laidT_at nd q1 q2
            · exact (hd.avoid hr).mono (fun a u q e => ⟨q, (E1.trans (ext_new hr1)) a _ q.1.2.2 e⟩) fun _ _ q => tup_ext (E1.trans (ext_new hr1)) d2 q
      · cases hz
    · cases hz
end
end DL

/-! DS6: max(t), t < u of tuples of ints. -/
namespace DL
open PySem PySem.Spec L2
open PyProof.Rows hiding St
section
variable {P : Program} {w : World} {A : Around} {E : Value → Shared → Prop} {s : Shared} {l : Addr} {its : List Value} {ns : List Int} {Q : Value → Shared → Prop}
theorem tup_iter {xs : Array Value} {Q : Value → Shared → Prop} (hl : s.heap.IsTuple l xs)
    (h : ∀ z : Shared, z = { s with heap := s.heap.push { cls := .type "tuple_iterator", data := .fields #[.ref l, .int 0 0] } } → (z.heap.IsTupleIter s.heap.objs.size l 0 ∧ z.heap.IsTuple l xs) → (∀ b ∈ [s.heap.objs.size, l], b < z.heap.objs.size) → l ≠ s.heap.objs.size → Q (.ref s.heap.objs.size) z) :
    wpAny (model P w) A (pyIter (.ref l)) Q E s := by
  have hlt : l < s.heap.objs.size := by obtain ⟨_, e, _⟩ := hl; exact Heap.lt_size e
  refine wpAny_pyIter_tuple hl (h _ rfl ⟨⟨_, Heap.get?_push_size _ rfl, rfl, rfl⟩, hl.push _⟩ (fun b hb => ?_) (Nat.ne_of_lt hlt))
  have e : (s.heap.push { cls := .type "tuple_iterator", data := .fields #[.ref l, .int 0 0] }).objs.size = s.heap.objs.size + 1 := Heap.size_push ..
  show b < (s.heap.push _).objs.size
  rw [e]
  rcases List.mem_cons.mp hb with rfl | hb
  · exact Nat.lt_succ_self _
  · rw [List.mem_singleton.mp hb]; exact Nat.lt_succ_of_lt hlt
theorem max_tup_raw (nh : A.handled = none) (hl : s.heap.IsTuple l its.toArray) (hi : IntsAre its ns) (ne : 0 < ns.length)
    (h : ∀ h' tk M t', Kp s.heap h' → M ∈ ns → (∀ a, a ∈ ns → a ≤ M) → Q (.int M t') { s with heap := h', toks := tk }) : wpAny (model P w) A (call (.builtin "max") [.ref l]) Q E s := by
  obtain ⟨xs, e⟩ := hi.allInts.items
  have hn : numsOf (intItems xs).toList = ns := by rw [← e]; exact hi.numsOf
  rw [nums_intItems] at hn
  subst hn
  rw [e] at hl
  have hsz : 0 < xs.size := by simpa using ne
  refine call_max_walk (tup_iter hl fun z e st hfp hlI => ?_)
  subst e
  refine ⟨_, _, _, _, _, _, _, rfl, Walks.tuple (A := A.in1) nh _ l hlI (intItems xs), st, hfp, by simpa [intItems] using hsz, CmpOf.ints_gt (numAt xs) (fun _ _ => intItems_at), fun v h' tk hP hk => ?_⟩
  have hv : (intItems xs)[argBest (fun i j => decide (numAt xs i > numAt xs j)) (xs.size - 1)]? = some v := by simpa [intItems] using hP
  obtain ⟨t, rfl⟩ := intItems_at hv
  obtain ⟨h1, h2⟩ := argBest_gt (numAt xs) (xs.size - 1)
  refine h h' tk _ t (fun b o q => hk b o (fun hm => ?_) (Heap.get?_push_of_some _ q)) ?_ fun a ha => ?_
  · rw [List.mem_singleton.mp hm] at q
    exact Nat.lt_irrefl _ (Heap.lt_size q)
  · rw [numAt_eq]; exact PySem.getD_mem (by rw [List.length_map, Array.length_toList]; omega)
  · obtain ⟨j, hj, rfl⟩ := mem_getD ha
    rw [List.length_map, Array.length_toList] at hj
    rw [← numAt_eq]; exact h2 j (by omega)
end
section
variable {X : Cx} {K : PySem.W.Frag}
def rMaxT (K : PySem.W.Frag) : List V → Hp → VK → Prop := fun vs H Q => ∃ (a : Addr) (ns : List Int), vs = [V.ref a] ∧ SqT K H a (ns.map V.int) ∧ 0 < ns.length ∧ ∀ m, m ∈ ns → (∀ y, y ∈ ns → y ≤ m) → Q (.int m) H
theorem cr_maxT (hc : X.calm = true) : CallR X (.builtin "max") (rMaxT X.K) := by
  intro pins s σ H vs us Q I r h
  obtain ⟨a, ns, rfl, hs, hne, q⟩ := h
  obtain ⟨its, rv, hl, _⟩ := I.tuple hs
  rw [Vals.ref1 r]
  exact max_tup_raw (I.ok.hd hc) hl rv.ints hne fun h' tk m t' hk h1 h2 => ⟨.int _, H, I.kept hk, ⟨_, rfl⟩, q m h1 h2⟩
def fMaxA : PyData → Option PyData
  | .tuple xs => (intsOf xs).bind fun bs => match bs with | [] => none | m :: r => some (.int (maxOf m r))
  | d => fMax d
def rMaxA (K : PySem.W.Frag) : List V → Hp → VK → Prop := fun vs H Q => rMax K vs H Q ∨ rMaxT K vs H Q
theorem cr_maxA (hc : X.calm = true) : CallR X (.builtin "max") (rMaxA X.K) := .or (cr_max hc) (cr_maxT hc)
theorem un_maxA : Un1 K (rMaxA K) fMaxA := fun Γ σ H env ds R x d z hx hf Q q => by
  unfold fMaxA at hf
  split at hf
  · refine .inr ?_
    obtain ⟨a, us, rfl, hS, hl, hA⟩ := hx.tuple
    obtain ⟨bs, e1, e2⟩ := Option.bind_eq_some_iff.mp hf
    obtain rfl := intsOf_eq e1
    rw [hA.ints_inv] at hS
    cases bs with
    | nil => cases e2
    | cons m r =>
      cases e2
      refine ⟨a, _, rfl, SqT.of hS, Nat.succ_pos _, fun k hk hle => ?_⟩
      obtain ⟨h1, h2, h3⟩ := maxOf_ge r m
      have e : k = maxOf m r := by
        have t1 : k ≤ maxOf m r := by
          rcases List.mem_cons.mp hk with rfl | hk
          · exact h1
          · exact h2 k hk
        have t2 : maxOf m r ≤ k := by
          rcases h3 with h3 | h3
          · rw [h3]; exact hle m List.mem_cons_self
          · exact hle _ (List.mem_cons_of_mem _ h3)
        omega
      rw [e]
      exact q _ _ Ext.refl R.draw (.int _)
  · exact .inl (un_max Γ σ H env ds R x d z hx hf Q q)
/-- a < b: ints, texts, tuples of ints -/
def fLtA : PyData → PyData → Option PyData
  | .tuple xs, .tuple ys => (intsOf xs).bind fun a => (intsOf ys).bind fun b => some (.bool (HT.lexLt a b))
  | d, e => fLt d e
def rLtB (K : PySem.W.Frag) : R2 := fun x y H Q => rLtA x y H Q ∨ rLtT K x y H Q
theorem op_ltB (hu : X.A.units + 65 < cLine) : OpR X (compareOp .Lt) (rLtB X.K) := .or op_ltA (op_ltT (Nat.lt_of_le_of_lt (Nat.le_add_right _ _) hu))
theorem bin_ltB : Bin K (rLtB K) fLtA := fun Γ σ H env ds R x y d e z hx hy hf Q q => by
  unfold fLtA at hf
  split at hf
  · refine .inr ?_
    obtain ⟨a, us, rfl, hS, hl, hA⟩ := hx.tuple
    obtain ⟨b, ws, rfl, hS2, hl2, hA2⟩ := hy.tuple
    obtain ⟨ns, e1, f1⟩ := Option.bind_eq_some_iff.mp hf
    obtain ⟨ms, e2, f2⟩ := Option.bind_eq_some_iff.mp f1
    obtain rfl := intsOf_eq e1
    obtain rfl := intsOf_eq e2
    rw [hA.ints_inv] at hS
    rw [hA2.ints_inv] at hS2
    cases f2
    exact ⟨a, b, ns, ms, rfl, rfl, SqT.of hS, SqT.of hS2, q _ _ Ext.refl R.draw (.bl _)⟩
  · exact .inl (bin_lt Γ σ H env ds R x y d e z hx hy hf Q q)
end
end DL

/-! DS7: t * 1 is t. -/
namespace DL
open PySem PySem.Spec L2
open PyProof.Rows hiding St
set_option maxHeartbeats 4000000 in
theorem tuple_mul1 (l : Addr) (items : Array Value) (n : Nat) (dd : Option Addr) (sl : Array (Option Value)) (u : Tok) :
    Meets (Builtin.«tuple.__mul__» ⟨[.ref l, .int 1 u], []⟩) (fun _ R s => s.heap.get? l = some { cls := .type "tuple", dict := dd, data := .seq items n, slots := sl } ∧ R (.ok (.ret (Value.ref l))) s) :=
  .of_wp fun prog w A R s h => by
    obtain ⟨hp, g, d, tk, os⟩ := s
    obtain ⟨hl, h⟩ := h
    have f1 := AutoSeq1.idx_int
    have c0 : (decide ((1 : Int) < -(2 ^ 63)) || decide ((1 : Int) ≥ 2 ^ 63)) = false := by decide
    have c1 : (items.isEmpty || (1 : Int) == 1) = true := by simp
    wp_walk using wpAny_loadPart' hl
    repeat (first
      | (refine wpAny_ite_false (decide_eq_false (by rw [c0]; exact Bool.false_ne_true)) ?_; wp_walk using wpAny_loadPart' hl)
      | (refine wpAny_ite_true (decide_eq_true (by rw [c1])) ?_; wp_walk using wpAny_loadPart' hl))
    exact ⟨_, rfl, h⟩
def rRep1 (K : PySem.W.Frag) : R2 := fun x y H Q => ∃ l xs, x = .ref l ∧ y = .int 1 ∧ SqT K H l xs ∧ Q (.ref l) H
theorem op_rep1 {X : Cx} : OpR X (binaryOp .Mult) (rRep1 X.K) := by
  intro pins s σ H x y v u Q I rx ry h
  obtain ⟨l, xs, rfl, rfl, hT, q⟩ := h
  cases rx
  obtain ⟨t, rfl⟩ := ry
  obtain ⟨its, r, ⟨⟨cls, dd, data, sl⟩, ho, hc, n, hd⟩, hs⟩ := I.tuple hT
  simp only at hc hd
  subst hc hd
  exact wpAny_binaryOp_repeat_ref (T := "tuple") (U := "int") (by decide) ⟨_, ho, rfl⟩ (fun s' => typeIs_int s' 1 t) noFill_tuple_mul F.fills_int_mul F.slot_int_rmul repeat_tuple F.slot_int_index.lookup
    (call_meets F.slot_int_rmul (typeIs_int s 1 t) F.entry_int_rmul (F.args_int_rmul_2 _ _) (int_rmul_tuple 1 t l its.toArray n dd sl)
      ⟨ho, rfl, ⟨_, ho, rfl⟩, call_meets F.slot_tuple_mul ⟨_, ho, rfl⟩ F.entry_tuple_mul (F.args_tuple_mul_2 _ _) (tuple_mul1 l its.toArray n dd sl t) ⟨ho, ⟨.ref l, H, I, rfl, q⟩⟩⟩)
def fMulA : PyData → PyData → Option PyData
  | .tuple a, .int k => if decide (k = 1) then some (.tuple a) else fMul (.tuple a) (.int k)
  | d, e => fMul d e
def rMulB (K : PySem.W.Frag) : R2 := fun x y H Q => rMulA K x y H Q ∨ rRep1 K x y H Q
section
variable {X : Cx} {K : PySem.W.Frag}
theorem op_mulB : OpR X (binaryOp .Mult) (rMulB X.K) := .or op_mulA op_rep1
theorem bin_mulB : Bin K (rMulB K) fMulA := fun Γ σ H env ds R x y d e z hx hy hf Q q => by
  unfold fMulA at hf
  split at hf
  · split at hf
    · rename_i a k c
      have c := of_decide_eq_true c
      subst c
      cases hf
      obtain rfl := hy.int
      rcases hx with hx | ⟨_, _, _, _, e, _⟩
      · cases hx with
        | tup g1 g2 g3 => exact .inr ⟨_, _, rfl, rfl, SqT.of g1, q _ H Ext.refl R.draw (.tup g1 g2 g3)⟩
      · cases e
    · exact .inl (bin_mul Γ σ H env ds R x y _ _ z hx hy hf Q q)
  · exact .inl (bin_mul Γ σ H env ds R x y _ _ z hx hy hf Q q)
end
end DL

/-! DS8: sorted(d), d a dict whose keys are tuples of ints. -/
namespace DL
open PySem PySem.Spec L2
open PyProof.Rows hiding St
def tD (k : List Int) : PyData := .tuple (k.map .int)
theorem kV_ints : ∀ k : List Int, (k.map Sum.inl : List Key).map kV = k.map V.int
  | [] => rfl
  | x :: r => congrArg (V.int x :: ·) (kV_ints r)
theorem keys_of {H : Hp} : ∀ {ks : List (List Int)} {us : List V} {xs : List (List Key × Addr × Value)}, us.length = ks.length → KT H ((ks.map fun k => k.map Sum.inl).zip us) xs →
    xs.length = ks.length ∧ ∀ x ∈ (xs.map fun x => V.ref x.2.1).zip (ks.map tD), ∃ k b, x = (V.ref b, tD k) ∧ H b = some (.tup (k.map V.int))
  | [], us, xs, e, r => by
    cases r
    exact ⟨rfl, fun x h => nomatch h⟩
  | k :: ks, [], _, e, _ => nomatch e
  | k :: ks, u :: us, xs, e, r => by
    cases r with
    | @cons p q ps qs h t =>
      obtain ⟨h1, h2⟩ := keys_of (Nat.succ.inj e) t
      refine ⟨by rw [List.length_cons, h1]; rfl, fun x hx => ?_⟩
      rcases List.mem_cons.mp hx with z | z
      · refine ⟨k, q.2.1, z, ?_⟩
        have := h.2.1
        rw [show (k.map Sum.inl, u).1 = (k.map Sum.inl : List Key) from rfl, kV_ints] at this
        exact this
      · exact h2 x z
section
variable {X : Cx} {K : PySem.W.Frag}
def rSortedDT : List V → Hp → VK → Prop := fun vs H Q => ∃ (d : Addr) (ks : List (List Int)) (us : List V), vs = [V.ref d] ∧ H d = some (dcObj true ks us) ∧ us.length = ks.length ∧ sorts (ks.map tD) = true ∧
  ∀ (ps : List (V × PyData)) (p : Addr), (∀ x ∈ ps, ∃ k b, x = (V.ref b, tD k) ∧ H b = some (.tup (k.map V.int)) ∧ (k.map V.int).length ≤ sizeLine) → ps.map (·.2) = sortD (ks.map tD) → H p = none → ps.length ≤ sizeLine → Q (.ref p) (upd H p (.lst (ps.map (·.1))))
theorem cr_sortedDT (hc : X.calm = true) (hu : X.A.units + 65 < cLine) : CallR X (.builtin "sorted") rSortedDT := by
  intro pins s σ H vs us0 Q I r h
  obtain ⟨d, ks, us, rfl, hd, hlen, hsd, q⟩ := h
  rw [Vals.ref1 r]
  obtain ⟨z, hs, xs, pr, o, es, ep, ho, hx, hdt, he, hn⟩ := (show ObjOk X.prog X.w H s.heap d (.dT ((ks.map fun k => k.map Sum.inl).zip us)) from I.hok d _ hd)
  have l1 : es.size = xs.length := size_of_entries he
  obtain ⟨l3, kx⟩ := keys_of hlen pr
  have l4 : ((ks.map fun k => (k.map Sum.inl : List Key)).zip us).length = ks.length := by rw [List.length_zip, List.length_map, hlen, Nat.min_self]
  rw [l4] at z
  refine Calls.call_function_entry PyProof.Rows.kind_sorted PyProof.Rows.plain_sorted PyProof.Rows.entry_sorted (PyProof.Rows.args_sorted1 _) ?_
  unfold Builtin.«sorted»
  refine wpAny_bind (m := checkCount "sorted" 1 1 _) (wpAny_pure ?_)
  refine wpAny_bind (PySem.W.kdu_collect (A := X.A.in1) (kdl_raw hs hx hdt) (I.ok.hd hc) ho (by omega) fun h' tk acc hk hacc => ?_)
  have ea : acc.toList = xs.map fun x => Value.ref x.2.1 := by
    have hl : acc.toList.length = xs.length := by rw [Array.length_toList, hacc.1]; exact l1
    refine List.ext_getElem? fun j => ?_
    rw [List.getElem?_map]
    cases hj : acc.toList[j]? with
    | none =>
      have h1 := List.getElem?_eq_none_iff.mp hj
      rw [List.getElem?_eq_none (by omega)]
      rfl
    | some v =>
      obtain ⟨en, hen, hv⟩ := hacc.2 j v (by rw [← Array.getElem?_toList]; exact hj)
      have qe := entry_at he j
      rw [hen] at qe
      cases hb : xs[j]? with
      | none => rw [hb] at qe; exact nomatch (show some en = none from qe)
      | some b =>
        rw [hb] at qe
        have e2 : en = entryOfKey (tupleKind (mixKind X.prog X.w)) b := Option.some.inj qe
        rw [hv, e2]
        rfl
  have rv : Vals (xs.map fun x => V.ref x.2.1) acc.toList := by
    have := vals_refs (xs.map fun x => x.2.1)
    rw [List.map_map, List.map_map] at this
    rw [ea]
    exact this
  generalize acc.toList = its at rv
  generalize hvs : (xs.map fun x => V.ref x.2.1) = vs at rv kx
  have lv : vs.length = (ks.map tD).length := by rw [← hvs, List.length_map, List.length_map, l3]
  have li : its.length ≤ sizeLine := by rw [← rv.length, lv, List.length_map]; exact z
  have I1 : Inv X pins σ H { s with heap := h', toks := tk } := I.kept hk
  refine wpAny_bind (wpAny_newList ?_ li)
  have hoL : (h'.push (seqObj "list" its.toArray 0)).get? h'.objs.size = some (seqObj "list" its.toArray 0) := Heap.get?_push_size _ rfl
  show wpAny _ _ _ _ _ { s with heap := h'.push (seqObj "list" its.toArray 0), toks := tk }
  have old : ∀ b o, h'.get? b = some o → (PySem.W.sortingHeap (h'.push (seqObj "list" its.toArray 0)) h'.objs.size its).get? b = some o := fun b o e => PySem.W.sortingHeap_old (Nat.ne_of_lt (Heap.lt_size e)) (Heap.get?_push_of_some _ e)
  have dp : ∀ x ∈ vs.zip (ks.map tD), Dp X.K H x.1 x.2 := fun x hx => by
    obtain ⟨k, b, rfl, hb⟩ := kx x hx
    exact .tup (.inl (.inl hb)) (DfAll.dp (DfAll.of_ints (K := X.K) (H := H) (g := fun _ => True) k))
  have e : PySem.W.EachIs (fun u (p : V × PyData) => RelV p.1 u) its (vs.zip (ks.map tD)) := each_zip rv lv fun v u d _ w => w
  have er : PySem.W.EachIs (fun u (p : V × PyData) => ∃ as, Reads h' u p.2 as) its (vs.zip (ks.map tD)) := each_zip rv lv fun v u d m w => Dp.reads I1 d v u (dp _ m) w
  have hm : (vs.zip (ks.map tD)).map (·.2) = ks.map tD := List.map_snd_zip (Nat.le_of_eq lv.symm)
  have er2 : PySem.W.EachIs (fun u (p : V × PyData) => ∃ as, Reads (PySem.W.sortingHeap (h'.push (seqObj "list" its.toArray 0)) h'.objs.size its) u p.2 as) its (vs.zip (ks.map tD)) := er.mono fun _ _ ⟨as, w⟩ => ⟨as, PyProof.Rows.Reads.keeps old w⟩
  have er3 : PySem.W.EachIs (fun u d => ∃ as, Reads (PySem.W.sortingHeap (h'.push (seqObj "list" its.toArray 0)) h'.objs.size its) u d as) its (ks.map tD) := by
    have w := PySem.W.each_map (R := fun u d => ∃ as, Reads (PySem.W.sortingHeap (h'.push (seqObj "list" its.toArray 0)) h'.objs.size its) u d as) Prod.snd er2
    rw [show (vs.zip (ks.map tD)).map Prod.snd = ks.map tD from hm] at w
    exact w
  have hal := sorts_alike hsd
  have hal2 : PySem.W.AllAlike ((vs.zip (ks.map tD)).map Prod.snd) := by rw [show (vs.zip (ks.map tD)).map Prod.snd = ks.map tD from hm]; exact hal
  have S : PySem.W.SortsAt X.prog X.w X.A.in1.in1 { s with heap := PySem.W.sortingHeap (h'.push (seqObj "list" its.toArray 0)) h'.objs.size its, toks := tk } (PySem.W.dataKind (PySem.W.sortingHeap (h'.push (seqObj "list" its.toArray 0)) h'.objs.size its) (ks.map tD)) its :=
    sortsAt (s := { s with heap := PySem.W.sortingHeap (h'.push (seqObj "list" its.toArray 0)) h'.objs.size its, toks := tk }) er3 hsd (by show X.A.units + 1 + 1 + 60 < cLine; omega)
  have out := PySem.W.sortVals_data (h' := PySem.W.sortingHeap (h'.push (seqObj "list" its.toArray 0)) h'.objs.size its) (R := fun u (p : V × PyData) => RelV p.1 u) (enc := Prod.snd) false e er2 hal2
  rw [show (vs.zip (ks.map tD)).map Prod.snd = ks.map tD from hm] at out
  refine wpAny_bind (wpAny_holding (wpAny_call_entry PyProof.Rows.slot_list_sort ⟨_, hoL, rfl⟩ PyProof.Rows.entry_list_sort
    (PySem.W.list_sort_vals (s := { s with heap := h'.push (seqObj "list" its.toArray 0), toks := tk }) hoL S li ⟨_, rfl, ?_⟩) (PyProof.Rows.args_list_sort _)))
  generalize PySem.W.sortVals (PySem.W.dataKind (PySem.W.sortingHeap (h'.push (seqObj "list" its.toArray 0)) h'.objs.size its) (ks.map tD)) false its its = zs at out ⊢
  have rz := vals_each out
  have perm : ((vs.zip (ks.map tD)).mergeSort (PySem.W.dataLe false Prod.snd)).Perm (vs.zip (ks.map tD)) := List.mergeSort_perm _ _
  have ms : ((vs.zip (ks.map tD)).mergeSort (PySem.W.dataLe false Prod.snd)).map (·.2) = sortD (ks.map tD) := by
    rw [sortD_merge hal]
    refine (PySem.W.sort_maps (s := PySem.W.dataLe false id) (fun p : V × PyData => p.2) fun a _ b _ => rfl).trans ?_
    rw [hm]
  generalize (vs.zip (ks.map tD)).mergeSort (PySem.W.dataLe false Prod.snd) = ps at rz perm ms
  have hps : ps.length ≤ sizeLine := by
    rw [perm.length_eq, List.length_zip, lv, List.length_map, Nat.min_self]
    exact z
  obtain ⟨e', he'⟩ := PyProof.Rows.sortedHeap_at (vs := its) (out := zs.toArray) hoL
  refine wpAny_pure ⟨_, rfl, .ref h'.objs.size, upd H h'.objs.size (.lst (ps.map (·.1))), I1.laid (t' := tk) (fun b u e => ?_) (Nat.le_refl _) ⟨by rw [List.length_map]; exact hps, zs, e', rz, he'⟩, rfl, q ps _ (fun x hx => by
    obtain ⟨k, b, e, hb⟩ := kx x (perm.mem_iff.mp hx)
    exact ⟨k, b, e, hb, (show ObjOk X.prog X.w H s.heap b (.tup (k.map V.int)) from I.hok b _ hb).1⟩) ms (I1.hok.fresh (Nat.le_refl _)) hps⟩
  have lt := Heap.lt_size e
  have sz : (h'.push (seqObj "list" its.toArray 0)).objs.size = h'.objs.size + 1 := Heap.size_push ..
  rw [PyProof.Rows.sortedHeap_old (Nat.ne_of_lt lt) (by rw [sz]; exact Nat.lt_succ_of_lt lt)]
  exact Heap.get?_push_of_some _ e
/-- sorted(d) -/
def mSortD (i : Nat) : ME (List PyData) := fun env ds => match env[i]? with
  | some (.dc true kvs) => if sorts (kvs.map fun kv => tD kv.1) then some (.ok (sortD (kvs.map fun kv => tD kv.1)), ds) else none
  | _ => none
theorem sf_sortedD {C : Exs} {W : WX} {x : Str} {p p2 pos : Pos} (i : Nat) (hc : X.calm = true) (hu : X.A.units + 65 < cLine) (hm : X.mg "sorted" = none) (hN : X.N[i]? = some x := by rfl) (hv : Vis X.env.scope x := by first | exact Or.inl rfl | exact Or.inr (Or.inl rfl) | exact Or.inr (Or.inr rfl)) (hd : (x == ("__debug__" : Str)) = false := by decide) (hcd : (x == ("__classdict__" : Str)) = false := by decide)
    (hg : Gl X "sorted" := by rfl) (he : starEach (.Name x p2 :: []) X.env = (false, eval (.Name x p2) X.env) :: starEach [] X.env := by rfl) (hpl : (backTo pos (starEach [] X.env)).any (·.1) = false := by rfl) : SF X C W (.Call (.Name "sorted" p) [.Name x p2] [] pos) (mSortD i) :=
  PE.imp (pe_callB (cr_sortedDT hc hu) hg hm PyProof.Rows.boot_sorted (pa_cons (pe_var hN hv hd hcd) pa_nil he) (by decide) (by decide) he hpl) fun σ H Q ⟨Γ, env, ds, R, h⟩ => by
    unfold mSortD at h
    rcases q : env[i]? with _ | z
    · rw [q] at h; exact h.elim
    · rw [q] at h
      cases z with
      | dc t kvs =>
        cases t with
        | false => exact h.elim
        | true =>
          dsimp only at h
          by_cases hs : sorts (kvs.map fun kv => tD kv.1) = true
          · rw [if_pos hs] at h
            obtain ⟨a, us, q1, q2, q3, q4⟩ := dc_at R q Ext.refl R.draw
            refine ⟨_, q1, a, kvs.map (·.1), us, rfl, q2, by rw [q3.length, List.length_map, List.length_map], by rw [List.map_map]; exact hs, fun ps p hp ms hn hl => ?_⟩
            rw [List.map_map] at ms
            refine h _ (ext_new hn) (R.draw.new hn) p (ps.map (·.1)) hn upd_same (by rw [List.length_map]; exact hl) (DfAll.newx ?_ hn R.draw)
            have ms : ps.map (·.2) = sortD (kvs.map fun kv => tD kv.1) := ms
            rw [← ms]
            refine zip_dfAll fun w hw => ?_
            obtain ⟨k, b, rfl, hb, hlk⟩ := hp w hw
            exact .tup hb hlk (DfAll.of_ints k)
          · rw [if_neg hs] at h
            exact h.elim
      | _ => exact h.elim
end
end DL

/-! DS9: walks over zip(a, b), two tuples or two lists, as far as the shorter. -/
namespace DL
open PySem PySem.Spec L2 RZ
open PyProof.Rows hiding St
theorem zipD_at : ∀ (xs ys : List PyData) (i : Nat) (x y : PyData), xs[i]? = some x → ys[i]? = some y → (zipD xs ys)[i]? = some (.tuple [x, y])
  | [], _, i, _, _, h, _ => by cases i <;> cases h
  | _ :: _, [], i, _, _, _, h => by cases i <;> cases h
  | _ :: _, _ :: _, 0, _, _, h1, h2 => by cases h1; cases h2; unfold zipD; rfl
  | _ :: xs, _ :: ys, i + 1, x, y, h1, h2 => by
    unfold zipD
    exact zipD_at xs ys i x y h1 h2
theorem zipD_len : ∀ (xs ys : List PyData), (zipD xs ys).length = min xs.length ys.length
  | [], ys => by unfold zipD; rw [List.length_nil, Nat.zero_min]
  | _ :: _, [] => by unfold zipD; rw [List.length_nil, Nat.min_zero]
  | _ :: xs, _ :: ys => by
    unfold zipD
    rw [List.length_cons, zipD_len xs ys, List.length_cons, List.length_cons, Nat.succ_min_succ]
section
variable {K : PySem.W.Frag} {Γ : Gm} {σ : St} {env : Ev} {H : Hp} {ds : DS}
theorem upd_keeps {T : Addr} {o : HO} (hT : H T = none) : ∀ a u, H a = some u → upd H T o a = some u := fun a u q => by
  rw [upd_ne (ne_of_none q hT)]
  exact q
theorem wk_zipT (R : Rel K Γ σ H env ds) {a b : Addr} {us ws : List V} {xs ys : List PyData} (h2 : SqT K H a us) (h3 : DfAll K H (gd Γ σ env) us xs) (k2 : SqT K H b ws) (k3 : DfAll K H (gd Γ σ env) ws ys) : Wk K Γ σ env (ItzT K a b) (zipD xs ys) H := fun H2 k => by
  have s2 := kept_sqT R k h2
  have t2 := kept_sqT R k k2
  have d2 := kept_dfAll R k h3
  have e2 := kept_dfAll R k k3
  have l1 := h3.length
  have l2 := k3.length
  have zl := zipD_len xs ys
  refine ⟨fun i hi => ?_, fun i x H' hi q => ?_, fun i hi => ?_⟩
  · exact ⟨us, ws, us[i]'(by omega), ws[i]'(by omega), s2, t2, List.getElem?_eq_getElem _, List.getElem?_eq_getElem _⟩
  · obtain ⟨T, v, w, rfl, hT, rfl, q1, q2⟩ := q
    obtain ⟨dx, f1, f2⟩ := d2.getV (q1 us s2)
    obtain ⟨dy, g1, g2⟩ := e2.getV (q2 ws t2)
    have up := upd_keeps (o := .tup [v, w]) hT
    have mv : ∀ {v : V} {d : PyData}, Df K H2 (fun b => gd Γ σ env b ∧ H b ≠ none) v d → Df K (upd H2 T (.tup [_, _])) (fun b => gd Γ σ env b ∧ H b ≠ none) v d := fun h => h.mono (fun a u z e => ⟨z, up a _ e⟩) fun a u e => up a _ e
    exact ⟨_, zipD_at xs ys i dx dy f1 g1, up, .tup upd_same (show 2 ≤ sizeLine by decide) (.cons (mv f2) (.cons (mv g2) .nil))⟩
  · refine ⟨us, ws, s2, t2, ?_⟩
    by_cases c : us.length ≤ i
    · exact .inl c
    · exact .inr (by omega)
end
/-- what zip walks -/
def fZipW : PyData → PyData → Option (List PyData)
  | .tuple xs, .tuple ys => some (zipD xs ys)
  | _, _ => none
section
variable {X : Cx} {C : Exs} {W : WX} {a b : Expr} {ma mb : ME PyData} {p pos tpos : Pos} {elts : List Expr} {kk : Nat}
theorem si_zip (hm : X.mg "zip" = none) (ha : SE X C W a ma) (hb : SE X C W b mb) (hg : Gl X "zip" := by rfl) (hs : starEach [a, b] X.env = (false, eval a X.env) :: starEach [b] X.env := by rfl) (hs2 : starEach [b] X.env = (false, eval b X.env) :: starEach [] X.env := by rfl) (hpl : (backTo pos (starEach [b] X.env)).any (·.1) = false := by rfl) :
    SI X C W (.Tuple elts kk tpos) (.Call (.Name "zip" p) [a, b] [] pos) (mOpF fZipW ma mb) :=
  PI.imp (pi_zipA hg hm (pa_cons ha (pa_cons hb pa_nil hs2) hs) hs hpl) fun σ H Q ⟨Γ, env, ds, R, h⟩ => ⟨Γ, env, ds, R, h.bind.imp fun d ds1 H1 e1 d1 q v hv => ⟨Γ, env, ds1, R.go e1 d1, q.bind.imp fun d2 ds2 H2 e2 d2' q w hw => by
    obtain ⟨z, hz, q⟩ := lift_some q
    have R2 := (R.go e1 d1).go e2 d2'
    have hv := hv.ext e2 d1
    unfold fZipW at hz
    split at hz
    · cases hz
      cases hv with
      | tup a2 a3 a4 =>
        cases hw with
        | tup b2 b3 b4 => exact ⟨_, _, _, _, rfl, .inr ⟨SqT.of a2, SqT.of b2, q H2 Ext.refl d2' _ (wk_zipT R2 (SqT.of a2) a4 (SqT.of b2) b4)⟩⟩
    · cases hz⟩⟩
end
end DL

/-! DN1: small questions asked of nested tuples of ints. -/
namespace DL
open PySem PySem.Spec L2
open PyProof.Rows hiding St
/-- ints and tuples alone -/
inductive NK where
  | num (i : Int)
  | tup (ks : List NK)
mutual
def NK.nk : NK → NestedKey
  | .num i => .num i
  | .tup ks => .tup (NK.nks ks)
def NK.nks : List NK → List NestedKey
  | [] => []
  | k :: ks => NK.nk k :: NK.nks ks
end
section
variable {P : Program} {w : World}
/-- it is of no class statement -/
def PlainAt (P : Program) (w : World) (n : Nat) (s : Shared) (v : Value) : Prop := ∀ (A : Around) (E : Value → Shared → Prop) (Q : Bool → Shared → Prop), Q false s → wpAny (model P w) A (ofAClassStatement n v) Q E s
/-- its hash is told by its value -/
def ByValAt (P : Program) (w : World) (n : Nat) (s : Shared) (v : Value) : Prop := ∀ (A : Around) (E : Value → Shared → Prop) (Q : Bool → Shared → Prop), Q true s → wpAny (model P w) A (hashByValue n v) Q E s
theorem PlainAt.tuple {n : Nat} {s : Shared} {a : Addr} {o : Obj} {vs : Array Value} {m : Nat} (ho : s.heap.get? a = some o) (hc : o.cls = .type "tuple") (hd : o.data = .seq vs m) (hq : ∀ v ∈ vs.toList, PlainAt P w n s v) : PlainAt P w (n + 1) s (.ref a) := fun A E Q h => by
  have ty : s.TypeIs (.ref a) "tuple" := ⟨o, ho, hc⟩
  unfold ofAClassStatement
  refine wpAny_bind (wpAny_typeOf ty ?_)
  dsimp only
  have e : (("tuple" : String) == "tuple") = true := by decide
  simp only [e, if_true, Bool.not_true, Bool.false_eq_true, if_false]
  try refine wpAny_bind (wpAny_pure ?_)
  try simp only [Bool.not_true, Bool.false_eq_true, if_false]
  show wpAny _ _ (seqItems? (.ref a) >>= _) _ _ s
  refine wpAny_bind (wpAny_seqItems ho hd ?_)
  dsimp only
  refine wpAny_bind ?_
  show wpAny _ _ (forIn vs _ _) _ _ s
  rw [← Array.forIn_toList]
  refine wpAny_forIn_list _ (fun rest r z => r.1 = none ∧ z = s ∧ ∀ v ∈ rest, PlainAt P w n s v) _ ?_ ?_ _ _ ⟨rfl, rfl, hq⟩
  · rintro v rest r z ⟨hr, rfl, all⟩
    refine wpAny_bind (all v List.mem_cons_self _ _ _ ?_)
    simp only [Bool.false_eq_true, if_false]
    exact wpAny_pure ⟨rfl, rfl, fun u hu' => all u (List.mem_cons_of_mem _ hu')⟩
  · rintro ⟨r1, r2⟩ z ⟨hr, rfl, _⟩
    simp only at hr
    subst hr
    exact wpAny_pure h
theorem ByValAt.tuple {n : Nat} {s : Shared} {a : Addr} {o : Obj} {vs : Array Value} {m : Nat} (ho : s.heap.get? a = some o) (hc : o.cls = .type "tuple") (hd : o.data = .seq vs m) (hq : ∀ v ∈ vs.toList, ByValAt P w n s v) : ByValAt P w (n + 1) s (.ref a) := fun A E Q h => by
  have ty : s.TypeIs (.ref a) "tuple" := ⟨o, ho, hc⟩
  unfold hashByValue
  refine wpAny_bind (wpAny_specialOf ty F.slot_tuple_hash.lookup ?_)
  show wpAny _ _ (seqItems? (.ref a) >>= _) _ _ s
  refine wpAny_bind (wpAny_seqItems ho hd (wpAny_bind ?_))
  show wpAny _ _ (forIn vs _ _) _ _ s
  rw [← Array.forIn_toList]
  refine wpAny_forIn_list _ (fun rest r z => r.1 = none ∧ z = s ∧ ∀ v ∈ rest, ByValAt P w n s v) _ ?_ ?_ _ _ ⟨rfl, rfl, hq⟩
  · rintro v rest r z ⟨hr, rfl, all⟩
    refine wpAny_bind (all v List.mem_cons_self _ _ _ ?_)
    simp only [Bool.not_true, Bool.false_eq_true, if_false]
    exact wpAny_pure ⟨rfl, rfl, fun u hu' => all u (List.mem_cons_of_mem _ hu')⟩
  · rintro ⟨r1, r2⟩ z ⟨hr, rfl, _⟩
    simp only at hr
    subst hr
    exact wpAny_pure h
mutual
theorem plain_nk : ∀ (k : NK) (v : Value) (n : Nat) (s : Shared), NestedIs s.heap k.nk v → k.nk.depth ≤ n → PlainAt P w n s v ∧ ByValAt P w n s v
  | .num i, _, n, s, x, _ => by
    unfold NK.nk at x
    cases x with
    | bool h => exact ⟨fun A E Q q => by cases n <;> exact wpAny_pure q, fun A E Q q => by cases n <;> exact wpAny_pure q⟩
    | int i t => exact ⟨fun A E Q q => by rw [ofAClass_int]; exact wpAny_pure q, fun A E Q q => by rw [hashBy_int]; exact wpAny_pure q⟩
  | .tup ks, _, n, s, x, hn => by
    unfold NK.nk at x hn
    cases x with
    | tup hg hc hd hk =>
      simp only [NestedKey.depth] at hn
      cases n with
      | zero => omega
      | succ n =>
        have q := plain_nks ks _ n s hk (by omega)
        exact ⟨.tuple hg hc hd fun v hv => (q v hv).1, .tuple hg hc hd fun v hv => (q v hv).2⟩
theorem plain_nks : ∀ (ks : List NK) (vs : List Value) (n : Nat) (s : Shared), NestedAll s.heap (NK.nks ks) vs → NestedKey.depthAll (NK.nks ks) ≤ n → ∀ v ∈ vs, PlainAt P w n s v ∧ ByValAt P w n s v
  | [], _, n, s, x, _, v, hv => by
    unfold NK.nks at x
    cases x
    cases hv
  | k :: ks, _, n, s, x, hn, v, hv => by
    unfold NK.nks at x hn
    cases x with
    | cons x1 x2 =>
      simp only [NestedKey.depthAll] at hn
      rcases List.mem_cons.mp hv with e | hv
      · rw [e]; exact plain_nk k _ n s x1 (by omega)
      · exact plain_nks ks _ n s x2 (by omega) v hv
end
end
end DL

/-! DN2: sets of nested tuples of ints: the search. -/
namespace DL
open PySem PySem.Spec L2
open PyProof.Rows hiding St
abbrev hsh (w : World) (k : NK) : Int := k.nk.hash w
/-- the tuple at x has this key -/
abbrev IsN (h : Heap) (k : NK) (x : Addr) : Prop := NestedIs h k.nk (.ref x) ∧ k.nk.depth ≤ 8
/-- a set whose members are such tuples -/
structure SetTN (w : World) (h : Heap) (a : Addr) (L : List (Addr × NK)) (es : Array (Int × Value)) (ep : Nat) (t : SetTable) : Prop where
  ob : ∃ o, h.get? a = some o ∧ o.ExactSet ∧ o.data = .set es ep t
  rows : es.toList = L.map fun p => (hsh w p.2, Value.ref p.1)
  tab : TabOk t (L.map fun p => hsh w p.2)
  nd : (L.map fun p => p.2.nk).Nodup
  tup : ∀ p ∈ L, IsN h p.2 p.1
  plain : t.plain = true
  led : w.params.followText "set-order" = true ∨ t.led = true
  room : L.length * 5 < t.mask * 3
  few : L.length < 64
section
variable {P : Program} {w : World} {A : Around} {E : Value → Shared → Prop} {s : Shared} {a : Addr} {L : List (Addr × NK)} {es : Array (Int × Value)} {ep : Nat} {t : SetTable}
theorem rows_size (h : es.toList = L.map fun p => (hsh w p.2, Value.ref p.1)) : es.size = L.length := by
  have q := congrArg List.length h
  rwa [Array.length_toList, List.length_map] at q
theorem rows_at (h : es.toList = L.map fun p => (hsh w p.2, Value.ref p.1)) {i : Nat} {p : Addr × NK} (hp : L[i]? = some p) : es[i]? = some (hsh w p.2, Value.ref p.1) := by
  rw [← Array.getElem?_toList, h, List.getElem?_map, hp]
  rfl
theorem SetTN.fits (R : SetTN w s.heap a L es ep t) : t.fits es.size = true := by
  have q1 := R.tab.sz
  have q2 := rows_size R.rows
  have q3 := R.room
  rw [List.length_map] at q1
  unfold SetTable.fits SetTable.fill
  rw [R.tab.dm, Bool.and_eq_true, beq_iff_eq, decide_eq_true_eq]
  show t.place.size = es.size ∧ t.place.size + 0 ≤ t.mask
  omega
theorem SetTN.gw (R : SetTN w s.heap a L es ep t) : ¬ t.gaveWay = true := by
  unfold SetTable.gaveWay
  rw [mask_odd R.tab.mok]
  decide
theorem seen_n {k : NK} {b : Addr} {Q : Bool → Shared → Prop} (hk : IsN s.heap k b) {ys : List Value} (hy : ∀ y ∈ ys, ∃ k' c, y = Value.ref c ∧ IsN s.heap k' c) (h : Q false s) : wpAny (model P w) A (searchCouldBeSeen (.ref b) ys) Q E s := by
  unfold searchCouldBeSeen
  refine wpAny_bind (wpAny_forIn_list _ (fun rest r z => r.1 = none ∧ z = s ∧ ∀ y ∈ rest, ∃ k' c, y = Value.ref c ∧ IsN s.heap k' c) _ ?_ ?_ _ _ ⟨rfl, rfl, hy⟩)
  · rintro v rest r z ⟨hr, rfl, all⟩
    obtain ⟨k', c, rfl, hc⟩ := all v List.mem_cons_self
    have tl : ∀ y ∈ rest, ∃ k' c, y = Value.ref c ∧ IsN z.heap k' c := fun u hu' => all u (List.mem_cons_of_mem _ hu')
    dsimp only
    by_cases hv : (b == c || (carriedByValue (.ref b) && carriedByValue (.ref c))) = true
    · exact wp_if_pos hv (wpAny_pure ⟨rfl, rfl, tl⟩)
    · refine wp_if_neg hv (wpAny_bind (quiet_key k.nk _ 8 z hk.1 hk.2 _ _ _ ?_))
      simp only [Bool.not_true, Bool.false_eq_true, if_false]
      refine wpAny_bind (quiet_key k'.nk _ 8 z hc.1 hc.2 _ _ _ ?_)
      simp only [Bool.not_true, Bool.false_eq_true, if_false]
      refine wpAny_bind ((plain_nk k _ 8 z hk.1 hk.2).1 _ _ _ ?_)
      simp only [Bool.false_eq_true, if_false]
      refine wpAny_bind ((plain_nk k' _ 8 z hc.1 hc.2).1 _ _ _ ?_)
      simp only [Bool.false_eq_true, if_false]
      exact wpAny_pure ⟨rfl, rfl, tl⟩
  · rintro ⟨r1, r2⟩ z ⟨hr, rfl, _⟩
    simp only at hr
    subst hr
    exact wpAny_pure h
/-- the first step of the way -/
abbrev st0 (t : SetTable) (h : Int) : SetTable.Probe := runAt t.mask (SetTable.bits h % (t.mask + 1)) (SetTable.bits h)
theorem no_dummy (m : Nat) : ∀ (n : Nat) (p : SetTable.Probe), p.dummy = none → (nth m p n).dummy = none
  | 0, _, h => h
  | n + 1, p, h => no_dummy m n (adv m p) (by unfold adv; split <;> exact h)
theorem search_n (R : SetTN w s.heap a L es ep t) {x : Addr} {k : NK} (hx : IsN s.heap k x) (hu : A.units + 8 < cLine) {N : Nat} (hN : N < 10 * SetTable.turns t.mask)
    (out : way t.mask (hsh w k) N ∉ t.place.toList) (ins : ∀ c, c < N → way t.mask (hsh w k) c ∈ t.place.toList) {Q : SetFound → Shared → Prop}
    (hin : k.nk ∈ L.map (fun p => p.2.nk) → Q (.there none) s) (hout : k.nk ∉ L.map (fun p => p.2.nk) → Q (.free (way t.mask (hsh w k) N) false) s) :
    ∀ (f c : Nat) (stand : Option SetTable.Probe), stand.getD (t.probeStart (hsh w k)) = nth t.mask (st0 t (hsh w k)) c → c ≤ N → N - c < f →
      (∀ (i : Nat) p, L[i]? = some p → p.2.nk = k.nk → ∃ c', c ≤ c' ∧ c' < N ∧ t.place.toList[i]? = some (way t.mask (hsh w k) c')) → wpAny (model P w) A (setSearchFrom a (.ref x) (hsh w k) true f stand) Q E s
  | 0, c, stand, _, _, hf, _ => absurd hf (Nat.not_lt_zero _)
  | f + 1, c, stand, hst, hc, hf, ahead => by
    obtain ⟨o, ho, hex, hd⟩ := R.ob
    rw [setSearchFrom_succ]
    refine wpAny_bind (wpAny_setState_of ho hd R.fits ?_)
    dsimp only
    refine wp_if_neg R.gw ?_
    try refine wpAny_bind (wpAny_pure ?_)
    have nd0 := no_dummy t.mask c (st0 t (hsh w k)) rfl
    have sh : ∀ q, nth t.mask (nth t.mask (st0 t (hsh w k)) c) q = nth t.mask (st0 t (hsh w k)) (c + q) := fun q => (nth_add t.mask c _ q).symm
    have e1 : ∀ q, (nth t.mask (nth t.mask (st0 t (hsh w k)) c) q).j = way t.mask (hsh w k) (c + q) := fun q => congrArg SetTable.Probe.j (sh q)
    have spec := go_spec t R.tab.ris R.tab.dm (fun i => (es[i]?.map (·.1)).getD 0) (hsh w k) (10 * SetTable.turns t.mask) (N - c) _ nd0 (by omega) (fun q hq => by rw [e1]; exact ins (c + q) (by omega)) (by rw [e1, show c + (N - c) = N by omega]; exact out)
    have hAt : ∀ (i : Nat) p, L[i]? = some p → (fun i => (es[i]?.map (·.1)).getD 0) i = hsh w p.2 := fun i p hp => by
      show (es[i]?.map (·.1)).getD 0 = _
      rw [rows_at R.rows hp]
      rfl
    rcases spec with ⟨q, i, hq, hi, hh, hno, hpr⟩ | ⟨hno, hpr⟩
    · rw [show t.probe (fun i => (es[i]?.map (·.1)).getD 0) (hsh w k) (stand.getD (t.probeStart (hsh w k))) = some (.candidate (way t.mask (hsh w k) (c + q)) i (nth t.mask (st0 t (hsh w k)) (c + (q + 1)))) by
        rw [hst, ← e1, ← sh]; exact hpr]
      dsimp only
      rw [e1] at hi
      have il : i < L.length := by
        have z1 := (List.getElem?_eq_some_iff.mp hi).1
        have z2 := R.tab.sz
        rw [List.length_map] at z2
        rw [Array.length_toList] at z1
        omega
      have hp : L[i]? = some L[i] := List.getElem?_eq_getElem il
      generalize L[i] = p at hp
      have mp := List.mem_of_getElem? hp
      have rest : wpAny (model P w) A (searchRest a (.ref x) (hsh w k) true f es t (way t.mask (hsh w k) (c + q)) i (nth t.mask (st0 t (hsh w k)) (c + (q + 1)))) Q E s := by
        unfold searchRest
        rw [rows_at R.rows hp]
        dsimp only
        refine wpAny_bind (wpAny_holding ((nestedKind P w).eqBool (x := p.2.nk) (y := k.nk) hu (R.tup p mp) hx (wpAny_bind (wpAny_setState_of ho hd R.fits ?_))))
        dsimp only
        by_cases kk : p.2.nk = k.nk
        · exact wp_if_pos (by simp [kk]) (wpAny_pure (hin (List.mem_map.mpr ⟨p, mp, kk⟩)))
        · refine wp_if_neg (by simp [kk]) ?_
          try refine wpAny_bind (wpAny_pure ?_)
          rw [sameMem]
          dsimp only
          have sl : t.slot (way t.mask (hsh w k) (c + q)) = .live i := slot_live R.tab.ris hi
          simp only [if_true, sl, rows_at R.rows hp]
          refine wpAny_bind (wpAny_isSame_ref_self (wpAny_bind (wpAny_pure ?_)))
          simp only [if_true]
          refine wp_if_neg (by simp [kk]) ?_
          refine search_n R hx hu hN out ins hin hout f (c + (q + 1)) _ rfl (by omega) (by omega) fun j r hj hk0 => ?_
          obtain ⟨c', a1, a2, a3⟩ := ahead j r hj hk0
          have hr : hsh w r.2 = hsh w k := congrArg (fun z => NestedKey.hash w z) hk0
          refine ⟨c', ?_, a2, a3⟩
          rcases Nat.lt_trichotomy c' (c + q) with y | y | y
          · exact absurd ((hAt j r hj).trans hr) (hno (c' - c) j (by omega) (by rw [e1, show c + (c' - c) = c' by omega]; exact a3))
          · rw [y] at a3
            have s0 := slot_live R.tab.ris a3
            rw [sl] at s0
            injection s0 with s0
            rw [← s0, hp] at hj
            cases hj
            exact absurd hk0 kk
          · omega
      by_cases hl : t.led = true
      · refine wp_if_neg (by simp [hl]) ?_
        try refine wpAny_bind (wpAny_pure ?_)
        exact rest
      · refine wp_if_pos (by simp [hl]) (wpAny_bind (seen_n hx (fun y hy => ?_) ?_))
        · obtain ⟨e, he, ee⟩ := List.mem_map.mp hy
          have he1 : e ∈ es ∧ e.1 = hsh w k := by simpa using he
          have he2 : e ∈ es.toList := by simpa using he1.1
          rw [R.rows] at he2
          obtain ⟨r, hr, e2⟩ := List.mem_map.mp he2
          exact ⟨r.2, r.1, by rw [← ee, ← e2], R.tup r hr⟩
        · refine wp_if_neg (by decide) ?_
          try refine wpAny_bind (wpAny_pure ?_)
          exact rest
    · rw [show t.probe (fun i => (es[i]?.map (·.1)).getD 0) (hsh w k) (stand.getD (t.probeStart (hsh w k))) = some (.empty (way t.mask (hsh w k) N) none) by
        rw [hst, show way t.mask (hsh w k) N = (nth t.mask (nth t.mask (st0 t (hsh w k)) c) (N - c)).j by rw [e1, show c + (N - c) = N by omega]]
        exact hpr]
      dsimp only
      refine wpAny_pure (hout fun hm => ?_)
      obtain ⟨r, hr, hk0⟩ := List.mem_map.mp hm
      obtain ⟨j, hj, e0⟩ := List.getElem_of_mem hr
      have hj2 : L[j]? = some r := by rw [List.getElem?_eq_getElem hj, e0]
      obtain ⟨c', a1, a2, a3⟩ := ahead j r hj2 hk0
      exact hno (c' - c) j (by omega) (by rw [e1, show c + (c' - c) = c' by omega]; exact a3) ((hAt j r hj2).trans (congrArg (fun z => NestedKey.hash w z) hk0))
/-- the search as adding asks for it -/
theorem search_nat (R : SetTN w s.heap a L es ep t) {x : Addr} {k : NK} (hx : IsN s.heap k x) (hu : A.units + 8 < cLine) {Q : SetFound → Shared → Prop} (hin : k.nk ∈ L.map (fun p => p.2.nk) → Q (.there none) s)
    (hout : ∀ N, k.nk ∉ L.map (fun p => p.2.nk) → way t.mask (hsh w k) N ∉ t.place.toList → (∀ c, c < N → way t.mask (hsh w k) c ∈ t.place.toList) → Q (.free (way t.mask (hsh w k) N) false) s) : wpAny (model P w) A (setSearch a (.ref x) (hsh w k) true) Q E s := by
  have rm := R.room
  obtain ⟨N, hN, o1, o2⟩ := R.tab.first (by rw [List.length_map]; omega) (hsh w k)
  have big : N < 100000 := by
    have : 10 * SetTable.turns t.mask ≤ 1420 := by
      unfold SetTable.turns
      rcases R.tab.mok with e | e | e <;> omega
    omega
  unfold setSearch
  refine search_n R hx hu hN o1 o2 hin (fun hn => hout N hn o1 o2) 100000 0 none rfl (Nat.zero_le _) (by omega) fun i p hp hk => ?_
  have hi : (L.map fun p => hsh w p.2)[i]? = some (hsh w k) := by
    rw [List.getElem?_map, hp]
    exact congrArg (fun z => some (NestedKey.hash w z)) hk
  have il : i < t.place.toList.length := by
    have z1 := (List.getElem?_eq_some_iff.mp hp).1
    have z2 := R.tab.sz
    rw [List.length_map] at z2
    rw [Array.length_toList]
    omega
  have hj := List.getElem?_eq_getElem il
  obtain ⟨c, hc, e⟩ := R.tab.before o1 hi hj
  exact ⟨c, Nat.zero_le _, hc, by rw [hj, e]⟩
end
end DL

/-! DN3: sets of nested tuples of ints: adding. -/
namespace DL
open PySem PySem.Spec L2
open PyProof.Rows hiding St
theorem fm_congr {α β : Type} {f g : α → Option β} : ∀ {l : List α}, (∀ x ∈ l, f x = g x) → l.filterMap f = l.filterMap g
  | [], _ => rfl
  | x :: r, h => by
    have e := h x List.mem_cons_self
    have q := fm_congr (l := r) fun y hy => h y (List.mem_cons_of_mem _ hy)
    cases hf : f x with
    | none => rw [List.filterMap_cons_none hf, List.filterMap_cons_none (e ▸ hf), q]
    | some y => rw [List.filterMap_cons_some hf, List.filterMap_cons_some (e ▸ hf), q]
theorem range_get {α : Type} : ∀ L : List α, (List.range L.length).filterMap (fun i => L[i]?) = L := fun L => by
  have key : ∀ ys : List α, (List.range ys.reverse.length).filterMap (fun i => ys.reverse[i]?) = ys.reverse := fun ys => by
    induction ys with
    | nil => rfl
    | cons y r ih =>
      rw [List.reverse_cons, List.length_append, List.length_singleton, List.range_succ, List.filterMap_append]
      have e1 : (List.range r.reverse.length).filterMap (fun i => (r.reverse ++ [y])[i]?) = (List.range r.reverse.length).filterMap (fun i => r.reverse[i]?) := fm_congr fun i hi => List.getElem?_append_left (List.mem_range.mp hi)
      rw [e1, ih]
      congr 1
      show (match (r.reverse ++ [y])[r.reverse.length]? with | none => [] | some b => [b]) = [y]
      rw [List.getElem?_append_right (Nat.le_refl _), Nat.sub_self]
      rfl
  have := key L.reverse
  rwa [List.reverse_reverse] at this
theorem order_n {α : Type} (r : α → Int × Value) (L : List α) (es : Array (Int × Value)) (order : Array Nat) (hr : es.toList = L.map r) (hp : order.toList.Perm (List.range L.length)) :
    ∃ L2 : List α, (order.filterMap (es[·]?)).toList = L2.map r ∧ L2.Perm L ∧ (L2.map fun p => (r p).1) = order.toList.map fun i => (es.map (·.1)).getD i 0 := by
  have at_ : ∀ i : Nat, es[i]? = (L[i]?).map r := fun i => by rw [← Array.getElem?_toList, hr, List.getElem?_map]
  refine ⟨order.toList.filterMap fun i => L[i]?, ?_, ?_, ?_⟩
  · rw [Array.toList_filterMap, List.map_filterMap]
    exact fm_congr fun i _ => at_ i
  · have q := hp.filterMap (fun i => L[i]?)
    rw [range_get] at q
    exact q
  · have key : ∀ l : List Nat, (∀ i ∈ l, i < L.length) → ((l.filterMap fun i => L[i]?).map fun p => (r p).1) = l.map fun i => (es.map (·.1)).getD i 0 := fun l => by
      induction l with
      | nil => intro _; rfl
      | cons i l ih =>
        intro h
        have hi := h i List.mem_cons_self
        have e : (es.map (·.1)).getD i 0 = (r L[i]).1 := by
          have : (es.map (·.1))[i]? = some (r L[i]).1 := by
            rw [Array.getElem?_map, at_, List.getElem?_eq_getElem hi]
            rfl
          simp [Array.getD_eq_getD_getElem?, this]
        rw [List.filterMap_cons_some (List.getElem?_eq_getElem hi), List.map_cons, List.map_cons, ih (fun j hj => h j (List.mem_cons_of_mem _ hj)), e]
    exact key _ fun i hi => List.mem_range.mp (hp.mem_iff.mp hi)
section
variable {P : Program} {w : World} {A : Around} {E : Value → Shared → Prop} {s : Shared} {a : Addr} {L : List (Addr × NK)} {es : Array (Int × Value)} {ep : Nat} {t : SetTable}
/-- a tuple is not the set -/
theorem isN_same {h h' : Heap} {k : NK} {b : Addr} {o : Obj} (hb : IsN h k b) (ho : h.get? a = some o) (hd : o.data = .set es ep t) (hs : Heap.SameBut a h h') : IsN h' k b :=
  ⟨NestedIs.at (fun c oc vs n hc hdc => (hs.2 c fun e => by
    rw [e, ho] at hc
    cases hc
    rw [hd] at hdc
    cases hdc).trans hc) _ _ hb.1, hb.2⟩
theorem relay_n {o : Obj} (ho : s.heap.get? a = some o) (hex : o.ExactSet) (hd : o.data = .set es ep t) (hrows : es.toList = L.map fun p => (hsh w p.2, Value.ref p.1)) (hsz : t.place.size = es.size) (hdm : t.dummies = #[]) (hfl : es.size ≤ t.mask)
    (nd : (L.map fun p => p.2.nk).Nodup) (tup : ∀ p ∈ L, IsN s.heap p.2 p.1) (pl : t.plain = true) (ld : w.params.followText "set-order" = true ∨ t.led = true) (few : L.length < 64) {wanted M : Nat}
    (hw : SetTable.sizeAbove wanted - 1 = M) (hM : MaskOk M) (hw2 : SetTable.sizeAbove wanted ≤ 128) (hn : L.length * 5 < M * 3) {Q : Unit → Shared → Prop}
    (fin : ∀ h' L' es' ep' t', Heap.SameBut a s.heap h' → SetTN w h' a L' es' ep' t' → L'.Perm L → Q () { s with heap := h' }) : wpAny (model P w) A (setRelay a wanted) Q E s := by
  have hsl := rows_size hrows
  have hfits : t.fits es.size = true := by
    unfold SetTable.fits SetTable.fill
    rw [hdm, Bool.and_eq_true, beq_iff_eq, decide_eq_true_eq]
    show t.place.size = es.size ∧ t.place.size + 0 ≤ t.mask
    omega
  obtain ⟨t', order, e, hp, T, em, el, ep', ed⟩ := relaid_ok t (hs := es.map (·.1)) (wanted := wanted) hw hM (by rw [Array.size_map, hsl]; omega)
  rw [Array.size_map, hsl] at hp
  obtain ⟨L2, r1, r2, r3⟩ := order_n (fun p : Addr × NK => (hsh w p.2, Value.ref p.1)) L es order hrows hp
  rw [← r3] at T
  have hs2 : (order.filterMap (es[·]?)).size = es.size := by
    have q := rows_size r1
    rw [q, hsl, r2.length_eq]
  rw [setRelay_eq]
  refine wpAny_bind (wpAny_setState_of ho hd hfits ?_)
  dsimp only
  refine wp_if_neg (by rw [sizeLine_eq]; omega) ?_
  try refine wpAny_bind (wpAny_pure ?_)
  rw [e]
  dsimp only
  refine wpAny_bind (wp_if_neg (by rw [hs2]; simp) ?_)
  try refine wpAny_bind (wpAny_pure ?_)
  refine wpAny_pure ?_
  dsimp only
  refine wpAny_storeSet_of ho hd ?_ (by rw [hs2, hsl, sizeLine_eq]; omega)
  have sb : Heap.SameBut a s.heap (s.heap.update a (Obj.putSet (order.filterMap (es[·]?)) t')) := Heap.SameBut.update ..
  exact fin _ L2 (order.filterMap (es[·]?)) (ep + 1) t' sb ⟨⟨_, store_at ho hd, ⟨hex.1, hex.2.1, hex.2.2⟩, rfl⟩, r1, T, (r2.map fun p => p.2.nk).nodup_iff.mpr nd, fun p hpm => isN_same (tup p (r2.mem_iff.mp hpm)) ho hd sb, by rw [ep']; exact pl, by rw [el]; exact ld, by rw [r2.length_eq, em]; exact hn, by rw [r2.length_eq]; exact few⟩ r2
theorem add_n (R : SetTN w s.heap a L es ep t) {x : Addr} {k : NK} (hx : IsN s.heap k x) (hu : A.units + 8 < cLine) (few : L.length + 1 < 64) {Q : Bool → Shared → Prop}
    (fin : ∀ b h' L' es' ep' t', Heap.SameBut a s.heap h' → SetTN w h' a L' es' ep' t' → (k.nk ∈ L.map (fun p => p.2.nk) → L' = L) → (k.nk ∉ L.map (fun p => p.2.nk) → L'.Perm ((x, k) :: L)) → Q b { s with heap := h' }) :
    wpAny (model P w) A (setAddHashed a (.ref x) (hsh w k)) Q E s := by
  obtain ⟨o, ho, hex, hd⟩ := R.ob
  have hsl := rows_size R.rows
  have rm := R.room
  unfold setAddHashed
  refine wpAny_holding ?_
  rw [show (100000 : Nat) = 99999 + 1 from rfl, setAddHashedIn_succ]
  refine wpAny_bind (wpAny_setState_of ho hd R.fits ?_)
  dsimp only
  refine wp_if_neg (by simp [byScan, Value.scannable]) ?_
  try refine wpAny_bind (wpAny_pure ?_)
  refine wpAny_bind (search_nat R hx hu (fun hm => ?_) fun N hm hK hb => ?_)
  · dsimp only
    exact wpAny_pure (fin false s.heap L es ep t (Heap.SameBut.refl a s.heap) R (fun _ => rfl) fun z => absurd hm z)
  · dsimp only
    refine wpAny_bind (wpAny_setState_of ho hd R.fits ?_)
    dsimp only
    obtain ⟨q1, q2, q3, q4, q5, q6, q7, q8, q9⟩ := R.tab.put hK hb
    have hp1 : (t.put (way t.mask (hsh w k) N)).1.plain = true := by rw [q6]; exact R.plain
    generalize hpt : t.put (way t.mask (hsh w k) N) = pt at q1 q3 q4 q5 q6 q7 q8 q9 hp1 ⊢
    obtain ⟨t1, p⟩ := pt
    dsimp only at q1 q3 q4 q5 q6 q7 q8 q9 hp1 ⊢
    subst q1
    first
      | (refine wpAny_bind ?_; refine wp_if_pos hp1 ?_; refine (plain_nk k _ 8 s hx.1 hx.2).2 _ _ _ ?_)
      | refine wp_if_pos hp1 (wpAny_bind ((plain_nk k _ 8 s hx.1 hx.2).2 _ _ _ ?_))
    simp only [if_true]
    have hin : (SetTable.insertAt es (SetTable.below t.place (way t.mask (hsh w k) N)) (hsh w k, Value.ref x)).toList = (L.take (SetTable.below t.place (way t.mask (hsh w k) N)) ++ (x, k) :: L.drop (SetTable.below t.place (way t.mask (hsh w k) N))).map fun p => (hsh w p.2, Value.ref p.1) := by
      rw [SetTable.toList_insertAt, R.rows, List.map_append, List.map_cons, List.map_take, List.map_drop]
    generalize SetTable.below t.place (way t.mask (hsh w k) N) = p at q2 q3 hin ⊢
    have pm := put_perm L p (x, k)
    have ln : (L.take p ++ (x, k) :: L.drop p).length = L.length + 1 := pm.length_eq
    have hhs : (L.take p ++ (x, k) :: L.drop p).map (fun p => hsh w p.2) = (L.map fun p => hsh w p.2).take p ++ hsh w k :: (L.map fun p => hsh w p.2).drop p := by
      rw [List.map_append, List.map_cons, List.map_take, List.map_drop]
    rw [← hhs] at q3
    have nd1 : ((L.take p ++ (x, k) :: L.drop p).map fun p => p.2.nk).Nodup := by
      refine (pm.map fun p => p.2.nk).nodup_iff.mpr ?_
      rw [List.map_cons]
      exact List.nodup_cons.mpr ⟨hm, R.nd⟩
    have hes := rows_size hin
    rw [ln] at hes
    generalize SetTable.insertAt es p (hsh w k, Value.ref x) = es1 at hin hes ⊢
    generalize L.take p ++ (x, k) :: L.drop p = L1 at pm ln q3 nd1 hin
    refine wpAny_bind (wpAny_storeSet_of ho hd ?_ (by rw [hes, sizeLine_eq]; omega))
    have sb : Heap.SameBut a s.heap (s.heap.update a (Obj.putSet es1 t1)) := Heap.SameBut.update ..
    have ho1 := store_at (es' := es1) (t' := t1) ho hd
    generalize s.heap.update a (Obj.putSet es1 t1) = h1 at sb ho1 ⊢
    have tup1 : ∀ p ∈ L1, IsN h1 p.2 p.1 := fun p hp => by
      rcases List.mem_cons.mp (pm.mem_iff.mp hp) with e | hp
      · rw [e]; exact isN_same hx ho hd sb
      · exact isN_same (R.tup p hp) ho hd sb
    have ld1 : w.params.followText "set-order" = true ∨ t1.led = true := by rw [q5]; exact R.led
    by_cases hf : t1.tooFull = true
    · first
        | (refine wpAny_bind ?_; refine wp_if_pos (by simp [hf]) ?_)
        | (refine wp_if_pos (by simp [hf]) ?_; refine wpAny_bind ?_)
      have full : (L.length + 1) * 5 ≥ t1.mask * 3 := by
        have h := hf
        unfold SetTable.tooFull at h
        rw [decide_eq_true_eq, q9, List.length_map] at h
        exact h
      rw [hsl]
      have hsz1 : t1.place.size = es1.size := by
        have h := q3.sz
        rw [List.length_map, ln] at h
        rw [h, hes]
      have two : (t.mask = 7 ∧ L.length = 4) ∨ (t.mask = 31 ∧ L.length = 18) := by
        rcases R.tab.mok with e | e | e
        · left; rw [q4, e] at full; rw [e] at rm; exact ⟨e, by omega⟩
        · right; rw [q4, e] at full; rw [e] at rm; exact ⟨e, by omega⟩
        · exfalso; rw [q4, e] at full; omega
      have go : ∀ M, SetTable.sizeAbove (SetTable.grown (L.length + 1)) - 1 = M → MaskOk M → SetTable.sizeAbove (SetTable.grown (L.length + 1)) ≤ 128 → (L.length + 1) * 5 < M * 3 →
          wpAny (model P w) A (setRelay a (SetTable.grown (L.length + 1))) (fun _ z => wpAny (model P w) A (pure true) Q E z) E { s with heap := h1 } := fun M m1 m2 m3 m4 =>
        relay_n (s := { s with heap := h1 }) ho1 ⟨hex.1, hex.2.1, hex.2.2⟩ rfl hin hsz1 q3.dm (by rw [hes, q4]; rcases two with ⟨e, e2⟩ | ⟨e, e2⟩ <;> omega) nd1 tup1 hp1 ld1 (by rw [ln]; exact few) m1 m2 m3 (by rw [ln]; exact m4) fun h2 L2 es2 ep2 t2 sb2 R2 pm2 =>
          wpAny_pure (fin true h2 L2 es2 ep2 t2 (sb.trans sb2) R2 (fun z => absurd z hm) fun _ => pm2.trans pm)
      rcases two with ⟨_, e2⟩ | ⟨_, e2⟩
      · exact go 31 (by rw [e2, size_20]) (.inr (.inl rfl)) (by rw [e2, size_20]; decide) (by omega)
      · exact go 127 (by rw [e2, size_76]) (.inr (.inr rfl)) (by rw [e2, size_76]; decide) (by omega)
    · first
        | refine wp_if_neg (by simp [hf]) ?_
        | (refine wpAny_bind ?_; refine wp_if_neg (by simp [hf]) ?_; refine wpAny_pure ?_)
      refine wpAny_pure (fin true h1 L1 es1 (ep + 1) t1 sb ⟨⟨_, ho1, ⟨hex.1, hex.2.1, hex.2.2⟩, rfl⟩, hin, q3, nd1, tup1, hp1, ld1, ?_, by rw [ln]; exact few⟩ (fun z => absurd z hm) fun _ => pm)
      have h := hf
      unfold SetTable.tooFull at h
      rw [decide_eq_true_eq, q9, List.length_map] at h
      rw [ln]
      omega
end
end DL

/-! DN4: set(xs), xs a list of fewer than 64 nested tuples of ints. -/
namespace DL
open PySem PySem.Spec L2
open PyProof.Rows hiding St
/-- got from the first i of ks -/
structure GotN (ks : List (Addr × NK)) (i : Nat) (L : List (Addr × NK)) : Prop where
  sub : ∀ p ∈ L, p ∈ ks.take i
  all : ∀ p ∈ ks.take i, p.2.nk ∈ L.map fun p => p.2.nk
  len : L.length ≤ i
theorem GotN.zero (ks : List (Addr × NK)) : GotN ks 0 [] := ⟨fun _ h => (by cases h), fun _ h => (by simp at h), Nat.le_refl _⟩
theorem GotN.same {ks L : List (Addr × NK)} {i : Nat} {x : Addr × NK} (g : GotN ks i L) (h : ks[i]? = some x) (hm : x.2.nk ∈ L.map fun p => p.2.nk) : GotN ks (i + 1) L := by
  refine ⟨fun p hp => ?_, fun p hp => ?_, Nat.le_succ_of_le g.len⟩
  · rw [take_next h]; exact List.mem_append_left _ (g.sub p hp)
  · rw [take_next h] at hp
    rcases List.mem_append.mp hp with z | z
    · exact g.all p z
    · rw [List.mem_singleton.mp z]; exact hm
theorem GotN.more {ks L L' : List (Addr × NK)} {i : Nat} {x : Addr × NK} (g : GotN ks i L) (h : ks[i]? = some x) (pm : L'.Perm (x :: L)) : GotN ks (i + 1) L' := by
  refine ⟨fun p hp => ?_, fun p hp => ?_, ?_⟩
  · rw [take_next h]
    rcases List.mem_cons.mp (pm.mem_iff.mp hp) with e | z
    · rw [e]; exact List.mem_append_right _ (List.mem_singleton.mpr rfl)
    · exact List.mem_append_left _ (g.sub p z)
  · rw [(pm.map fun p => p.2.nk).mem_iff, List.map_cons]
    rw [take_next h] at hp
    rcases List.mem_append.mp hp with z | z
    · exact List.mem_cons_of_mem _ (g.all p z)
    · rw [List.mem_singleton.mp z]; exact List.mem_cons_self
  · rw [pm.length_eq, List.length_cons]
    exact Nat.succ_le_succ g.len
theorem setTN_fresh {w : World} {h : Heap} {a : Addr} (ho : h.get? a = some (setE w)) : SetTN w h a [] #[] 0 (.fresh 0 0 (!w.params.followText "set-order")) where
  ob := ⟨_, ho, ⟨rfl, rfl, rfl⟩, rfl⟩
  rows := rfl
  tab := ⟨List.Pairwise.nil, rfl, rfl, .inl rfl, fun x hx => (by cases hx), fun i h j hi => (by simp at hi)⟩
  nd := List.nodup_nil
  tup := fun p hp => (by cases hp)
  plain := rfl
  led := by
    show _ ∨ (!w.params.followText "set-order") = true
    cases w.params.followText "set-order"
    · exact .inr rfl
    · exact .inl rfl
  room := by show 0 * 5 < 7 * 3; decide
  few := by show 0 < 64; decide
theorem isN_keep {h h' : Heap} {k : NK} {b : Addr} (x : IsN h k b) (hk : Kp h h') : IsN h' k b := ⟨NestedIs.at (fun c o _ _ e _ => hk c o e) _ _ x.1, x.2⟩
theorem SetTN.keep {w : World} {h h' : Heap} {a : Addr} {L : List (Addr × NK)} {es : Array (Int × Value)} {ep : Nat} {t : SetTable} (R : SetTN w h a L es ep t) (ha : ∀ o, h.get? a = some o → h'.get? a = some o) (ht : ∀ p ∈ L, IsN h' p.2 p.1) : SetTN w h' a L es ep t := by
  obtain ⟨o, ho, r⟩ := R.ob
  exact ⟨⟨o, ha o ho, r⟩, R.rows, R.tab, R.nd, ht, R.plain, R.led, R.room, R.few⟩
section
variable {P : Program} {w : World} {A : Around} {E : Value → Shared → Prop} {s : Shared}
theorem call_set_nested {l : Addr} {items : Array Value} (ks : List (Addr × NK)) {Q : Value → Shared → Prop} (nh : A.handled = none) (hl : s.heap.IsList l items) (hit : items.toList = ks.map fun p => Value.ref p.1) (hk : ∀ p ∈ ks, IsN s.heap p.2 p.1) (few : ks.length < 64) (hu : A.units + 12 < cLine)
    (fin : ∀ (h' : Heap) (tk : Nat) L es ep t, SetTN w h' s.heap.objs.size L es ep t → GotN ks ks.length L → Kp s.heap h' → Q (.ref s.heap.objs.size) { s with heap := h', toks := tk }) : wpAny (model P w) A (call (.type "set") [.ref l]) Q E s := by
  have sz : items.size = ks.length := by rw [← Array.length_toList, hit, List.length_map]
  refine call_set_by (fun i h => ∃ L es ep t, SetTN w h s.heap.objs.size L es ep t ∧ GotN ks i L) nh hl (fun h' e => ⟨[], #[], 0, _, setTN_fresh e, GotN.zero ks⟩) (fun {i h h'} j kS kp => ?_) (fun i v hv B hB => ?_) fun h' tk j kp => ?_
  · obtain ⟨L, es, ep, t, R, g⟩ := j
    exact ⟨L, es, ep, t, R.keep kS fun p hp => isN_keep (hk p (List.mem_of_mem_take (g.sub p hp))) kp, g⟩
  · have hv' : (ks.map fun p => Value.ref p.1)[i]? = some v := by rw [← hit, Array.getElem?_toList]; exact hv
    rw [List.getElem?_map] at hv'
    obtain ⟨p, hp, rfl⟩ := Option.map_eq_some_iff.mp hv'
    have il : i < ks.length := (List.getElem?_eq_some_iff.mp hp).1
    intro E' z Q' kp j c
    obtain ⟨L, es, ep, t, R, g⟩ := j
    have hx : IsN z.heap p.2 p.1 := isN_keep (hk p (List.mem_of_getElem? hp)) kp
    have gl := g.len
    unfold setAdd
    refine wpAny_holding (wpAny_bind ((nestedKind P w).pyHash (k := p.2.nk) (show B.units + 8 < cLine by omega) hx ?_))
    refine add_n (s := { z with toks := z.toks + (nestedKind P w).draws p.2.nk }) R hx (show B.units + 8 < cLine by omega) (by omega) fun r h' L' es' ep' t' sb R' c1 c2 => ?_
    refine c r h' _ (Nat.le_add_right _ _) sb ⟨L', es', ep', t', R', ?_⟩
    by_cases m : p.2.nk ∈ L.map fun p => p.2.nk
    · rw [c1 m]; exact g.same hp m
    · exact g.more hp (c2 m)
  · rw [sz] at j
    obtain ⟨L, es, ep, t, R, g⟩ := j
    exact fin h' tk L es ep t R g kp
end
end DL

/-! DN5: nested tuples of ints as data, their order. -/
namespace DL
open PySem PySem.Spec L2
open PyProof.Rows hiding St
mutual
def NK.dat : NK → PyData
  | .num i => .int i
  | .tup ks => .tuple (NK.dats ks)
def NK.dats : List NK → List PyData
  | [] => []
  | k :: ks => NK.dat k :: NK.dats ks
end
mutual
def toNK : PyData → Option NK
  | .int i => some (.num i)
  | .tuple ds => (toNKs ds).map NK.tup
  | _ => none
def toNKs : List PyData → Option (List NK)
  | [] => some []
  | d :: ds => (toNK d).bind fun k => (toNKs ds).map (k :: ·)
end
mutual
theorem toNK_dat : ∀ (d : PyData) (k : NK), toNK d = some k → k.dat = d
  | .int i, k, h => by cases h; rfl
  | .tuple ds, k, h => by
    unfold toNK at h
    obtain ⟨ks, h1, rfl⟩ := Option.map_eq_some_iff.mp h
    show PyData.tuple (NK.dats ks) = _
    rw [toNKs_dat ds ks h1]
  | .none, k, h => by cases h
  | .bool _, k, h => by cases h
  | .str _, k, h => by cases h
  | .list _, k, h => by cases h
  | .dict _, k, h => by cases h
theorem toNKs_dat : ∀ (ds : List PyData) (ks : List NK), toNKs ds = some ks → NK.dats ks = ds
  | [], ks, h => by cases h; rfl
  | d :: ds, ks, h => by
    unfold toNKs at h
    obtain ⟨k, h1, h2⟩ := Option.bind_eq_some_iff.mp h
    obtain ⟨r, h3, rfl⟩ := Option.map_eq_some_iff.mp h2
    show NK.dat k :: NK.dats r = _
    rw [toNK_dat d k h1, toNKs_dat ds r h3]
end
mutual
theorem nk_dat : ∀ (a b : NK), a.nk = b.nk → a.dat = b.dat
  | .num i, .num j, h => by
    have h : NestedKey.num i = NestedKey.num j := h
    injection h with h
    rw [h]
  | .num _, .tup _, h => by
    have h : NestedKey.num _ = NestedKey.tup _ := h
    cases h
  | .tup _, .num _, h => by
    have h : NestedKey.tup _ = NestedKey.num _ := h
    cases h
  | .tup a, .tup b, h => by
    have h : NestedKey.tup (NK.nks a) = NestedKey.tup (NK.nks b) := h
    injection h with h
    show PyData.tuple (NK.dats a) = PyData.tuple (NK.dats b)
    rw [nks_dats a b h]
theorem nks_dats : ∀ (a b : List NK), NK.nks a = NK.nks b → NK.dats a = NK.dats b
  | [], [], _ => rfl
  | [], _ :: _, h => by cases h
  | _ :: _, [], h => by cases h
  | x :: a, y :: b, h => by
    have h : x.nk :: NK.nks a = y.nk :: NK.nks b := h
    injection h with h1 h2
    show x.dat :: NK.dats a = y.dat :: NK.dats b
    rw [nk_dat x y h1, nks_dats a b h2]
end
mutual
theorem dat_nk : ∀ (a b : NK), a.dat = b.dat → a.nk = b.nk
  | .num i, .num j, h => by
    have h : PyData.int i = PyData.int j := h
    injection h with h
    rw [h]
  | .num _, .tup _, h => by
    have h : PyData.int _ = PyData.tuple _ := h
    cases h
  | .tup _, .num _, h => by
    have h : PyData.tuple _ = PyData.int _ := h
    cases h
  | .tup a, .tup b, h => by
    have h : PyData.tuple (NK.dats a) = PyData.tuple (NK.dats b) := h
    injection h with h
    show NestedKey.tup (NK.nks a) = NestedKey.tup (NK.nks b)
    rw [dats_nks a b h]
theorem dats_nks : ∀ (a b : List NK), NK.dats a = NK.dats b → NK.nks a = NK.nks b
  | [], [], _ => rfl
  | [], _ :: _, h => by cases h
  | _ :: _, [], h => by cases h
  | x :: a, y :: b, h => by
    have h : x.dat :: NK.dats a = y.dat :: NK.dats b := h
    injection h with h1 h2
    show x.nk :: NK.nks a = y.nk :: NK.nks b
    rw [dat_nk x y h1, dats_nks a b h2]
end
mutual
theorem eqv_dat : ∀ (a b : NK), PyData.eqv a.dat b.dat = true ↔ a.dat = b.dat
  | .num i, .num j => by
    show (i == j) = true ↔ PyData.int i = PyData.int j
    rw [beq_iff_eq, PyData.int.injEq]
  | .num _, .tup _ => ⟨fun h => (by cases h), fun h => (by cases h)⟩
  | .tup _, .num _ => ⟨fun h => (by cases h), fun h => (by cases h)⟩
  | .tup a, .tup b => by
    show PyData.eqvAll (NK.dats a) (NK.dats b) = true ↔ PyData.tuple (NK.dats a) = PyData.tuple (NK.dats b)
    rw [eqv_dats a b, PyData.tuple.injEq]
theorem eqv_dats : ∀ (a b : List NK), PyData.eqvAll (NK.dats a) (NK.dats b) = true ↔ NK.dats a = NK.dats b
  | [], [] => ⟨fun _ => rfl, fun _ => rfl⟩
  | [], _ :: _ => ⟨fun h => (by cases h), fun h => (by cases h)⟩
  | _ :: _, [] => ⟨fun h => (by cases h), fun h => (by cases h)⟩
  | x :: a, y :: b => by
    show (PyData.eqv x.dat y.dat && PyData.eqvAll (NK.dats a) (NK.dats b)) = true ↔ x.dat :: NK.dats a = y.dat :: NK.dats b
    rw [Bool.and_eq_true, eqv_dat x y, eqv_dats a b, List.cons.injEq]
end
mutual
/-- none before the other: the same -/
theorem lt_tri : ∀ (a b : NK), PySem.W.alike a.dat b.dat = true → ltD a.dat b.dat = false → ltD b.dat a.dat = false → a.dat = b.dat
  | .num i, .num j, _, h1, h2 => by
    have h1 : decide (i < j) = false := h1
    have h2 : decide (j < i) = false := h2
    have h1 := of_decide_eq_false h1
    have h2 := of_decide_eq_false h2
    rw [show i = j by omega]
  | .num _, .tup _, h, _, _ => by cases h
  | .tup _, .num _, h, _, _ => by cases h
  | .tup a, .tup b, h, h1, h2 => by
    show PyData.tuple (NK.dats a) = PyData.tuple (NK.dats b)
    rw [lts_tri a b h h1 h2]
theorem lts_tri : ∀ (a b : List NK), PySem.W.alikeAll (NK.dats a) (NK.dats b) = true → ltDs (NK.dats a) (NK.dats b) = false → ltDs (NK.dats b) (NK.dats a) = false → NK.dats a = NK.dats b
  | [], [], _, _, _ => rfl
  | [], _ :: _, _, h, _ => by cases h
  | _ :: _, [], _, _, h => by cases h
  | x :: a, y :: b, h, h1, h2 => by
    have h : (PySem.W.alike x.dat y.dat && PySem.W.alikeAll (NK.dats a) (NK.dats b)) = true := h
    have h1 : (if PyData.eqv x.dat y.dat then ltDs (NK.dats a) (NK.dats b) else ltD x.dat y.dat) = false := h1
    have h2 : (if PyData.eqv y.dat x.dat then ltDs (NK.dats b) (NK.dats a) else ltD y.dat x.dat) = false := h2
    rw [Bool.and_eq_true] at h
    show x.dat :: NK.dats a = y.dat :: NK.dats b
    by_cases e : x.dat = y.dat
    · rw [if_pos ((eqv_dat x y).mpr e)] at h1
      rw [if_pos ((eqv_dat y x).mpr e.symm)] at h2
      rw [e, lts_tri a b h.2 h1 h2]
    · rw [if_neg (fun w => e ((eqv_dat x y).mp w))] at h1
      rw [if_neg (fun w => e ((eqv_dat y x).mp w).symm)] at h2
      exact absurd (lt_tri x y h.1 h1 h2) e
end
end DL

/-! DN6: sorted lists of one and the same set; data and keys. -/
namespace DL
open PySem PySem.Spec L2
open PyProof.Rows hiding St
theorem sorted_perm : ∀ {l m : List PyData}, (∀ a ∈ l, ∀ b ∈ l, ltD a b = false → ltD b a = false → a = b) → l.Pairwise (fun a b => ltD b a = false) → m.Pairwise (fun a b => ltD b a = false) → l.Perm m → l = m
  | [], m, _, _, _, p => p.nil_eq
  | x :: r, [], _, _, _, p => by have := p.length_eq; cases this
  | x :: r, y :: m, tri, h1, h2, p => by
    rw [List.pairwise_cons] at h1 h2
    have e : x = y := by
      have hx := p.mem_iff.mp (List.mem_cons_self (a := x) (l := r))
      have hy := p.mem_iff.mpr (List.mem_cons_self (a := y) (l := m))
      rcases List.mem_cons.mp hx with e | hx
      · exact e
      · rcases List.mem_cons.mp hy with e | hy'
        · exact e.symm
        · exact tri x List.mem_cons_self y hy (h2.1 x hx) (h1.1 y hy')
    subst e
    rw [sorted_perm (fun a ha b hb => tri a (List.mem_cons_of_mem _ ha) b (List.mem_cons_of_mem _ hb)) h1.2 h2.2 p.cons_inv]
theorem sortD_perm {ds : List PyData} (h : PySem.W.AllAlike ds) : (sortD ds).Perm ds := by
  rw [sortD_merge h]
  exact List.mergeSort_perm _ _
theorem sortD_pair {ds : List PyData} (h : PySem.W.AllAlike ds) : (sortD ds).Pairwise fun a b => ltD b a = false := by
  have pm := sortD_perm h
  rw [sortD_merge h] at pm ⊢
  refine (PySem.W.sort_pairwise (dataLe_total id) ds).imp_of_mem fun {a b} ha hb q => ?_
  rw [ltD_eq b a (h b (pm.mem_iff.mp hb) a (pm.mem_iff.mp ha))]
  rw [PySem.W.dataLe_eq] at q
  have q : (!PySem.W.dataLt b a) = true := q
  cases z : PySem.W.dataLt b a with
  | false => rfl
  | true => rw [z] at q; cases q
theorem sortD_same {ds es : List PyData} (h : PySem.W.AllAlike ds) (tri : ∀ a ∈ ds, ∀ b ∈ ds, ltD a b = false → ltD b a = false → a = b) (pm : ds.Perm es) : sortD ds = sortD es := by
  have h' : PySem.W.AllAlike es := fun a ha b hb => h a (pm.mem_iff.mpr ha) b (pm.mem_iff.mpr hb)
  refine sorted_perm (fun a ha b hb => tri a ((sortD_perm h).mem_iff.mp ha) b ((sortD_perm h).mem_iff.mp hb)) (sortD_pair h) (sortD_pair h') ?_
  exact (sortD_perm h).trans (pm.trans (sortD_perm h').symm)
/-- each once -/
def distN : List NK → List NK
  | [] => []
  | k :: r => if k.nk ∈ (distN r).map NK.nk then distN r else k :: distN r
theorem distN_nd : ∀ ks : List NK, ((distN ks).map NK.nk).Nodup
  | [] => List.nodup_nil
  | k :: r => by
    unfold distN
    by_cases h : k.nk ∈ (distN r).map NK.nk
    · rw [if_pos h]; exact distN_nd r
    · rw [if_neg h, List.map_cons, List.nodup_cons]
      exact ⟨h, distN_nd r⟩
theorem distN_mem : ∀ (ks : List NK) (x : NestedKey), x ∈ (distN ks).map NK.nk ↔ x ∈ ks.map NK.nk
  | [], _ => Iff.rfl
  | k :: r, x => by
    unfold distN
    by_cases h : k.nk ∈ (distN r).map NK.nk
    · rw [if_pos h, distN_mem r x, List.map_cons, List.mem_cons]
      exact ⟨.inr, fun q => q.elim (fun e => by rw [e]; exact (distN_mem r _).mp h) id⟩
    · rw [if_neg h, List.map_cons, List.map_cons, List.mem_cons, List.mem_cons, distN_mem r x]
theorem distN_sub : ∀ (ks : List NK), ∀ k ∈ distN ks, k ∈ ks
  | [], _, h => h
  | k :: r, x, h => by
    unfold distN at h
    by_cases c : k.nk ∈ (distN r).map NK.nk
    · rw [if_pos c] at h
      exact List.mem_cons_of_mem _ (distN_sub r x h)
    · rw [if_neg c] at h
      rcases List.mem_cons.mp h with e | h
      · rw [e]; exact List.mem_cons_self
      · exact List.mem_cons_of_mem _ (distN_sub r x h)
theorem dats_map : ∀ ks : List NK, NK.dats ks = ks.map NK.dat
  | [] => rfl
  | k :: r => by
    show k.dat :: NK.dats r = _
    rw [dats_map r]
    rfl
theorem nks_map : ∀ ks : List NK, NK.nks ks = ks.map NK.nk
  | [] => rfl
  | k :: r => by
    show k.nk :: NK.nks r = _
    rw [nks_map r]
    rfl
/-- two rows of keys with the same members, each once -/
theorem dat_perm {a b : List NK} (ha : (a.map NK.nk).Nodup) (hb : (b.map NK.nk).Nodup) (h : ∀ x, x ∈ a.map NK.nk ↔ x ∈ b.map NK.nk) : (a.map NK.dat).Perm (b.map NK.dat) := by
  have nd : ∀ {l : List NK}, (l.map NK.nk).Nodup → (l.map NK.dat).Nodup := fun {l} q => by
    unfold List.Nodup at q ⊢
    rw [List.pairwise_map] at q ⊢
    exact q.imp fun z e => z (dat_nk _ _ e)
  refine (List.perm_ext_iff_of_nodup (nd ha) (nd hb)).mpr fun d => ?_
  have go : ∀ {l m : List NK}, (∀ x, x ∈ l.map NK.nk → x ∈ m.map NK.nk) → d ∈ l.map NK.dat → d ∈ m.map NK.dat := fun {l m} q hd => by
    obtain ⟨k, hk, rfl⟩ := List.mem_map.mp hd
    obtain ⟨j, hj, e⟩ := List.mem_map.mp (q k.nk (List.mem_map.mpr ⟨k, hk, rfl⟩))
    exact List.mem_map.mpr ⟨j, hj, nk_dat _ _ e⟩
  exact ⟨go fun x => (h x).mp, go fun x => (h x).mpr⟩
section
variable {X : Cx} {K : PySem.W.Frag} {pins : List (Addr × Obj)} {σ : L2.St} {H : Hp} {s : Shared} {g : Addr → Prop}
mutual
/-- data of ints and tuples, as a key in the heap -/
theorem nested_of (I : Inv X pins σ H s) : ∀ {d : PyData} {v : V} {u : Value} {k : NK}, Df X.K H g v d → toNK d = some k → RelV v u → NestedIs s.heap k.nk u
  | _, _, u, k, .int i, h, r => by
    cases h
    obtain ⟨t, rfl⟩ := r
    exact .int i t
  | _, _, u, k, .tup h1 h2 h3, h, r => by
    unfold toNK at h
    obtain ⟨ks, e, rfl⟩ := Option.map_eq_some_iff.mp h
    cases r
    obtain ⟨its, rv, ⟨o, ho, hc, n, hd⟩, _⟩ := I.tuple (SqT.of h1)
    exact .tup ho hc hd (by simpa using nested_all I h3 e rv)
  | _, _, _, _, .non, h, _ => by cases h
  | _, _, _, _, .bl _, h, _ => by cases h
  | _, _, _, _, .str _, h, _ => by cases h
  | _, _, _, _, .lst _ _ _ _, h, _ => by cases h
theorem nested_all (I : Inv X pins σ H s) : ∀ {ds : List PyData} {vs : List V} {us : List Value} {ks : List NK}, DfAll X.K H g vs ds → toNKs ds = some ks → Vals vs us → NestedAll s.heap (NK.nks ks) us
  | _, _, us, ks, .nil, h, r => by
    cases h
    cases r
    exact .nil
  | _, _, us, ks, .cons h1 h2, h, r => by
    unfold toNKs at h
    obtain ⟨k, e1, e2⟩ := Option.bind_eq_some_iff.mp h
    obtain ⟨q, e3, rfl⟩ := Option.map_eq_some_iff.mp e2
    cases r with
    | cons r1 r2 => exact .cons (nested_of I h1 e1 r1) (nested_all I h2 e3 r2)
end
end
end DL

/-! DN7: sorted(set(xs)), xs a list of nested tuples of ints. -/
namespace DL
open PySem PySem.Spec L2
open PyProof.Rows hiding St
theorem perm_map_ex {α β : Type} {f : α → β} : ∀ {xs ys : List β}, xs.Perm ys → ∀ L : List α, ys = L.map f → ∃ L1 : List α, L1.Perm L ∧ xs = L1.map f := fun {xs ys} p => by
  induction p with
  | nil => intro L e; exact ⟨L, .refl _, e⟩
  | cons x p ih =>
    intro L e
    cases L with
    | nil => cases e
    | cons l L =>
      rw [List.map_cons] at e
      injection e with e1 e2
      obtain ⟨L1, q1, q2⟩ := ih L e2
      exact ⟨l :: L1, q1.cons l, by rw [List.map_cons, e1, q2]⟩
  | swap x y t =>
    intro L e
    match L, e with
    | l1 :: l2 :: L, e =>
      rw [List.map_cons, List.map_cons] at e
      injection e with e1 e2
      injection e2 with e2 e3
      exact ⟨l2 :: l1 :: L, .swap _ _ _, by rw [List.map_cons, List.map_cons, e1, e2, e3]⟩
  | trans p1 p2 ih1 ih2 =>
    intro L e
    obtain ⟨L1, q1, q2⟩ := ih2 L e
    obtain ⟨L2, q3, q4⟩ := ih1 L1 q2
    exact ⟨L2, q3.trans q1, q4⟩
theorem sorts_sub {ds es : List PyData} (h : sorts ds = true) (t : ds.all isTup1 = true) (sub : ∀ x ∈ es, x ∈ ds) : sorts es = true := by
  have al := sorts_alike h
  have dp := sorts_depth h
  unfold sorts
  rw [Bool.and_eq_true, Bool.and_eq_true, Bool.or_eq_true, Bool.or_eq_true]
  refine ⟨⟨List.all_eq_true.mpr fun d hd => List.all_eq_true.mpr fun e he => al d (sub d hd) e (sub e he), .inl (.inl (List.all_eq_true.mpr fun d hd => List.all_eq_true.mp t d (sub d hd)))⟩, decide_eq_true ?_⟩
  have key : ∀ l : List PyData, (∀ x ∈ l, x ∈ ds) → PyData.depthAll l ≤ 60 := fun l => by
    induction l with
    | nil => intro _; exact Nat.zero_le _
    | cons x r ih =>
      intro q
      have e : PyData.depthAll (x :: r) = max x.depth (PyData.depthAll r) := by first | rfl | rw [PyData.depthAll]
      rw [e]
      exact Nat.max_le.mpr ⟨Nat.le_trans (depth_mem (q x List.mem_cons_self)) dp, ih fun y hy => q y (List.mem_cons_of_mem _ hy)⟩
  exact key es sub
theorem nk_tri {l : List NK} (h : PySem.W.AllAlike (l.map NK.dat)) : ∀ a ∈ l.map NK.dat, ∀ b ∈ l.map NK.dat, ltD a b = false → ltD b a = false → a = b := fun a ha b hb h1 h2 => by
  have al := h a ha b hb
  obtain ⟨x, _, rfl⟩ := List.mem_map.mp ha
  obtain ⟨y, _, rfl⟩ := List.mem_map.mp hb
  exact lt_tri x y al h1 h2
section
variable {X : Cx} {pins : List (Addr × Obj)} {σ : L2.St} {H : Hp} {s : Shared}
theorem run_sortedN (I : Inv X pins σ H s) (hc : X.calm = true) (hu : X.A.units + 65 < cLine) {a : Addr} {L : List (Addr × NK)} {es : Array (Int × Value)} {ep : Nat} {t : SetTable} (R : SetTN X.w s.heap a L es ep t) (dp : ∀ p ∈ L, Dp X.K H (.ref p.1) p.2.dat)
    (hs : sorts (L.map fun p => p.2.dat) = true) (ht : (L.map fun p => p.2.dat).all isTup1 = true) {Q : VK}
    (fin : ∀ (ps : List (V × PyData)) (p : Addr), (∀ x ∈ ps, ∃ q ∈ L, x = (V.ref q.1, q.2.dat)) → ps.map (·.2) = sortD (L.map fun p => p.2.dat) → H p = none → ps.length ≤ sizeLine → Q (.ref p) (upd H p (.lst (ps.map (·.1))))) :
    wpAny (model X.prog X.w) X.A (call (.builtin "sorted") [.ref a]) (EP X pins σ Q) X.xe s := by
  obtain ⟨o, ho, hex, hd⟩ := R.ob
  have hsz := rows_size R.rows
  have few := R.few
  refine Calls.call_function_entry PyProof.Rows.kind_sorted PyProof.Rows.plain_sorted PyProof.Rows.entry_sorted (PyProof.Rows.args_sorted1 _) ?_
  unfold Builtin.«sorted»
  refine wpAny_bind (m := checkCount "sorted" 1 1 _) (wpAny_pure ?_)
  refine wpAny_bind (collect_set (A := X.A.in1) (I.ok.hd hc) ⟨o, ho, hex.1, hd⟩ R.fits (by unfold scanBound; omega) R.tab.ris R.led fun s1 vals k1 hz g1 o1 pm => ?_)
  rw [R.rows, List.map_map] at pm
  obtain ⟨L1, pL, eL⟩ := perm_map_ex pm L rfl
  have eL : vals = L1.map fun p => Value.ref p.1 := eL
  have I1 : Inv X pins σ H s1 := I.call' (ch := []) o1 (Un.kept k1) (I.hok.kept k1) (by rw [g1]; exact I.bare) (fun b hb => nomatch hb)
  have rv : Vals (L1.map fun p => V.ref p.1) vals := by
    have := vals_refs (L1.map fun p => p.1)
    rw [List.map_map, List.map_map] at this
    rw [eL]
    exact this
  have dp1 : ∀ x ∈ (L1.map fun p => V.ref p.1).zip (L1.map fun p => p.2.dat), ∃ q ∈ L, x = (V.ref q.1, q.2.dat) := fun x hx => by
    rw [List.zip_map'] at hx
    obtain ⟨q, hq, rfl⟩ := List.mem_map.mp hx
    exact ⟨q, pL.mem_iff.mp hq, rfl⟩
  have pd : (L1.map fun p => p.2.dat).Perm (L.map fun p => p.2.dat) := pL.map _
  have hs1 : sorts (L1.map fun p => p.2.dat) = true := sorts_sub hs ht fun x hx => pd.mem_iff.mp hx
  have same : sortD (L1.map fun p => p.2.dat) = sortD (L.map fun p => p.2.dat) := by
    have al := sorts_alike hs1
    refine sortD_same al ?_ pd
    have e : (L1.map fun p => p.2.dat) = (L1.map (·.2)).map NK.dat := by rw [List.map_map]; rfl
    rw [e] at al ⊢
    exact nk_tri al
  have lL : L1.length < 64 := by rw [pL.length_eq]; exact few
  generalize hvs : (L1.map fun p => V.ref p.1) = vs at rv dp1
  generalize hds : (L1.map fun p => p.2.dat) = dat at dp1 hs1 same
  have lv : vs.length = dat.length := by rw [← hvs, ← hds, List.length_map, List.length_map]
  have lv2 : vs.length < 64 := by rw [← hvs, List.length_map]; exact lL
  have li : vals.length ≤ sizeLine := by rw [← rv.length, sizeLine_eq]; omega
  refine wpAny_bind (wpAny_newList ?_ li)
  have hoL : (s1.heap.push (seqObj "list" vals.toArray 0)).get? s1.heap.objs.size = some (seqObj "list" vals.toArray 0) := Heap.get?_push_size _ rfl
  show wpAny _ _ _ _ _ { s1 with heap := s1.heap.push (seqObj "list" vals.toArray 0) }
  have old : ∀ b o, s1.heap.get? b = some o → (PySem.W.sortingHeap (s1.heap.push (seqObj "list" vals.toArray 0)) s1.heap.objs.size vals).get? b = some o := fun b o e => PySem.W.sortingHeap_old (Nat.ne_of_lt (Heap.lt_size e)) (Heap.get?_push_of_some _ e)
  have dp2 : ∀ x ∈ vs.zip dat, Dp X.K H x.1 x.2 := fun x hx => by
    obtain ⟨q, hq, rfl⟩ := dp1 x hx
    exact dp q hq
  have e : PySem.W.EachIs (fun u (p : V × PyData) => RelV p.1 u) vals (vs.zip dat) := each_zip rv lv fun v u d _ w => w
  have er : PySem.W.EachIs (fun u (p : V × PyData) => ∃ as, Reads s1.heap u p.2 as) vals (vs.zip dat) := each_zip rv lv fun v u d m w => Dp.reads I1 d v u (dp2 _ m) w
  have hm : (vs.zip dat).map (·.2) = dat := List.map_snd_zip (Nat.le_of_eq lv.symm)
  have er2 : PySem.W.EachIs (fun u (p : V × PyData) => ∃ as, Reads (PySem.W.sortingHeap (s1.heap.push (seqObj "list" vals.toArray 0)) s1.heap.objs.size vals) u p.2 as) vals (vs.zip dat) := er.mono fun _ _ ⟨as, w⟩ => ⟨as, PyProof.Rows.Reads.keeps old w⟩
  have er3 : PySem.W.EachIs (fun u d => ∃ as, Reads (PySem.W.sortingHeap (s1.heap.push (seqObj "list" vals.toArray 0)) s1.heap.objs.size vals) u d as) vals dat := by
    have w := PySem.W.each_map (R := fun u d => ∃ as, Reads (PySem.W.sortingHeap (s1.heap.push (seqObj "list" vals.toArray 0)) s1.heap.objs.size vals) u d as) Prod.snd er2
    rw [show (vs.zip dat).map Prod.snd = dat from hm] at w
    exact w
  have hal := sorts_alike hs1
  have hal2 : PySem.W.AllAlike ((vs.zip dat).map Prod.snd) := by rw [show (vs.zip dat).map Prod.snd = dat from hm]; exact hal
  have S : PySem.W.SortsAt X.prog X.w X.A.in1.in1 { s1 with heap := PySem.W.sortingHeap (s1.heap.push (seqObj "list" vals.toArray 0)) s1.heap.objs.size vals } (PySem.W.dataKind (PySem.W.sortingHeap (s1.heap.push (seqObj "list" vals.toArray 0)) s1.heap.objs.size vals) dat) vals :=
    sortsAt (s := { s1 with heap := PySem.W.sortingHeap (s1.heap.push (seqObj "list" vals.toArray 0)) s1.heap.objs.size vals }) er3 hs1 (by show X.A.units + 1 + 1 + 60 < cLine; omega)
  have out := PySem.W.sortVals_data (h' := PySem.W.sortingHeap (s1.heap.push (seqObj "list" vals.toArray 0)) s1.heap.objs.size vals) (R := fun u (p : V × PyData) => RelV p.1 u) (enc := Prod.snd) false e er2 hal2
  rw [show (vs.zip dat).map Prod.snd = dat from hm] at out
  refine wpAny_bind (wpAny_holding (wpAny_call_entry PyProof.Rows.slot_list_sort ⟨_, hoL, rfl⟩ PyProof.Rows.entry_list_sort
    (PySem.W.list_sort_vals (s := { s1 with heap := s1.heap.push (seqObj "list" vals.toArray 0) }) hoL S li ⟨_, rfl, ?_⟩) (PyProof.Rows.args_list_sort _)))
  generalize PySem.W.sortVals (PySem.W.dataKind (PySem.W.sortingHeap (s1.heap.push (seqObj "list" vals.toArray 0)) s1.heap.objs.size vals) dat) false vals vals = zs at out ⊢
  have rz := vals_each out
  have perm : ((vs.zip dat).mergeSort (PySem.W.dataLe false Prod.snd)).Perm (vs.zip dat) := List.mergeSort_perm _ _
  have ms : ((vs.zip dat).mergeSort (PySem.W.dataLe false Prod.snd)).map (·.2) = sortD dat := by
    rw [sortD_merge hal]
    refine (PySem.W.sort_maps (s := PySem.W.dataLe false id) (fun p : V × PyData => p.2) fun a _ b _ => rfl).trans ?_
    rw [hm]
  generalize (vs.zip dat).mergeSort (PySem.W.dataLe false Prod.snd) = ps at rz perm ms
  have hps : ps.length ≤ sizeLine := by
    rw [perm.length_eq, List.length_zip, ← lv, Nat.min_self, sizeLine_eq]
    omega
  obtain ⟨e', he'⟩ := PyProof.Rows.sortedHeap_at (vs := vals) (out := zs.toArray) hoL
  refine wpAny_pure ⟨_, rfl, .ref s1.heap.objs.size, upd H s1.heap.objs.size (.lst (ps.map (·.1))), I1.laid (t' := s1.toks) (fun b u e => ?_) (Nat.le_refl _) ⟨by rw [List.length_map]; exact hps, zs, e', rz, he'⟩, rfl, fin ps _ (fun x hx => dp1 x (perm.mem_iff.mp hx)) (ms.trans same) (I1.hok.fresh (Nat.le_refl _)) hps⟩
  have lt := Heap.lt_size e
  have sz : (s1.heap.push (seqObj "list" vals.toArray 0)).objs.size = s1.heap.objs.size + 1 := Heap.size_push ..
  rw [PyProof.Rows.sortedHeap_old (Nat.ne_of_lt lt) (by rw [sz]; exact Nat.lt_succ_of_lt lt)]
  exact Heap.get?_push_of_some _ e
end
end DL

/-! DN8: sorted(set(e)), the reading. -/
namespace DL
open PySem PySem.Spec L2
open PyProof.Rows hiding St
def fSortSetN : PyData → Option (List PyData)
  | .list ds => match toNKs ds with
    | some ks => if decide (ks.length < 64) && (ds.all isTup1 && (ks.all (fun k => decide (k.nk.depth ≤ 8)) && sorts ds)) then some (sortD ((distN ks).map NK.dat)) else none
    | none => none
  | _ => none
section
variable {K : PySem.W.Frag} {H : Hp} {g : Addr → Prop}
theorem keysN : ∀ {us : List V} {ds : List PyData} {ks : List NK}, DfAll K H g us ds → toNKs ds = some ks → ds.all isTup1 = true → ∃ kp : List (Addr × NK), us = kp.map (fun p => V.ref p.1) ∧ kp.map (·.2) = ks ∧ ∀ p ∈ kp, ∃ d, Df K H g (V.ref p.1) d ∧ toNK d = some p.2
  | _, [], ks, .nil, h, _ => by cases h; exact ⟨[], rfl, rfl, fun _ h => nomatch h⟩
  | v :: us, d :: ds, ks, .cons h1 h2, h, ht => by
    unfold toNKs at h
    obtain ⟨k, e1, e2⟩ := Option.bind_eq_some_iff.mp h
    obtain ⟨r, e3, rfl⟩ := Option.map_eq_some_iff.mp e2
    rw [List.all_cons, Bool.and_eq_true] at ht
    obtain ⟨kp, q1, q2, q3⟩ := keysN h2 e3 ht.2
    have hv : ∃ a, v = V.ref a := by
      cases h1 with
      | tup _ _ _ => exact ⟨_, rfl⟩
      | lst _ _ _ _ => exact ⟨_, rfl⟩
      | _ => exact absurd ht.1 Bool.false_ne_true
    obtain ⟨a, rfl⟩ := hv
    refine ⟨(a, k) :: kp, by rw [List.map_cons, q1], by rw [List.map_cons, q2], fun p hp => ?_⟩
    rcases List.mem_cons.mp hp with e | hp
    · rw [e]; exact ⟨d, h1, e1⟩
    · exact q3 p hp
theorem refs_of : ∀ {ks : List (Addr × NK)} {us : List Value}, Vals (ks.map fun p => V.ref p.1) us → us = ks.map fun p => Value.ref p.1
  | [], _, .nil => rfl
  | p :: ks, _, .cons r t => by
    cases r
    rw [refs_of t]
    rfl
end
section
variable {X : Cx} {C : Exs} {W : WX} {a : Expr} {ma : ME PyData} {M : Md} {p p2 q pos : Pos}
theorem sf_sortSetN (hc : X.calm = true) (hu : X.A.units + 65 < cLine) (pm : Pers M) (hm : X.mg "sorted" = none) (hm2 : X.mg "set" = none) (ha : PE X a (rdG M X.K C W ma)) (hg : Gl X "sorted" := by rfl) (hg2 : Gl X "set" := by rfl)
    (na : starEach [a] X.env = (false, eval a X.env) :: starEach [] X.env := by rfl) (na2 : starEach [.Call (.Name "set" p2) [a] [] q] X.env = (false, eval (.Call (.Name "set" p2) [a] [] q) X.env) :: starEach [] X.env := by rfl) :
    SF X C W (.Call (.Name "sorted" p) [.Call (.Name "set" p2) [a] [] q] [] pos) (mUnF fSortSetN ma) := by
  refine ⟨fun pins s σ H Q I ⟨Γ, env, ds, R, h⟩ => ?_⟩
  refine Call_ (ld_blt I hg hm PyProof.Rows.boot_sorted ?_)
  refine PyProof.Rows.callWith_builtin1 (PyProof.Rows.args_cons ?_ na2) rfl rfl
  refine Call_ (ld_blt I hg2 hm2 PyProof.Rows.boot_set ?_)
  refine PyProof.Rows.callWith_type1 (PyProof.Rows.args_cons (thn (ha.run pins s σ H (fun x H1 => ∃ d zs, MP X.K Γ σ env H1 x d ∧ fSortSetN d = some zs ∧ ∀ r us, H1 r = none → us.length ≤ sizeLine → DfAll X.K H1 (gd Γ σ env) us zs → Q (.ref r) (upd H1 r (.lst us))) I ⟨Γ, env, ds, R, h.bind.imp fun d ds1 H1 e1 d1 q x hx => ?_⟩) fun v s1 ⟨x, H1, I1, r1, d, zs, hd, hf, q1⟩ => PyProof.Rows.args_nil ?_) na) na rfl
  · obtain ⟨zs, hz, q⟩ := lift_some q
    exact ⟨d, zs, pm.pk hx, hz, fun r us hr hl hA => q _ (ext_new hr) (d1.new hr) r us (R.none_back e1 d1 hr) upd_same hl (hA.newx hr d1)⟩
  · unfold fSortSetN at hf
    split at hf
    · rename_i ds'
      split at hf
      · rename_i ks hk
        split at hf
        · rename_i c
          cases hf
          rw [Bool.and_eq_true, Bool.and_eq_true, Bool.and_eq_true] at c
          obtain ⟨c1, c2, c3, c4⟩ := c
          have c1 := of_decide_eq_true c1
          obtain ⟨l, us, rfl, hl, hs, hA⟩ := hd.list
          cases r1
          obtain ⟨kp, rfl, e2, kd⟩ := keysN hA hk c2
          obtain ⟨its, r, pl, hz⟩ := I1.list (.inl (.inl hl))
          have e3 := refs_of r
          have isn : ∀ p ∈ kp, IsN s1.heap p.2 p.1 := fun p hp => by
            obtain ⟨d, h1, h2⟩ := kd p hp
            refine ⟨nested_of I1 h1 h2 rfl, ?_⟩
            have := List.all_eq_true.mp c3 p.2 (by rw [← e2]; exact List.mem_map.mpr ⟨p, hp, rfl⟩)
            exact of_decide_eq_true this
          have kl : kp.length < 64 := by rw [← e2, List.length_map] at c1; exact c1
          refine call_set_nested (P := X.prog) (w := X.w) kp (I1.ok.hd hc) pl.isList (by rw [e3]) isn kl (by omega) fun h' tk L es ep t RS G kp2 => PyProof.Rows.args_nil ?_
          have I2 : Inv X pins σ H1 { s1 with heap := h', toks := tk } := I1.kept kp2
          have sub : ∀ p ∈ L, p ∈ kp := fun p hp => List.mem_of_mem_take (G.sub p hp)
          have ed : kp.map (fun p => p.2.dat) = ds' := by
            have := toNKs_dat ds' ks hk
            rw [dats_map, ← e2, List.map_map] at this
            exact this
          have subd : ∀ x ∈ L.map (fun p => p.2.dat), x ∈ ds' := fun x hx => by
            obtain ⟨p, hp, rfl⟩ := List.mem_map.mp hx
            rw [← ed]
            exact List.mem_map.mpr ⟨p, sub p hp, rfl⟩
          have df : ∀ p ∈ L, Df X.K H1 (gd Γ σ env) (V.ref p.1) p.2.dat := fun p hp => by
            obtain ⟨d, h1, h2⟩ := kd p (sub p hp)
            rw [toNK_dat d _ h2]
            exact h1
          have sL : sorts (L.map fun p => p.2.dat) = true := sorts_sub c4 c2 subd
          have tL : (L.map fun p => p.2.dat).all isTup1 = true := List.all_eq_true.mpr fun x hx => List.all_eq_true.mp c2 x (subd x hx)
          refine run_sortedN (s := { s1 with heap := h', toks := tk }) I2 hc hu RS (fun p hp => (df p hp).dp) sL tL fun ps r hps ms hr hl => ?_
          refine q1 r (ps.map (·.1)) hr (by rw [List.length_map]; exact hl) ?_
          have al := sorts_alike sL
          have perm : (L.map fun p => p.2.dat).Perm ((distN ks).map NK.dat) := by
            have e : (L.map fun p => p.2.dat) = (L.map (·.2)).map NK.dat := by rw [List.map_map]; rfl
            rw [e]
            have en : (L.map (·.2)).map NK.nk = L.map fun p => p.2.nk := by rw [List.map_map]; rfl
            refine dat_perm (by rw [en]; exact RS.nd) (distN_nd ks) fun x => ?_
            rw [en, distN_mem, ← e2, List.map_map]
            refine ⟨fun hx => ?_, fun hx => ?_⟩
            · obtain ⟨p, hp, rfl⟩ := List.mem_map.mp hx
              exact List.mem_map.mpr ⟨p, sub p hp, rfl⟩
            · obtain ⟨p, hp, rfl⟩ := List.mem_map.mp hx
              exact G.all p (by rw [List.take_length]; exact hp)
          have e4 : sortD (L.map fun p => p.2.dat) = sortD ((distN ks).map NK.dat) := by
            refine sortD_same al ?_ perm
            have e : (L.map fun p => p.2.dat) = (L.map (·.2)).map NK.dat := by rw [List.map_map]; rfl
            rw [e] at al ⊢
            exact nk_tri al
          rw [← e4, ← ms]
          refine zip_dfAll fun x hx => ?_
          obtain ⟨p, hp, rfl⟩ := hps x hx
          exact df p hp
        · cases hf
      · cases hf
    · cases hf
end
end DL

/-! DS10: sorted(t), t a tuple. -/
namespace DL
open PySem PySem.Spec L2
open PyProof.Rows hiding St
section
variable {X : Cx} {K : PySem.W.Frag}
def rSortT (K : PySem.W.Frag) : List V → Hp → VK → Prop := fun vs H Q => ∃ (a : Addr) (xs : List V) (ds : List PyData), vs = [V.ref a] ∧ SqT K H a xs ∧ xs.length ≤ sizeLine ∧ DpAll K H xs ds ∧ sorts ds = true ∧
  ∀ (ps : List (V × PyData)) (p : Addr), ps.Perm (xs.zip ds) → ps.map (·.2) = sortD ds → H p = none → ps.length ≤ sizeLine → Q (.ref p) (upd H p (.lst (ps.map (·.1))))
theorem cr_sortT (hu : X.A.units + 65 < cLine) : CallR X (.builtin "sorted") (rSortT X.K) := by
  intro pins s σ H vs us Q I r h
  obtain ⟨a, xs, ds, rfl, hT, z, hd, hk, q⟩ := h
  obtain ⟨its, rv, ⟨o, ho, hc, n, hdd⟩, _⟩ := I.tuple hT
  rw [Vals.ref1 r]
  have lv : xs.length = ds.length := dp_len hd
  have li : its.length ≤ sizeLine := by rw [← rv.length]; exact z
  refine Calls.call_function_entry PyProof.Rows.kind_sorted PyProof.Rows.plain_sorted PyProof.Rows.entry_sorted (PyProof.Rows.args_sorted1 _) ?_
  unfold Builtin.«sorted»
  refine wpAny_bind (m := checkCount "sorted" 1 1 _) (wpAny_pure ?_)
  refine wpAny_bind (wpAny_collect_seq (A := X.A.in1) a (.inr rfl) ho hc hdd (fun h' hk' => ?_) (by simpa using li))
  rw [List.toList_toArray]
  have I1 : Inv X pins σ H { s with heap := h', toks := s.toks } := I.kept hk'
  refine wpAny_bind (wpAny_newList ?_ li)
  have hoL : (h'.push (seqObj "list" its.toArray 0)).get? h'.objs.size = some (seqObj "list" its.toArray 0) := Heap.get?_push_size _ rfl
  show wpAny _ _ _ _ _ { s with heap := h'.push (seqObj "list" its.toArray 0), toks := s.toks }
  have old : ∀ b o, h'.get? b = some o → (PySem.W.sortingHeap (h'.push (seqObj "list" its.toArray 0)) h'.objs.size its).get? b = some o := fun b o e => PySem.W.sortingHeap_old (Nat.ne_of_lt (Heap.lt_size e)) (Heap.get?_push_of_some _ e)
  have dp : ∀ x ∈ xs.zip ds, Dp X.K H x.1 x.2 := dp_zip hd
  have e : PySem.W.EachIs (fun u (p : V × PyData) => RelV p.1 u) its (xs.zip ds) := each_zip rv lv fun v u d _ w => w
  have er : PySem.W.EachIs (fun u (p : V × PyData) => ∃ as, Reads h' u p.2 as) its (xs.zip ds) := each_zip rv lv fun v u d m w => Dp.reads I1 d v u (dp _ m) w
  have hm : (xs.zip ds).map (·.2) = ds := List.map_snd_zip (Nat.le_of_eq lv.symm)
  have er2 : PySem.W.EachIs (fun u (p : V × PyData) => ∃ as, Reads (PySem.W.sortingHeap (h'.push (seqObj "list" its.toArray 0)) h'.objs.size its) u p.2 as) its (xs.zip ds) := er.mono fun _ _ ⟨as, w⟩ => ⟨as, PyProof.Rows.Reads.keeps old w⟩
  have er3 : PySem.W.EachIs (fun u d => ∃ as, Reads (PySem.W.sortingHeap (h'.push (seqObj "list" its.toArray 0)) h'.objs.size its) u d as) its ds := by
    have w := PySem.W.each_map (R := fun u d => ∃ as, Reads (PySem.W.sortingHeap (h'.push (seqObj "list" its.toArray 0)) h'.objs.size its) u d as) Prod.snd er2
    rw [show (xs.zip ds).map Prod.snd = ds from hm] at w
    exact w
  have hal := sorts_alike hk
  have hal2 : PySem.W.AllAlike ((xs.zip ds).map Prod.snd) := by rw [show (xs.zip ds).map Prod.snd = ds from hm]; exact hal
  have S : PySem.W.SortsAt X.prog X.w X.A.in1.in1 { s with heap := PySem.W.sortingHeap (h'.push (seqObj "list" its.toArray 0)) h'.objs.size its, toks := s.toks } (PySem.W.dataKind (PySem.W.sortingHeap (h'.push (seqObj "list" its.toArray 0)) h'.objs.size its) ds) its :=
    sortsAt (s := { s with heap := PySem.W.sortingHeap (h'.push (seqObj "list" its.toArray 0)) h'.objs.size its, toks := s.toks }) er3 hk (by show X.A.units + 1 + 1 + 60 < cLine; omega)
  have out := PySem.W.sortVals_data (h' := PySem.W.sortingHeap (h'.push (seqObj "list" its.toArray 0)) h'.objs.size its) (R := fun u (p : V × PyData) => RelV p.1 u) (enc := Prod.snd) false e er2 hal2
  rw [show (xs.zip ds).map Prod.snd = ds from hm] at out
  refine wpAny_bind (wpAny_holding (wpAny_call_entry PyProof.Rows.slot_list_sort ⟨_, hoL, rfl⟩ PyProof.Rows.entry_list_sort
    (PySem.W.list_sort_vals (s := { s with heap := h'.push (seqObj "list" its.toArray 0), toks := s.toks }) hoL S li ⟨_, rfl, ?_⟩) (PyProof.Rows.args_list_sort _)))
  generalize PySem.W.sortVals (PySem.W.dataKind (PySem.W.sortingHeap (h'.push (seqObj "list" its.toArray 0)) h'.objs.size its) ds) false its its = zs at out ⊢
  have rz := vals_each out
  have perm : ((xs.zip ds).mergeSort (PySem.W.dataLe false Prod.snd)).Perm (xs.zip ds) := List.mergeSort_perm _ _
  have ms : ((xs.zip ds).mergeSort (PySem.W.dataLe false Prod.snd)).map (·.2) = sortD ds := by
    rw [sortD_merge hal]
    refine (PySem.W.sort_maps (s := PySem.W.dataLe false id) (fun p : V × PyData => p.2) fun a _ b _ => rfl).trans ?_
    rw [hm]
  generalize (xs.zip ds).mergeSort (PySem.W.dataLe false Prod.snd) = ps at rz perm ms
  have hps : ps.length ≤ sizeLine := by
    rw [perm.length_eq, List.length_zip, lv, Nat.min_self]
    rw [← lv]; exact z
  obtain ⟨e', he'⟩ := PyProof.Rows.sortedHeap_at (vs := its) (out := zs.toArray) hoL
  refine wpAny_pure ⟨_, rfl, .ref h'.objs.size, upd H h'.objs.size (.lst (ps.map (·.1))), I1.laid (t' := s.toks) (fun b u e => ?_) (Nat.le_refl _) ⟨by rw [List.length_map]; exact hps, zs, e', rz, he'⟩, rfl, q ps _ perm ms (I1.hok.fresh (Nat.le_refl _)) hps⟩
  have lt := Heap.lt_size e
  have sz : (h'.push (seqObj "list" its.toArray 0)).objs.size = h'.objs.size + 1 := Heap.size_push ..
  rw [PyProof.Rows.sortedHeap_old (Nat.ne_of_lt lt) (by rw [sz]; exact Nat.lt_succ_of_lt lt)]
  exact Heap.get?_push_of_some _ e
def fSortA : PyData → Option (List PyData)
  | .tuple ds => if sorts ds then some (sortD ds) else none
  | d => fSort d
def rSortA (K : PySem.W.Frag) : List V → Hp → VK → Prop := fun vs H Q => rSortD K vs H Q ∨ rSortT K vs H Q
theorem cr_sortA (hu : X.A.units + 65 < cLine) : CallR X (.builtin "sorted") (rSortA X.K) := .or (cr_sortD hu) (cr_sortT hu)
theorem un_sortA : Un1F K (rSortA K) fSortA := fun Γ σ H env ds R x d z hx hf Q q => by
  unfold fSortA at hf
  split at hf
  · split at hf
    · rename_i es hs
      cases hf
      obtain ⟨a, us, rfl, hS, hl, hA⟩ := hx.tuple
      refine .inr ⟨a, us, es, rfl, SqT.of hS, hl, hA.dp, hs, fun ps p h1 h2 h3 h4 => q p _ h3 (by rw [List.length_map]; exact h4) ?_⟩
      rw [← h2]
      exact zip_dfAll fun w hw => dfAll_zip hA w (h1.mem_iff.mp hw)
    · cases hf
  · exact .inl (un_sort Γ σ H env ds R x d z hx hf Q q)
end
end DL

/-! Mk66: what the defs of the law mean. -/
namespace Lw
open PySem PySem.Spec L2 DL

def k_MOST_SIGNS : PyData := (.int 4)
def k_INPUTS : PyData := (.tuple [(.int 0), (.int 1)])
def k_MOST_FULL : PyData := (.int 3)
def m__law_draw : MS :=
  (mSeq (mSet 1 (mC (.int 7)))
  (mSeq (mFor (mScr 0) (tName 2) (mSet 1 (mOp fMod (mUn fInt (mOp fAdd (mOp fAdd (mOp fMul (mV 1) (mC (.int 48271))) (mOp fMod (mUn fAbs (mUn fInt (mV 2))) (mC (.int 65521)))) (mC (.int 1)))) (mC (.int 2147483647)))))
  (mRetF (mLst (mCons (mF (mComp [2] (mScr 0) (tName 2) mYes (mUn fAbs (mUn fInt (mV 2))))) (mCons (mUn fNeg (mC (.int 1))) (mCons (mC (.int 0)) (mCons (mV 1) mNil))))))))
def f__law_draw : FS := runB 3 1 true m__law_draw
def m__law_take : MS :=
  (mSeq (mIfS (mTst (mOp fEq (mDrw 0 2) (mC (.int 0)))) (mSeq (mDrwSet 0 1 (mOp fAdd (mDrw 0 1) (mC (.int 1))))
  (mSeq (mIfS (mTst (mOp fLt (mDrw 0 1) (mUn fLen (mDrw 0 0)))) (mDrwSet 0 2 (mOp fIx (mDrw 0 0) (mDrw 0 1))) mSkip)
  (mIfS (mTst (mOp fEq (mDrw 0 2) (mC (.int 0)))) (mSeq (mDrwSet 0 3 (mOp fMod (mUn fInt (mOp fAdd (mOp fMul (mDrw 0 3) (mC (.int 48271))) (mC (.int 11)))) (mC (.int 2147483647))))
  (mDrwSet 0 2 (mDrw 0 3))) mSkip))) mSkip)
  (mSeq (mSet 2 (mOp fMod (mUn fInt (mDrw 0 2)) (mV 1)))
  (mSeq (mDrwSet 0 2 (mOp fFdiv (mDrw 0 2) (mV 1)))
  (mRet (mV 2)))))
def f__law_take : FS := runB 3 2 false m__law_take
def m__law_two : MS :=
  (mRet (mOp fIx (mF (mLst (mCons (mC (.int 1)) (mCons (mC (.int 2)) (mCons (mC (.int 4)) (mCons (mC (.int 8)) (mCons (mC (.int 16)) mNil))))))) (mV 0)))
def f__law_two : FS := runB 1 1 false m__law_two
def m__law_rule : MS :=
  (mSeq (mSet 2 (mF (mComp [3] (mRng1 (mCall (chk 1 f__law_two) (axD (mOp fSub (mV 1) (mC (.int 1))) axNil))) (tName 3) mYes (mCall (chk 2 f__law_take) (axV 0 (axD (mC (.int 2)) axNil))))))
  (mSeq (mIfS (mTst (mOp fEq (mCall (chk 2 f__law_take) (axV 0 (axD (mC (.int 2)) axNil))) (mC (.int 0)))) (mRet (mUn fTuple (mOp fAdd (mV 2) (mF (mComp [4] (mItems (mV 2)) (tName 4) mYes (mOp fSub (mC (.int 1)) (mV 4))))))) mSkip)
  (mRet (mUn fTuple (mOp fAdd (mV 2) (mF (mComp [4] (mItems (mV 2)) (tName 4) mYes (mCall (chk 2 f__law_take) (axV 0 (axD (mC (.int 2)) axNil))))))))))
def f__law_rule : FS := runB 5 2 false m__law_rule
def m__law_rows : MS :=
  (mSeq (mSet 1 (mF (mLst (mCons (mTup mNil) mNil))))
  (mSeq (mFor (mRng1 (mV 0)) (tName 2) (mSet 1 (mOp fAdd (mF (mComp [3] (mItems (mV 1)) (tName 3) mYes (mOp fAdd (mV 3) (mTup (mCons (mC (.int 0)) mNil))))) (mF (mComp [3] (mItems (mV 1)) (tName 3) mYes (mOp fAdd (mV 3) (mTup (mCons (mC (.int 1)) mNil))))))))
  (mRet (mF (mUnF fSort (mV 1))))))
def f__law_rows : FS := runB 4 1 false m__law_rows
def m_is_whole : MS :=
  (mRet (mAndV (mIsi 0 (mV 0)) (mUn fNot (mIsi 1 (mV 0)))))
def f_is_whole : FS := runB 1 1 false m_is_whole
def m_is_number : MS :=
  (mRet (mAndV (mCall (chk 1 f_is_whole) (axD (mV 0) axNil)) (mChain fLe fLe (mC (.int 1)) (mV 0) (mV 1))))
def f_is_number : FS := runB 2 2 false m_is_number
def m_check_number : MS :=
  (mIfS (mNot (mTst (mCall (chk 2 f_is_number) (axD (mV 0) (axD (mV 1) axNil))))) (mRaise .malformed) mSkip)
def f_check_number : FS := runB 2 2 false m_check_number
def m_are_signs : MS :=
  (mRet (mAndV (mIsi 2 (mV 0)) (mUn fAll (mF (mComp [1] (mItems (mV 0)) (tName 1) mYes (mAndV (mCall (chk 1 f_is_whole) (axD (mV 1) axNil)) (mChain fLe fLe (mC (.int 0)) (mV 1) (mC (.int 1)))))))))
def f_are_signs : FS := runB 2 1 false m_are_signs
def m_power_of_two : MS :=
  (mRet (mOp fShl (mC (.int 1)) (mV 0)))
def f_power_of_two : FS := runB 1 1 false m_power_of_two
def m_is_rule : MS :=
  (mSeq (mDrop (mCall (chk 2 f_check_number) (axD (mV 0) (axD (mC k_MOST_SIGNS) axNil))))
  (mRet (mAndV (mCall (chk 1 f_are_signs) (axD (mV 1) axNil)) (mOp fEq (mUn fLen (mV 1)) (mCall (chk 1 f_power_of_two) (axD (mV 0) axNil))))))
def f_is_rule : FS := runB 2 2 false m_is_rule
def m_check_rule : MS :=
  (mIfS (mNot (mTst (mCall (chk 2 f_is_rule) (axD (mV 0) (axD (mV 1) axNil))))) (mRaise .malformed) mSkip)
def f_check_rule : FS := runB 2 2 false m_check_rule
def m_all_words : MS :=
  (mSeq (mSet 1 (mF (mLst (mCons (mTup mNil) mNil))))
  (mSeq (mFor (mRng1 (mV 0)) (tName 2) (mSet 1 (mF (mComp2 [3, 4] (mItems (mV 1)) (tName 3) mYes (mItems (mC k_INPUTS)) [4] (tName 4) mYes (mOp fAdd (mV 3) (mTup (mCons (mV 4) mNil)))))))
  (mRet (mV 1))))
def f_all_words : FS := runB 5 1 false m_all_words
def m_place_of : MS :=
  (mSeq (mSet 1 (mC (.int 0)))
  (mSeq (mFor (mItems (mV 0)) (tName 2) (mSet 1 (mOp fAdd (mOp fMul (mC (.int 2)) (mV 1)) (mV 2))))
  (mRet (mV 1))))
def f_place_of : FS := runB 3 1 false m_place_of
def m_next_word : MS :=
  (mRet (mOp fAdd (mSlice (mV 1) (mPart (mC (.int 1))) mNoPart) (mTup (mCons (mOp fIx (mV 0) (mCall (chk 1 f_place_of) (axD (mV 1) axNil))) mNil))))
def f_next_word : FS := runB 2 2 false m_next_word
def m_ring_of : MS :=
  (mSeq (mFor (mRng1 (mUn fLen (mV 0))) (tName 2) (mSet 1 (mCall (chk 2 f_next_word) (axD (mV 0) (axD (mV 1) axNil)))))
  (mSeq (mSetL 3 (mLst (mCons (mV 1) mNil)))
  (mSeq (mSet 4 (mCall (chk 2 f_next_word) (axD (mV 0) (axD (mV 1) axNil))))
  (mSeq (whileGo (mTst (mOp fNe (mV 4) (mV 1))) (mSeq (mApp 3 (mV 4))
  (mSet 4 (mCall (chk 2 f_next_word) (axD (mV 0) (axD (mV 4) axNil))))) 1000)
  (mRetL 3)))))
def f_ring_of : FS := runB 5 2 false m_ring_of
def m_found_rings : MS :=
  (mRet (mF (mUnF fSortSetN (mF (mComp [2] (mItems (mCall (chk 1 f_all_words) (axD (mV 0) axNil))) (tName 2) mYes (mUn fTuple (mF (mUnF fSort (mCall (chk 2 f_ring_of) (axD (mV 1) (axD (mV 2) axNil)))))))))))
def f_found_rings : FS := runB 3 2 false m_found_rings
def m_is_full_rule : MS :=
  (mSeq (mDrop (mCall (chk 2 f_check_rule) (axD (mV 0) (axD (mV 1) axNil))))
  (mRet (mOp fEq (mUn fLen (mOp fIx (mCall (chk 2 f_found_rings) (axD (mV 0) (axD (mV 1) axNil))) (mC (.int 0)))) (mCall (chk 1 f_power_of_two) (axD (mV 0) axNil)))))
def f_is_full_rule : FS := runB 2 2 false m_is_full_rule
def m_summing : MS :=
  (mRet (mUn fTuple (mF (mComp [2] (mItems (mCall (chk 1 f_all_words) (axD (mV 0) axNil))) (tName 2) mYes (mOp fMod (mUn fInt (mUn fSum (mF (mComp [3] (mItems (mV 1)) (tName 3) mYes (mOp fIx (mV 2) (mV 3)))))) (mC (.int 2)))))))
def f_summing : FS := runB 4 2 false m_summing
def m_places_of : MS :=
  (mSeq (mSet 1 (mF (mLst (mCons (mTup mNil) mNil))))
  (mSeq (mFor (mRng1 (mV 0)) (tName 2) (mSet 1 (mOp fAdd (mV 1) (mF (mComp [3] (mItems (mV 1)) (tName 3) mYes (mOp fAdd (mV 3) (mTup (mCons (mV 2) mNil))))))))
  (mRet (mV 1))))
def f_places_of : FS := runB 4 1 false m_places_of
def m_is_wide : MS :=
  (mSeq (mDrop (mCall (chk 2 f_check_rule) (axD (mV 0) (axD (mV 1) axNil))))
  (mSeq (mIfS (mTst (mOp fNotIn (mV 1) (mF (mComp [2] (mItems (mCall (chk 1 f_places_of) (axD (mV 0) axNil))) (tName 2) mYes (mCall (chk 2 f_summing) (axD (mV 0) (axD (mV 2) axNil))))))) (mRet (mC (.bool false))) mSkip)
  (mRet (mUn fAny (mF (mComp [3] (mItems (mCall (chk 2 f_found_rings) (axD (mV 0) (axD (mV 1) axNil)))) (tName 3) mYes (mAndV (mOp fEq (mUn fLen (mV 3)) (mOp fSub (mCall (chk 1 f_power_of_two) (axD (mV 0) axNil)) (mC (.int 1)))) (mOp fNotIn (mOp fMulA (mTup (mCons (mC (.int 0)) mNil)) (mV 0)) (mV 3)))))))))
def f_is_wide : FS := runB 4 2 false m_is_wide
def m_found_turnable : MS :=
  (mSeq (mSet 2 (mCall (chk 1 f_power_of_two) (axD (mOp fSub (mV 0) (mC (.int 1))) axNil)))
  (mRet (mUn fAll (mF (mComp [3] (mRng1 (mV 2)) (tName 3) mYes (mOp fNe (mOp fIx (mV 1) (mV 3)) (mOp fIx (mV 1) (mOp fAdd (mV 3) (mV 2)))))))))
def f_found_turnable : FS := runB 4 2 false m_found_turnable
def m_full_rules : MS :=
  (mSeq (mDrop (mCall (chk 2 f_check_number) (axD (mV 0) (axD (mC k_MOST_FULL) axNil))))
  (mSeq (mSetL 1 (mLst mNil))
  (mSeq (mFor (mItems (mCall (chk 1 f_all_words) (axD (mCall (chk 1 f_power_of_two) (axD (mV 0) axNil)) axNil))) (tName 2) (mIfS (mAnd (mTst (mCall (chk 2 f_found_turnable) (axD (mV 0) (axD (mV 2) axNil)))) (mTst (mOp fEq (mUn fLen (mCall (chk 2 f_found_rings) (axD (mV 0) (axD (mV 2) axNil)))) (mC (.int 1))))) (mApp 1 (mV 2)) mSkip))
  (mRet (mUn fTuple (mVp 1))))))
def f_full_rules : FS := runB 3 1 false m_full_rules
def m__law_told : MS :=
  (mTry (fun _ => true) (mRet (mCall (chk 1 f_full_rules) (axD (mV 0) axNil))) (mRet (mC (.str "<malformed>"))))
def f__law_told : FS := runB 1 1 false m__law_told
def m_linear_rule : MS :=
  (mSeq (mDrop (mCall (chk 2 f_check_number) (axD (mV 0) (axD (mC k_MOST_SIGNS) axNil))))
  (mSeq (mIfS (mOr (mNot (mTst (mIsi 2 (mV 1)))) (mNot (mTst (mUn fAll (mF (mComp [2] (mItems (mV 1)) (tName 2) mYes (mAndV (mCall (chk 1 f_is_whole) (axD (mV 2) axNil)) (mChain fLe fLt (mC (.int 0)) (mV 2) (mV 0))))))))) (mRaise .malformed) mSkip)
  (mSeq (mIfS (mNot (mTst (mUn fAll (mF (mComp [3, 4] (mOpF fZipW (mV 1) (mSlice (mV 1) (mPart (mC (.int 1))) mNoPart)) (tTup 2 (tConsT (tName 3) (tConsT (tName 4) tNilT))) mYes (mOp fLtA (mV 3) (mV 4))))))) (mRaise .malformed) mSkip)
  (mRet (mCall (chk 2 f_summing) (axD (mV 0) (axD (mV 1) axNil)))))))
def f_linear_rule : FS := runB 5 2 false m_linear_rule
def m__law_next : MS :=
  (mSeq (mSet 2 (mC (.int 0)))
  (mSeq (mFor (mItems (mV 1)) (tName 3) (mSet 2 (mOp fAdd (mOp fMul (mC (.int 2)) (mV 2)) (mV 3))))
  (mRet (mOp fAdd (mSlice (mV 1) (mPart (mC (.int 1))) mNoPart) (mTup (mCons (mOp fIx (mV 0) (mV 2)) mNil))))))
def f__law_next : FS := runB 4 2 false m__law_next
def m__law_rings : MS :=
  (mSeq (mSetL 2 (mLst mNil))
  (mSeq (mFor (mItems (mCall (chk 1 f__law_rows) (axD (mV 0) axNil))) (tName 3) (mSeq (mParLD 4 5 (mLst (mCons (mV 3) mNil)) (mCall (chk 2 f__law_next) (axD (mV 1) (axD (mV 3) axNil))))
  (mSeq (mFor (mRng1 (mC (.int 16))) (tName 6) (mIfS (mTst (mOp fNotIn (mV 5) (mVp 4))) (mSeq (mApp 4 (mV 5))
  (mSet 5 (mCall (chk 2 f__law_next) (axD (mV 1) (axD (mV 5) axNil))))) mSkip))
  (mIfS (mTst (mOp fEq (mV 5) (mV 3))) (mApp 2 (mUn fTuple (mF (mUnF fSort (mVp 4))))) mSkip))))
  (mRet (mF (mUnF fSortSetN (mVp 2))))))
def f__law_rings : FS := runB 7 2 false m__law_rings
def m_law : MS :=
  (mDraw 1 (mCallF (chk 1 f__law_draw) (axV 0 axNil))
  (mSeq (mSet 2 (mOp fAdd (mC (.int 1)) (mCall (chk 2 f__law_take) (axV 1 (axD (mC (.int 3)) axNil)))))
  (mSeq (mSet 3 (mF (mComp [5] (mItems (mCall (chk 1 f__law_rows) (axD (mCall (chk 1 f__law_two) (axD (mV 2) axNil)) axNil))) (tName 5) (mTst (mOp fEq (mF (mComp [10] (mItems (mCall (chk 2 f__law_rings) (axD (mV 2) (axD (mV 5) axNil)))) (tName 10) mYes (mUn fLen (mV 10)))) (mF (mLst (mCons (mCall (chk 1 f__law_two) (axD (mV 2) axNil)) mNil))))) (mV 5))))
  (mSeq (mIfS (mOr (mTst (mOp fNe (mUn fRepr (mCall (chk 1 f_full_rules) (axD (mV 2) axNil))) (mUn fRepr (mUn fTuple (mV 3))))) (mOr (mTst (mOp fNe (mUn fLen (mV 3)) (mOp fIx (mF (mLst (mCons (mC (.int 1)) (mCons (mC (.int 1)) (mCons (mC (.int 2)) mNil))))) (mOp fSub (mV 2) (mC (.int 1)))))) (mNot (mTst (mUn fAll (mF (mComp [5] (mItems (mV 3)) (tName 5) mYes (mCall (chk 2 f_is_full_rule) (axD (mV 2) (axD (mV 5) axNil)))))))))) (mRet (mC (.bool false))) mSkip)
  (mSeq (mFor (mRng1 (mC (.int 6))) (tName 4) (mSeq (mSet 5 (mCall (chk 2 f__law_rule) (axV 1 (axD (mV 2) axNil))))
  (mIfS (mTst (mOp fNe (mCall (chk 2 f_is_full_rule) (axD (mV 2) (axD (mV 5) axNil))) (mOp fIn (mV 5) (mV 3)))) (mRet (mC (.bool false))) mSkip)))
  (mSeq (mAsg (tTup 2 (tConsT (tName 6) (tConsT (tName 7) tNilT))) (mTup (mCons (mOp fAdd (mC (.int 1)) (mCall (chk 2 f__law_take) (axV 1 (axD (mC (.int 4)) axNil)))) (mCons (mF (mLst (mCons (mTup mNil) mNil))) mNil))))
  (mSeq (mFor (mRng1 (mV 6)) (tName 8) (mSet 7 (mOp fAdd (mV 7) (mF (mComp [11] (mItems (mV 7)) (tName 11) mYes (mOp fAdd (mV 11) (mTup (mCons (mV 8) mNil))))))))
  (mSeq (mSet 9 (mF (mComp [12] (mItems (mV 7)) (tName 12) (mTst (mCall (chk 2 f_is_wide) (axD (mV 6) (axD (mCall (chk 2 f_linear_rule) (axD (mV 6) (axD (mUn fTuple (mF (mUnF fSortA (mV 12)))) axNil))) axNil)))) (mV 12))))
  (mSeq (mIfS (mTst (mOp fNe (mUn fLen (mV 9)) (mOp fIx (mF (mLst (mCons (mC (.int 1)) (mCons (mC (.int 1)) (mCons (mC (.int 2)) (mCons (mC (.int 2)) mNil)))))) (mOp fSub (mV 6) (mC (.int 1)))))) (mRet (mC (.bool false))) mSkip)
  (mRet (mOp fEq (mF (mComp [13] (mItems (mF (mLst (mCons (mC .none) (mCons (mC (.int 0)) (mCons (mC (.int 4)) (mCons (mC (.bool true)) (mCons (mC (.str "1")) mNil)))))))) (tName 13) mYes (mCall (chk 1 f__law_told) (axD (mV 13) axNil)))) (mOp fMul (mF (mLst (mCons (mC (.str "<malformed>")) mNil))) (mC (.int 5))))))))))))))
def f_law : FS := runB 14 1 false m_law
end Lw

/-! DT1: the typed layer: computations on plain values, and that a meaning computes what they do. -/
namespace DL
open PySem PySem.Spec L2
open PyProof.Rows hiding St

abbrev TM (α : Type) := DS → Rz α
def Out.map {α β : Type} (f : α → β) : Out α → Out β
  | .ok a => .ok (f a)
  | .exc x => .exc x
namespace TM
variable {α β γ : Type}
def pure (x : α) : TM α := fun ds => some (.ok x, ds)
def bind (a : TM α) (f : α → TM β) : TM β := fun ds => (a ds).bind f
def lift (x : Option α) : TM α := fun ds => match x with
  | some a => some (.ok a, ds)
  | none => none
def raise (e : Exn) : TM α := fun ds => some (.exc e, ds)
def fail : TM α := fun _ => none
def noex (t : TM α) : TM α := fun ds => match t ds with
  | some (.ok x, ds') => some (.ok x, ds')
  | _ => none
def tlet (x : α) (f : α → TM β) : TM β := f x
@[simp] theorem pure_bind (x : α) (f : α → TM β) : (pure x).bind f = f x := id rfl
@[simp] theorem raise_bind (x : Exn) (f : α → TM β) : (raise x).bind f = raise x := rfl
@[simp] theorem fail_bind (f : α → TM β) : fail.bind f = fail := rfl
@[simp] theorem lift_some (x : α) : lift (some x) = pure x := id rfl
@[simp] theorem lift_none : lift (none : Option α) = fail := rfl
@[simp] theorem noex_pure (x : α) : noex (pure x) = pure x := rfl
@[simp] theorem tlet_eq (x : α) (f : α → TM β) : tlet x f = f x := rfl
@[simp] theorem bind_pure (a : TM α) : a.bind pure = a := by
  funext ds
  show (a ds).bind _ = _
  rcases a ds with _ | ⟨_ | _, _⟩ <;> rfl
@[simp] theorem bind_assoc (a : TM α) (f : α → TM β) (g : β → TM γ) : (a.bind f).bind g = a.bind fun x => (f x).bind g := by
  funext ds
  show ((a ds).bind f).bind g = (a ds).bind fun x ds => (f x ds).bind g
  rcases a ds with _ | ⟨_ | _, _⟩ <;> rfl
def forT {L : Type} (f : L → α → TM L) : List α → L → TM L
  | [], l => pure l
  | x :: r, l => (f l x).bind (forT f r)
def forB {L R : Type} (f : L → α → TM (L ⊕ R)) : List α → L → TM (L ⊕ R)
  | [], l => pure (.inl l)
  | x :: r, l => (f l x).bind fun o => match o with
    | .inl l' => forB f r l'
    | .inr y => pure (.inr y)
def whileT {L : Type} (c : L → TM Bool) (b : L → TM L) : Nat → L → TM L
  | 0, _ => fail
  | n + 1, l => (c l).bind fun k => if k then (b l).bind (whileT c b n) else pure l
def whileB {L R : Type} (c : L → TM Bool) (b : L → TM (L ⊕ R)) : Nat → L → TM (L ⊕ R)
  | 0, _ => fail
  | n + 1, l => (c l).bind fun k => if k then (b l).bind fun o => match o with
    | .inl l' => whileB c b n l'
    | .inr y => pure (.inr y)
    else pure (.inl l)
/-- the comprehension of one clause -/
def compM (p : α → TM Bool) (g : α → TM β) : List α → TM (List β)
  | [] => pure []
  | x :: r => (noex (p x)).bind fun k => if k then (noex (g x)).bind fun y => (compM p g r).bind fun ys => pure (y :: ys) else compM p g r
@[irreducible] def compL (p : α → TM Bool) (g : α → TM β) (xs : List α) : TM (List β) := if xs.length ≤ 16777216 then compM p g xs else fail
@[irreducible] def compV (p : α → Bool) (g : α → β) (xs : List α) : TM (List β) := if xs.length ≤ 16777216 then pure ((xs.filter p).map g) else fail
/-- behind what goes on or returns -/
def bindB {L R : Type} (t : TM (L ⊕ R)) (tl : L → TM γ) (g : R → γ) : TM γ := t.bind fun o => match o with
  | .inl l => tl l
  | .inr r => pure (g r)
@[simp] theorem bindB_inl {L R : Type} (l : L) (tl : L → TM γ) (g : R → γ) : bindB (pure (.inl l)) tl g = tl l := rfl
@[simp] theorem bindB_inr {L R : Type} (r : R) (tl : L → TM γ) (g : R → γ) : bindB (pure (.inr r)) tl g = pure (g r) := rfl
def tryT {R : Type} (k : Exn → Bool) (t : TM R) (h : TM R) : TM R := fun ds => match t ds with
  | some (.exc x, ds') => if k x then h ds' else some (.exc x, ds')
  | r => r
theorem compM_pure {p : α → TM Bool} {g : α → TM β} {p' : α → Bool} {g' : α → β} : ∀ {xs : List α}, (∀ x ∈ xs, p x = pure (p' x)) → (∀ x ∈ xs, p' x = true → g x = pure (g' x)) → compM p g xs = pure ((xs.filter p').map g')
  | [], _, _ => rfl
  | x :: r, hp, hg => by
    unfold compM
    rw [hp x List.mem_cons_self, noex_pure, pure_bind, compM_pure (fun y hy => hp y (List.mem_cons_of_mem _ hy)) (fun y hy => hg y (List.mem_cons_of_mem _ hy)), List.filter_cons]
    cases h : p' x with
    | true => rw [if_pos rfl, if_pos rfl, hg x List.mem_cons_self h, noex_pure, pure_bind, pure_bind]; rfl
    | false => rw [if_neg Bool.false_ne_true, if_neg Bool.false_ne_true]
theorem compL_pure {p : α → TM Bool} {g : α → TM β} {p' : α → Bool} {g' : α → β} {xs : List α} (hl : xs.length ≤ 16777216) (hp : ∀ x ∈ xs, p x = pure (p' x)) (hg : ∀ x ∈ xs, p' x = true → g x = pure (g' x)) : compL p g xs = pure ((xs.filter p').map g') := by
  unfold compL
  rw [if_pos hl]
  exact compM_pure hp hg
theorem compL_map {g : α → TM β} {g' : α → β} {xs : List α} (hl : xs.length ≤ 16777216) (hg : ∀ x ∈ xs, g x = pure (g' x)) : compL (fun _ => pure true) g xs = pure (xs.map g') := by
  rw [compL_pure (p' := fun _ => true) hl (fun _ _ => rfl) fun x hx _ => hg x hx, List.filter_eq_self.mpr fun _ _ => rfl]
theorem compV_eq {p : α → Bool} {g : α → β} {xs : List α} (hl : xs.length ≤ 16777216) : compV p g xs = pure ((xs.filter p).map g) := by
  unfold compV
  rw [if_pos hl]
theorem compV_map {g : α → β} {xs : List α} (hl : xs.length ≤ 16777216) : compV (fun _ => true) g xs = pure (xs.map g) := by
  rw [compV_eq hl, List.filter_eq_self.mpr fun _ _ => rfl]
/-- a loop by its state behind i turns -/
theorem forT_eq {L : Type} {f : L → α → TM L} (F : Nat → L) : ∀ (xs : List α) (k : Nat), (∀ i x, xs[i]? = some x → f (F (k + i)) x = pure (F (k + i + 1))) → forT f xs (F k) = pure (F (k + xs.length))
  | [], k, _ => rfl
  | x :: r, k, h => by
    unfold forT
    have h0 := h 0 x rfl
    rw [Nat.add_zero] at h0
    rw [h0, pure_bind, forT_eq F r (k + 1) (fun i y hy => by
      have q := h (i + 1) y hy
      rw [show k + (i + 1) = k + 1 + i by omega] at q
      exact q), List.length_cons, show k + 1 + r.length = k + (r.length + 1) by omega]
theorem forT_inv {L : Type} {f : L → α → TM L} {I : Nat → L → Prop} : ∀ (xs : List α) (k : Nat) (l : L), (∀ i x l, xs[i]? = some x → I (k + i) l → ∃ l', f l x = pure l' ∧ I (k + i + 1) l') → I k l → ∃ l', forT f xs l = pure l' ∧ I (k + xs.length) l'
  | [], k, l, _, hI => ⟨l, rfl, hI⟩
  | x :: r, k, l, h, hI => by
    obtain ⟨l1, h1, h2⟩ := h 0 x l rfl hI
    obtain ⟨l', h3, h4⟩ := forT_inv (I := I) r (k + 1) l1 (fun i y l hy hi => by
      have q := h (i + 1) y l hy (by rw [show k + (i + 1) = k + 1 + i by omega]; exact hi)
      rw [show k + (i + 1) + 1 = k + 1 + i + 1 by omega] at q
      exact q) h2
    refine ⟨l', ?_, by rw [List.length_cons, show k + (r.length + 1) = k + 1 + r.length by omega]; exact h4⟩
    unfold forT
    rw [h1, pure_bind, h3]
/-- a loop is a fold where each turn is pure -/
theorem forT_fold {L : Type} {f : L → α → TM L} {g : L → α → L} {P : L → Prop} : ∀ (xs : List α) (l : L), P l → (∀ l, ∀ x ∈ xs, P l → f l x = pure (g l x) ∧ P (g l x)) → forT f xs l = pure (xs.foldl g l) ∧ P (xs.foldl g l)
  | [], l, hp, _ => ⟨rfl, hp⟩
  | x :: r, l, hp, h => by
    unfold forT
    obtain ⟨h1, h2⟩ := h l x List.mem_cons_self hp
    rw [h1, pure_bind]
    exact forT_fold r (g l x) h2 fun l y hy => h l y (List.mem_cons_of_mem _ hy)
/-- a while loop, by a measure -/
theorem whileT_inv {L : Type} {c : L → TM Bool} {b : L → TM L} {I : L → Prop} {Post : L → Prop} (μ : L → Nat) (h : ∀ l, I l → (c l = pure false ∧ Post l) ∨ ∃ l', c l = pure true ∧ b l = pure l' ∧ μ l' < μ l ∧ I l') : ∀ (n : Nat) (l : L), μ l < n → I l → ∃ l', whileT c b n l = pure l' ∧ Post l'
  | 0, _, hk, _ => absurd hk (Nat.not_lt_zero _)
  | n + 1, l, hk, hI => by
    rcases h l hI with ⟨h1, h2⟩ | ⟨l', h1, h2, h3, h4⟩
    · exact ⟨l, by unfold whileT; rw [h1, pure_bind]; rfl, h2⟩
    · obtain ⟨l2, k1, k2⟩ := whileT_inv μ h n l' (by omega) h4
      exact ⟨l2, by unfold whileT; rw [h1, pure_bind, if_pos rfl, h2, pure_bind, k1], k2⟩
/-- a while loop with returns, by a measure -/
theorem whileB_inv {L R : Type} {c : L → TM Bool} {b : L → TM (L ⊕ R)} {I : L → Prop} {Post : L ⊕ R → Prop} (μ : L → Nat) (h : ∀ l, I l → (c l = pure false ∧ Post (.inl l)) ∨ (∃ l', c l = pure true ∧ b l = pure (.inl l') ∧ μ l' < μ l ∧ I l') ∨ ∃ r, c l = pure true ∧ b l = pure (.inr r) ∧ Post (.inr r)) : ∀ (n : Nat) (l : L), μ l < n → I l → ∃ o, whileB c b n l = pure o ∧ Post o
  | 0, _, hk, _ => absurd hk (Nat.not_lt_zero _)
  | n + 1, l, hk, hI => by
    rcases h l hI with ⟨h1, h2⟩ | ⟨l', h1, h2, h3, h4⟩ | ⟨r, h1, h2, h3⟩
    · exact ⟨.inl l, by unfold whileB; rw [h1, pure_bind]; rfl, h2⟩
    · obtain ⟨l2, k1, k2⟩ := whileB_inv μ h n l' (by omega) h4
      exact ⟨l2, by unfold whileB; rw [h1, pure_bind, if_pos rfl, h2, pure_bind]; exact k1, k2⟩
    · exact ⟨.inr r, by unfold whileB; rw [h1, pure_bind, if_pos rfl, h2, pure_bind], h3⟩
theorem forB_inv {L R : Type} {f : L → α → TM (L ⊕ R)} {I : Nat → L → Prop} {Q : R → Prop} : ∀ (xs : List α) (k : Nat) (l : L), (∀ i x l, xs[i]? = some x → I (k + i) l → (∃ l', f l x = pure (.inl l') ∧ I (k + i + 1) l') ∨ ∃ r, f l x = pure (.inr r) ∧ Q r) → I k l → (∃ l', forB f xs l = pure (.inl l') ∧ I (k + xs.length) l') ∨ ∃ r, forB f xs l = pure (.inr r) ∧ Q r
  | [], k, l, _, hI => .inl ⟨l, rfl, hI⟩
  | x :: r, k, l, h, hI => by
    unfold forB
    rcases h 0 x l rfl hI with ⟨l1, h1, h2⟩ | ⟨y, h1, h2⟩
    · rw [h1, pure_bind]
      rcases forB_inv (I := I) (Q := Q) r (k + 1) l1 (fun i y l hy hi => by
        have q := h (i + 1) y l hy (by rw [show k + (i + 1) = k + 1 + i by omega]; exact hi)
        rw [show k + (i + 1) + 1 = k + 1 + i + 1 by omega] at q
        exact q) h2 with ⟨l', h3, h4⟩ | q
      · exact .inl ⟨l', h3, by rw [List.length_cons, show k + (r.length + 1) = k + 1 + r.length by omega]; exact h4⟩
      · exact .inr q
    · rw [h1, pure_bind]
      exact .inr ⟨y, rfl, h2⟩
end TM
/-- what a computation that may draw gives, where the draw can go on -/
def Gives {α : Type} (t : TM α) (P : α → Prop) (I : DS → Prop) : Prop := ∀ ds, I ds → ∃ x ds', t ds = some (.ok x, ds') ∧ I ds' ∧ P x
section
variable {α β L : Type} {I : DS → Prop} {P : α → Prop} {Q : β → Prop}
theorem Gives.pure {x : α} (h : P x) : Gives (TM.pure x) P I := fun ds hI => ⟨x, ds, rfl, hI, h⟩
theorem Gives.bind {t : TM α} {f : α → TM β} (h : Gives t P I) (hf : ∀ x, P x → Gives (f x) Q I) : Gives (t.bind f) Q I := fun ds hI => by
  obtain ⟨x, ds1, h1, h2, h3⟩ := h ds hI
  obtain ⟨y, ds2, h4, h5, h6⟩ := hf x h3 ds1 h2
  refine ⟨y, ds2, ?_, h5, h6⟩
  show (t ds).bind f = _
  rw [h1]
  exact h4
theorem Gives.imp {t : TM α} {P' : α → Prop} (h : Gives t P I) (f : ∀ x, P x → P' x) : Gives t P' I := fun ds hI => by
  obtain ⟨x, ds1, h1, h2, h3⟩ := h ds hI
  exact ⟨x, ds1, h1, h2, f x h3⟩
theorem Gives.of_eq {t t' : TM α} (e : t = t') (h : Gives t' P I) : Gives t P I := e ▸ h
theorem Gives.for {f : L → α → TM L} {J : Nat → L → Prop} : ∀ (xs : List α) (k : Nat) (l : L), (∀ i x l, xs[i]? = some x → J (k + i) l → Gives (f l x) (J (k + i + 1)) I) → J k l → Gives (TM.forT f xs l) (J (k + xs.length)) I
  | [], k, l, _, hJ => Gives.pure hJ
  | x :: r, k, l, h, hJ => by
    unfold TM.forT
    refine Gives.bind (h 0 x l rfl hJ) fun l' hl' => ?_
    rw [List.length_cons, show k + (r.length + 1) = k + 1 + r.length by omega]
    exact Gives.for r (k + 1) l' (fun i y l hy hi => by
      have q := h (i + 1) y l hy (by rw [show k + (i + 1) = k + 1 + i by omega]; exact hi)
      rw [show k + (i + 1) + 1 = k + 1 + i + 1 by omega] at q
      exact q) hl'
/-- a loop with returns that does not return -/
theorem Gives.forB {R : Type} {f : L → α → TM (L ⊕ R)} {J : Nat → L → Prop} : ∀ (xs : List α) (k : Nat) (l : L), (∀ i x l, xs[i]? = some x → J (k + i) l → Gives (f l x) (fun o => ∃ l', o = .inl l' ∧ J (k + i + 1) l') I) → J k l → Gives (TM.forB f xs l) (fun o => ∃ l', o = .inl l' ∧ J (k + xs.length) l') I
  | [], k, l, _, hJ => Gives.pure ⟨l, rfl, hJ⟩
  | x :: r, k, l, h, hJ => by
    unfold TM.forB
    refine Gives.bind (h 0 x l rfl hJ) fun o ⟨l', e, hl'⟩ => ?_
    subst e
    rw [List.length_cons, show k + (r.length + 1) = k + 1 + r.length by omega]
    exact Gives.forB r (k + 1) l' (fun i y l hy hi => by
      have q := h (i + 1) y l hy (by rw [show k + (i + 1) = k + 1 + i by omega]; exact hi)
      rw [show k + (i + 1) + 1 = k + 1 + i + 1 by omega] at q
      exact q) hl'
theorem Gives.noex {t : TM α} (h : Gives t P I) : Gives t.noex P I := fun ds hI => by
  obtain ⟨x, ds1, h1, h2, h3⟩ := h ds hI
  exact ⟨x, ds1, by unfold TM.noex; rw [h1], h2, h3⟩
/-- a comprehension that draws -/
theorem Gives.comp {g : α → TM β} {P : α → β → Prop} : ∀ (xs : List α), (∀ x ∈ xs, Gives (g x) (P x) I) → Gives (TM.compM (fun _ => TM.pure true) g xs) (fun ys => Paired P xs ys) I
  | [], _ => Gives.pure .nil
  | x :: r, h => by
    unfold TM.compM
    rw [TM.noex_pure, TM.pure_bind, if_pos rfl]
    exact Gives.bind (Gives.noex (h x List.mem_cons_self)) fun y hy => Gives.bind (Gives.comp r fun z hz => h z (List.mem_cons_of_mem _ hz)) fun ys hys => Gives.pure (.cons hy hys)
theorem Gives.compL {g : α → TM β} {P : α → β → Prop} {xs : List α} (hl : xs.length ≤ 16777216) (h : ∀ x ∈ xs, Gives (g x) (P x) I) : Gives (TM.compL (fun _ => TM.pure true) g xs) (fun ys => Paired P xs ys) I := by
  unfold TM.compL
  rw [if_pos hl]
  exact Gives.comp xs h
end
end DL

/-! DT2: a meaning computes what a typed computation does: expressions. -/
namespace DL
open PySem PySem.Spec L2
open PyProof.Rows hiding St

/-! ### what is known of the slots -/
def frS (x : Sl) : Prop := x = .un ∨ ∃ d, x = .d d
def opS : Sl → Prop
  | .lk _ => False
  | .drw => False
  | .scr _ => False
  | _ => True
inductive Kn where
  | v (s : Sl)
  | j
  | jl
def KnS : Kn → Sl → Prop
  | .v s, x => x = s
  | .j, x => frS x
  | .jl, x => opS x
inductive KnR : List Kn → Ev → Prop
  | nil : KnR [] []
  | cons {k : Kn} {s : Sl} {ks : List Kn} {env : Ev} : KnS k s → KnR ks env → KnR (k :: ks) (s :: env)
def kn : List Kn → Nat → Option Kn
  | [], _ => none
  | k :: _, 0 => some k
  | _ :: ks, n + 1 => kn ks n
def kset : List Kn → Nat → Kn → List Kn
  | [], _, _ => []
  | _ :: ks, 0, x => x :: ks
  | k :: ks, n + 1, x => k :: kset ks n x
def setOk (ks : List Kn) (i : Nat) : Bool := match kn ks i with
  | some (.v (.lk _)) => false
  | some _ => true
  | none => false
section
variable {ks ks' : List Kn} {env : Ev}
theorem KnR.get : ∀ {ks : List Kn} {env : Ev} {i : Nat} {k : Kn}, KnR ks env → kn ks i = some k → ∃ s, env[i]? = some s ∧ KnS k s
  | _, _, _, _, .nil, h => nomatch h
  | _, _, 0, _, .cons h _, e => by cases e; exact ⟨_, rfl, h⟩
  | _, _, i + 1, _, .cons _ r, e => KnR.get (i := i) r e
theorem KnR.at (h : KnR ks env) {i : Nat} {s : Sl} (e : kn ks i = some (.v s)) : env[i]? = some s := by
  obtain ⟨x, h1, h2⟩ := h.get e
  have : x = s := h2
  rw [h1, this]
theorem KnR.set : ∀ {ks : List Kn} {env : Ev} (i : Nat) (x : Sl), KnR ks env → KnR (kset ks i (.v x)) (env.set i x)
  | _, _, _, _, .nil => .nil
  | _, _, 0, _, .cons _ r => .cons rfl r
  | _, _, i + 1, x, .cons h r => .cons h (KnR.set i x r)
theorem KnR.put (h : KnR ks env) {i : Nat} {x : Sl} (hs : setOk ks i = true) : ∃ env', DL.put i x env = some env' ∧ KnR (kset ks i (.v x)) env' := by
  unfold setOk at hs
  cases hk : kn ks i with
  | none => rw [hk] at hs; cases hs
  | some k =>
    rw [hk] at hs
    obtain ⟨s, h1, h2⟩ := h.get hk
    have hl := (List.getElem?_eq_some_iff.mp h1).1
    refine ⟨_, ?_, h.set i x⟩
    unfold DL.put notLk
    rw [h1, decide_eq_true hl]
    cases k with
    | v y =>
      have : s = y := h2
      subst this
      cases s <;> first | rfl | (cases hs)
    | j => rcases h2 with rfl | ⟨d, rfl⟩ <;> rfl
    | jl => cases s <;> first | rfl | (exact h2.elim)
theorem KnR.self : ∀ l : Ev, KnR (l.map .v) l
  | [] => .nil
  | x :: r => .cons rfl (KnR.self r)
inductive KLe : Kn → Kn → Prop
  | r {k : Kn} : KLe k k
  | d {x : PyData} : KLe (.v (.d x)) .j
  | u : KLe (.v .un) .j
  | l {xs : List PyData} : KLe (.v (.l xs)) .jl
  | dl {x : PyData} : KLe (.v (.d x)) .jl
  | ul : KLe (.v .un) .jl
  | c {t : Bool} {kvs : List (List Int × PyData)} : KLe (.v (.dc t kvs)) .jl
  | jj : KLe .j .jl
inductive LeK : List Kn → List Kn → Prop
  | nil : LeK [] []
  | cons {a b : Kn} {as bs : List Kn} : KLe a b → LeK as bs → LeK (a :: as) (b :: bs)
theorem KLe.ok {a b : Kn} (h : KLe a b) {s : Sl} (q : KnS a s) : KnS b s := by
  cases h with
  | r => exact q
  | d => exact .inr ⟨_, q⟩
  | u => exact .inl q
  | l => have e : s = _ := q; subst e; trivial
  | dl => have e : s = _ := q; subst e; trivial
  | ul => have e : s = _ := q; subst e; trivial
  | c => have e : s = _ := q; subst e; trivial
  | jj => rcases q with rfl | ⟨d, rfl⟩ <;> trivial
theorem LeK.ok : ∀ {as bs : List Kn} {env : Ev}, LeK as bs → KnR as env → KnR bs env
  | _, _, _, .nil, .nil => .nil
  | _, _, _, .cons h t, .cons q r => .cons (h.ok q) (LeK.ok t r)
theorem LeK.refl : ∀ ks : List Kn, LeK ks ks
  | [] => .nil
  | _ :: r => .cons .r (LeK.refl r)
/-- slots wiped -/
def wipeK (ks : List Kn) : List Nat → Option (List Kn)
  | [] => some ks
  | v :: vs => (wipeK ks vs).bind fun k => match kn k v with
    | some .j => some (kset k v (.v .un))
    | some (.v .un) => some (kset k v (.v .un))
    | some (.v (.d _)) => some (kset k v (.v .un))
    | _ => none
theorem wipeK_ok : ∀ {vs : List Nat} {k1 : List Kn}, KnR ks env → wipeK ks vs = some k1 → ∃ env1, wipeE env vs = some env1 ∧ KnR k1 env1
  | [], k1, h, e => by cases e; exact ⟨_, rfl, h⟩
  | v :: vs, k1, h, e => by
    unfold wipeK at e
    cases hw : wipeK ks vs with
    | none => rw [hw] at e; cases e
    | some k =>
      rw [hw] at e
      obtain ⟨env1, h1, h2⟩ := wipeK_ok h hw
      refine ⟨env1.set v .un, ?_, ?_⟩
      · unfold wipeE
        rw [h1]
        show (match env1[v]? with | some (.l _) => none | some (.lk _) => none | some (.dc _ _) => none | _ => some (env1.set v .un)) = _
        change (match kn k v with | some .j => _ | some (.v .un) => _ | some (.v (.d _)) => _ | _ => none) = some k1 at e
        cases hk : kn k v with
        | none => rw [hk] at e; cases e
        | some z =>
          obtain ⟨s, q1, q2⟩ := h2.get hk
          rw [q1]
          rw [hk] at e
          cases z with
          | v y =>
            have : s = y := q2
            subst this
            cases s <;> first | rfl | (cases e)
          | j => rcases q2 with rfl | ⟨d, rfl⟩ <;> rfl
          | jl => cases e
      · change (match kn k v with | some .j => some (kset k v (.v .un)) | some (.v .un) => some (kset k v (.v .un)) | some (.v (.d _)) => some (kset k v (.v .un)) | _ => none) = some k1 at e
        have : k1 = kset k v (.v .un) := by
          split at e <;> cases e <;> rfl
        rw [this]
        exact h2.set v .un
/-- a target stores -/
def TgK (t : Tg) (d : PyData) (ks ks' : List Kn) : Prop := ∀ env, KnR ks env → ∃ env', t d env = some env' ∧ KnR ks' env'
def TgsK (t : Tgs) (ds : List PyData) (ks ks' : List Kn) : Prop := ∀ env, KnR ks env → ∃ env', t ds env = some env' ∧ KnR ks' env'
theorem tk_name {i : Nat} {d : PyData} (h : setOk ks i = true) : TgK (tName i) d ks (kset ks i (.v (.d d))) := fun env hk => hk.put h
theorem tks_nil : TgsK tNilT [] ks ks := fun env hk => ⟨env, rfl, hk⟩
theorem tks_cons {t : Tg} {ts : Tgs} {d : PyData} {ds : List PyData} {k1 k2 : List Kn} (h1 : TgK t d ks k1) (h2 : TgsK ts ds k1 k2) : TgsK (tConsT t ts) (d :: ds) ks k2 := fun env hk => by
  obtain ⟨e1, q1, q2⟩ := h1 env hk
  obtain ⟨e2, q3, q4⟩ := h2 e1 q2
  refine ⟨e2, ?_, q4⟩
  show (t d env).bind (ts ds) = _
  rw [q1]
  exact q3
theorem tk_tup {ts : Tgs} {ds : List PyData} {n : Nat} {k1 : List Kn} (h : TgsK ts ds ks k1) (hn : ds.length = n := by rfl) : TgK (tTup n ts) (.tuple ds) ks k1 := fun env hk => by
  obtain ⟨e1, q1, q2⟩ := h env hk
  refine ⟨e1, ?_, q2⟩
  show (if ds.length = n then ts ds env else none) = _
  rw [if_pos hn, q1]
end

/-! ### values and computations -/
/-- the meaning gives y -/
def RV {β : Type} (ks : List Kn) (m : ME β) (y : β) : Prop := ∀ env ds, KnR ks env → m env ds = some (.ok y, ds)
/-- the meaning gives what t computes -/
def RE {α β : Type} (ks : List Kn) (m : ME β) (t : TM α) (e : α → β) : Prop := ∀ env ds, KnR ks env → ∀ o ds', t ds = some (o, ds') → m env ds = some (o.map e, ds')
section
variable {α β γ δ : Type} {ks : List Kn}
theorem RV.re {m : ME β} {y : β} {e : α → β} {x : α} (h : RV ks m y) (he : e x = y := by rfl) : RE ks m (TM.pure x) e := fun env ds hk o ds' q => by
  cases q
  rw [h env ds hk, ← he]
  rfl
theorem re_bind {a : ME β} {f : β → ME γ} {ta : TM α} {ea : α → β} {tf : α → TM δ} {e : δ → γ} (ha : RE ks a ta ea) (hf : ∀ x, RE ks (f (ea x)) (tf x) e) : RE ks (a.bind f) (ta.bind tf) e := fun env ds hk o ds' q => by
  change (ta ds).bind tf = some (o, ds') at q
  show (a env ds).bind _ = _
  cases h : ta ds with
  | none => rw [h] at q; cases q
  | some p =>
    obtain ⟨o1, ds1⟩ := p
    rw [h] at q
    rw [ha env ds hk o1 ds1 h]
    cases o1 with
    | ok x => exact hf x env ds1 hk o ds' q
    | exc x => cases q; rfl
theorem rv_bind {a : ME β} {f : β → ME γ} {x : β} {t : TM δ} {e : δ → γ} (ha : RV ks a x) (hf : RE ks (f x) t e) : RE ks (a.bind f) t e := fun env ds hk o ds' q => by
  show (a env ds).bind _ = _
  rw [ha env ds hk]
  exact hf env ds hk o ds' q
theorem rv_vbind {a : ME β} {f : β → ME γ} {x : β} {y : γ} (ha : RV ks a x) (hf : RV ks (f x) y) : RV ks (a.bind f) y := fun env ds hk => by
  show (a env ds).bind _ = _
  rw [ha env ds hk]
  exact hf env ds hk
theorem re_lift {o : Option β} {g : Option α} {e : α → β} (h : o = g.map e) : RE ks (ME.lift o) (TM.lift g) e := fun env ds hk o' ds' q => by
  subst h
  cases g with
  | none => cases q
  | some x => cases q; rfl
theorem re_liftP {o : Option β} {x : α} {e : α → β} (h : o = some (e x)) : RE ks (ME.lift o) (TM.pure x) e := fun env ds hk o' ds' q => by
  subst h
  cases q
  rfl
theorem rv_lift {o : Option β} {y : β} (h : o = some y) : RV ks (ME.lift o) y := fun env ds hk => by subst h; rfl
theorem re_pure {x : α} {e : α → β} {y : β} (h : e x = y := by rfl) : RE ks (ME.pure y) (TM.pure x) e := fun env ds hk o' ds' q => by
  cases q
  rw [← h]
  rfl
theorem RE.to {m : ME β} {t : TM α} {e e' : α → β} (h : RE ks m t e) (he : ∀ x, e x = e' x) : RE ks m t e' := by
  have : e = e' := funext he
  rw [← this]
  exact h
/-- the same computation, seen as giving another plain value -/
theorem RE.mapE {m : ME β} {t : TM α} {e : α → β} {e' : δ → β} (g : α → δ) (h : RE ks m t e) (he : ∀ x, e' (g x) = e x) : RE ks m (t.bind fun x => TM.pure (g x)) e' := fun env ds hk o ds' q => by
  change (t ds).bind _ = some (o, ds') at q
  cases ht : t ds with
  | none => rw [ht] at q; cases q
  | some p =>
    obtain ⟨o1, ds1⟩ := p
    rw [ht] at q
    rw [h env ds hk o1 ds1 ht]
    cases o1 with
    | ok x =>
      cases q
      show some (Out.ok (e x), _) = some (Out.ok (e' (g x)), _)
      rw [he]
    | exc x => cases q; rfl
theorem re_let {m : ME β} {x : δ} {t : δ → TM α} {e : α → β} (h : RE ks m (t x) e) : RE ks m (TM.tlet x t) e := h
/-! names, constants -/
theorem v_c {d : PyData} : RV ks (mC d) d := fun _ _ _ => rfl
theorem v_v {i : Nat} {d : PyData} (h : kn ks i = some (.v (.d d))) : RV ks (mV i) d := fun env ds hk => by rw [mV_ev, hk.at h]
theorem v_vp {i : Nat} {xs : List PyData} (h : kn ks i = some (.v (.l xs))) : RV ks (mVp i) (.list xs) := fun env ds hk => by rw [mVp_ev, hk.at h]
theorem v_vpk {i : Nat} {xs : List PyData} (h : kn ks i = some (.v (.lk xs))) : RV ks (mVp i) (.list xs) := fun env ds hk => by rw [mVp_ev, hk.at h]
theorem v_vpd {i : Nat} {d : PyData} (h : kn ks i = some (.v (.d d))) : RV ks (mVp i) d := fun env ds hk => by rw [mVp_ev, hk.at h]
/-! operators -/
variable {a b c : ME PyData} {x y z : PyData}
theorem v_op {f : PyData → PyData → Option PyData} (ha : RV ks a x) (hb : RV ks b y) (hf : f x y = some z) : RV ks (mOp f a b) z := rv_vbind ha (rv_vbind hb (rv_lift hf))
theorem v_un {f : PyData → Option PyData} (ha : RV ks a x) (hf : f x = some z) : RV ks (mUn f a) z := rv_vbind ha (rv_lift hf)
theorem v_unF {f : PyData → Option (List PyData)} {zs : List PyData} (ha : RV ks a x) (hf : f x = some zs) : RV ks (mUnF f a) zs := rv_vbind ha (rv_lift hf)
theorem v_F {m : ME (List PyData)} {xs : List PyData} (h : RV ks m xs) : RV ks (mF m) (.list xs) := rv_vbind h fun _ _ _ => rfl
theorem c_F {m : ME (List PyData)} {t : TM α} {e : α → List PyData} {e' : α → PyData} (h : RE ks m t e) (he : ∀ x, .list (e x) = e' x := by intro _; rfl) : RE ks (mF m) t e' := by
  have q := re_bind (f := fun xs => ME.pure (.list xs)) (tf := fun x => TM.pure x) (e := e') h fun x => re_pure (he x).symm
  rw [TM.bind_pure] at q
  exact q
theorem v_tst {k : Bool} (h : RV ks a (.bool k)) : RV ks (mTst a) k := rv_vbind h (rv_lift rfl)
theorem c_tst {t : TM Bool} (h : RE ks a t PyData.bool) : RE ks (mTst a) t id := by
  have q := re_bind (f := fun x => ME.lift (match x with | .bool b => some b | _ => none)) (tf := fun x => TM.pure x) (e := id) h fun x => re_liftP rfl
  rw [TM.bind_pure] at q
  exact q
theorem v_not {m : ME Bool} {k : Bool} (h : RV ks m k) : RV ks (mNot m) (!k) := rv_vbind h fun _ _ _ => rfl
theorem c_not {m : ME Bool} {t : TM Bool} (h : RE ks m t id) : RE ks (mNot m) (t.bind fun k => TM.pure (!k)) id := re_bind h fun k => re_pure
theorem v_and {m m' : ME Bool} {k k' : Bool} (h : RV ks m k) (h' : RV ks m' k') : RV ks (mAnd m m') (k && k') := rv_vbind h (by
  cases k
  · exact fun _ _ _ => rfl
  · exact h')
theorem v_or {m m' : ME Bool} {k k' : Bool} (h : RV ks m k) (h' : RV ks m' k') : RV ks (mOr m m') (k || k') := rv_vbind h (by
  cases k
  · exact h'
  · exact fun _ _ _ => rfl)
theorem c_and {m m' : ME Bool} {k : Bool} {t' : TM Bool} (h : RV ks m k) (h' : RE ks m' t' id) : RE ks (mAnd m m') (if k then t' else TM.pure false) id := rv_bind h (by
  cases k
  · exact re_pure
  · exact h')
theorem c_or {m m' : ME Bool} {k : Bool} {t' : TM Bool} (h : RV ks m k) (h' : RE ks m' t' id) : RE ks (mOr m m') (if k then TM.pure true else t') id := rv_bind h (by
  cases k
  · exact h'
  · exact re_pure)
theorem cc_and {m m' : ME Bool} {t t' : TM Bool} (h : RE ks m t id) (h' : RE ks m' t' id) : RE ks (mAnd m m') (t.bind fun k => if k then t' else TM.pure false) id := re_bind h fun k => by
  cases k
  · exact re_pure
  · exact h'
theorem cc_or {m m' : ME Bool} {t t' : TM Bool} (h : RE ks m t id) (h' : RE ks m' t' id) : RE ks (mOr m m') (t.bind fun k => if k then TM.pure true else t') id := re_bind h fun k => by
  cases k
  · exact h'
  · exact re_pure
theorem v_andV {k k' : Bool} (h : RV ks a (.bool k)) (h' : RV ks b (.bool k')) : RV ks (mAndV a b) (.bool (k && k')) := rv_vbind h (by
  cases k
  · exact fun _ _ _ => rfl
  · exact h')
theorem v_orV {k k' : Bool} (h : RV ks a (.bool k)) (h' : RV ks b (.bool k')) : RV ks (mOrV a b) (.bool (k || k')) := rv_vbind h (by
  cases k
  · exact h'
  · exact fun _ _ _ => rfl)
theorem c_andV {k : Bool} {t' : TM Bool} (h : RV ks a (.bool k)) (h' : RE ks b t' PyData.bool) : RE ks (mAndV a b) (if k then t' else TM.pure false) PyData.bool := rv_bind h (by
  cases k
  · exact re_pure
  · exact h')
theorem c_orV {k : Bool} {t' : TM Bool} (h : RV ks a (.bool k)) (h' : RE ks b t' PyData.bool) : RE ks (mOrV a b) (if k then TM.pure true else t') PyData.bool := rv_bind h (by
  cases k
  · exact h'
  · exact re_pure)
theorem cc_andV {t t' : TM Bool} (h : RE ks a t PyData.bool) (h' : RE ks b t' PyData.bool) : RE ks (mAndV a b) (t.bind fun k => if k then t' else TM.pure false) PyData.bool := re_bind h fun k => by
  cases k
  · exact re_pure
  · exact h'
theorem cc_orV {t t' : TM Bool} (h : RE ks a t PyData.bool) (h' : RE ks b t' PyData.bool) : RE ks (mOrV a b) (t.bind fun k => if k then TM.pure true else t') PyData.bool := re_bind h fun k => by
  cases k
  · exact h'
  · exact re_pure
theorem v_if {μ : ME Bool} {m m' : ME β} {k : Bool} {x y : α} {e : α → β} (h : RV ks μ k) (h1 : RV ks m (e x)) (h2 : RV ks m' (e y)) : RV ks (mIf μ m m') (e (if k then x else y)) := rv_vbind h (by
  cases k
  · exact h2
  · exact h1)
theorem c_if {μ : ME Bool} {m m' : ME β} {k : Bool} {t t' : TM α} {e : α → β} (h : RV ks μ k) (h1 : RE ks m t e) (h2 : RE ks m' t' e) : RE ks (mIf μ m m') (if k then t else t') e := rv_bind h (by
  cases k
  · exact h2
  · exact h1)
theorem cc_if {μ : ME Bool} {m m' : ME β} {tk : TM Bool} {t t' : TM α} {e : α → β} (h : RE ks μ tk id) (h1 : RE ks m t e) (h2 : RE ks m' t' e) : RE ks (mIf μ m m') (tk.bind fun k => if k then t else t') e := re_bind h fun k => by
  cases k
  · exact h2
  · exact h1
theorem v_chain {f f' : PyData → PyData → Option PyData} {u : PyData} {k k' : Bool} (ha : RV ks a x) (hb : RV ks b y) (hf : f x y = some (.bool k)) (hc : RV ks c u) (hf' : f' y u = some (.bool k')) : RV ks (mChain f f' a b c) (.bool (k && k')) := rv_vbind ha (rv_vbind hb (rv_vbind (rv_lift hf) (by
  cases k
  · exact fun _ _ _ => rfl
  · exact rv_vbind hc (rv_lift hf'))))
theorem c_chain {f f' : PyData → PyData → Option PyData} {ta : TM α} {tb : TM β} {tc : TM γ} {ea : α → PyData} {eb : β → PyData} {ec : γ → PyData} {p : α → β → Bool} {q : β → γ → Bool} (ha : RE ks a ta ea) (hb : RE ks b tb eb) (hf : ∀ x y, f (ea x) (eb y) = some (.bool (p x y))) (hc : RE ks c tc ec) (hf' : ∀ y z, f' (eb y) (ec z) = some (.bool (q y z))) :
    RE ks (mChain f f' a b c) (ta.bind fun x => tb.bind fun y => if p x y then tc.bind fun z => TM.pure (q y z) else TM.pure false) PyData.bool := re_bind ha fun x => re_bind hb fun y => rv_bind (rv_lift (hf x y)) (by
  cases p x y
  · exact re_pure
  · exact re_bind hc fun z => re_liftP (hf' y z))
/-- the same where f is partial -/
theorem c_chainP {f f' : PyData → PyData → Option PyData} {ta : TM α} {tb : TM β} {tc : TM γ} {ea : α → PyData} {eb : β → PyData} {ec : γ → PyData} {p : α → β → Option Bool} {q : β → γ → Option Bool} (ha : RE ks a ta ea) (hb : RE ks b tb eb) (hf : ∀ x y, f (ea x) (eb y) = (p x y).map PyData.bool) (hc : RE ks c tc ec) (hf' : ∀ y z, f' (eb y) (ec z) = (q y z).map PyData.bool) :
    RE ks (mChain f f' a b c) (ta.bind fun x => tb.bind fun y => (TM.lift (p x y)).bind fun k => if k then tc.bind fun z => TM.lift (q y z) else TM.pure false) PyData.bool := re_bind ha fun x => re_bind hb fun y => re_bind (re_lift (hf x y)) fun k => by
  cases k
  · exact re_pure
  · exact re_bind hc fun z => re_lift (hf' y z)
/-! displays -/
theorem v_nil : RV ks mNil [] := fun _ _ _ => rfl
theorem v_cons {r : ME (List PyData)} {xs : List PyData} (ha : RV ks a x) (hr : RV ks r xs) : RV ks (mCons a r) (x :: xs) := rv_vbind ha (rv_vbind hr fun _ _ _ => rfl)
theorem v_tup {r : ME (List PyData)} {xs : List PyData} (h : RV ks r xs) (hs : Nat.ble xs.length 1000 = true := by rfl) : RV ks (mTup r) (.tuple xs) := rv_vbind h (rv_lift (by rw [show short xs.length = true from short_of (by have := Nat.le_of_ble_eq_true hs; omega), if_pos rfl]))
theorem v_lst {r : ME (List PyData)} {xs : List PyData} (h : RV ks r xs) (hs : Nat.ble xs.length 1000 = true := by rfl) : RV ks (mLst r) xs := rv_vbind h (rv_lift (by rw [show short xs.length = true from short_of (by have := Nat.le_of_ble_eq_true hs; omega), if_pos rfl]))
theorem rz_assoc {o : Rz α} {f : α → DS → Rz β} {g : β → DS → Rz γ} : (o.bind f).bind g = o.bind fun x ds => (f x ds).bind g := by
  rcases o with _ | ⟨_ | _, _⟩ <;> rfl
theorem RE.cg {m m' : ME β} {t : TM α} {e : α → β} (h : RE ks m t e) (q : ∀ env ds, m' env ds = m env ds) : RE ks m' t e := fun env ds hk o ds' z => by
  rw [q]
  exact h env ds hk o ds' z
/-- a display whose items compute: item by item -/
theorem k_nil {k : List PyData → ME β} {t : TM α} {e : α → β} (h : RE ks (k []) t e) : RE ks (ME.bind mNil k) t e := h
theorem k_cons {r : ME (List PyData)} {k : List PyData → ME β} {t : TM α} {e : α → β} (ha : RV ks a x) (h : RE ks (r.bind fun xs => k (x :: xs)) t e) : RE ks ((mCons a r).bind k) t e :=
  (rv_bind (f := fun x => r.bind fun xs => k (x :: xs)) ha h).cg fun env ds => by
    show ((a env ds).bind fun x ds => (r env ds).bind fun xs ds => some (.ok (x :: xs), ds)).bind _ = (a env ds).bind fun x ds => (r env ds).bind fun xs ds => k (x :: xs) env ds
    rw [rz_assoc]
    congr 1; funext x ds
    rw [rz_assoc]
    rfl
theorem k_consC {r : ME (List PyData)} {k : List PyData → ME β} {ta : TM δ} {ea : δ → PyData} {t : δ → TM α} {e : α → β} (ha : RE ks a ta ea) (h : ∀ x, RE ks (r.bind fun xs => k (ea x :: xs)) (t x) e) : RE ks ((mCons a r).bind k) (ta.bind t) e :=
  (re_bind (f := fun x => r.bind fun xs => k (x :: xs)) ha h).cg fun env ds => by
    show ((a env ds).bind fun x ds => (r env ds).bind fun xs ds => some (.ok (x :: xs), ds)).bind _ = (a env ds).bind fun x ds => (r env ds).bind fun xs ds => k (x :: xs) env ds
    rw [rz_assoc]
    congr 1; funext x ds
    rw [rz_assoc]
    rfl
theorem k_tup {xs : List PyData} {p : α} {e : α → PyData} (he : e p = .tuple xs := by rfl) (hs : Nat.ble xs.length 1000 = true := by rfl) : RE ks (ME.lift (if short xs.length then some (PyData.tuple xs) else none)) (TM.pure p) e :=
  re_liftP (by rw [show short xs.length = true from short_of (by have := Nat.le_of_ble_eq_true hs; omega), if_pos rfl, he])
theorem k_lst {xs : List PyData} {p : α} {e : α → List PyData} (he : e p = xs := by rfl) (hs : Nat.ble xs.length 1000 = true := by rfl) : RE ks (ME.lift (if short xs.length then some xs else none)) (TM.pure p) e :=
  re_liftP (by rw [show short xs.length = true from short_of (by have := Nat.le_of_ble_eq_true hs; omega), if_pos rfl, he])
/-! calls -/
def RF (f : FS) (args : List Sl) (t : TM α) (e : α → PyData) : Prop := ∀ ds o ds', t ds = some (o, ds') → f args ds = some (o.map e, ds')
theorem x_nil {k : List Sl → ME β} {t : TM α} {e : α → β} (h : RE ks (k []) t e) : RE ks (ME.bind axNil k) t e := h
theorem x_d {r : ME (List Sl)} {k : List Sl → ME β} {t : TM α} {e : α → β} (ha : RV ks a x) (h : RE ks (r.bind fun xs => k (.d x :: xs)) t e) : RE ks ((axD a r).bind k) t e :=
  (rv_bind (f := fun x => r.bind fun xs => k (.d x :: xs)) ha h).cg fun env ds => by
    show ((a env ds).bind fun x ds => (r env ds).bind fun xs ds => some (.ok (.d x :: xs), ds)).bind _ = (a env ds).bind fun x ds => (r env ds).bind fun xs ds => k (.d x :: xs) env ds
    rw [rz_assoc]
    congr 1; funext x ds
    rw [rz_assoc]
    rfl
theorem x_dC {r : ME (List Sl)} {k : List Sl → ME β} {ta : TM δ} {ea : δ → PyData} {t : δ → TM α} {e : α → β} (ha : RE ks a ta ea) (h : ∀ x, RE ks (r.bind fun xs => k (.d (ea x) :: xs)) (t x) e) : RE ks ((axD a r).bind k) (ta.bind t) e :=
  (re_bind (f := fun x => r.bind fun xs => k (.d x :: xs)) ha h).cg fun env ds => by
    show ((a env ds).bind fun x ds => (r env ds).bind fun xs ds => some (.ok (.d x :: xs), ds)).bind _ = (a env ds).bind fun x ds => (r env ds).bind fun xs ds => k (.d x :: xs) env ds
    rw [rz_assoc]
    congr 1; funext x ds
    rw [rz_assoc]
    rfl
theorem x_v {i : Nat} {r : ME (List Sl)} {k : List Sl → ME β} {t : TM α} {e : α → β} (hi : kn ks i = some (.v .drw)) (h : RE ks (r.bind fun xs => k (.drw :: xs)) t e) : RE ks ((axV i r).bind k) t e := fun env ds hk o ds' q => by
  have z := h env ds hk o ds' q
  rw [← z]
  show (axV i r env ds).bind _ = (r env ds).bind _
  rw [axV_ev, hk.at hi]
  dsimp only
  rw [rz_assoc]
  rfl
theorem x_fin {f : FS} {n : Nat} {args : List Sl} {t : TM α} {e : α → PyData} (h : RF f args t e) (hn : args.length = n := by rfl) : RE ks (fun _ ds => chk n f args ds) t e := fun env ds hk o ds' q => by
  show (if args.length = n then f args ds else none) = _
  rw [if_pos hn]
  exact h ds o ds' q
theorem x_finP {f : FS} {n : Nat} {args : List Sl} {t : TM α} {e : α → PyData} (h : RF f args t e) (hl : ∀ x, noL (e x) = true) (hn : args.length = n := by rfl) : RE ks (fun _ ds => (chk n f args ds).bind fun d ds' => if noL d then some (.ok d, ds') else none) t e := fun env ds hk o ds' q => by
  show ((if args.length = n then f args ds else none).bind _) = _
  rw [if_pos hn, h ds o ds' q]
  cases o with
  | ok x =>
    show (if noL (e x) then _ else none) = _
    rw [hl, if_pos rfl]
    rfl
  | exc x => rfl
theorem c_call {f : FS} {A : ME (List Sl)} {t : TM α} {e : α → PyData} (h : RE ks (A.bind fun args _ ds => f args ds) t e) : RE ks (mCall f A) t e := h
theorem c_callP {f : FS} {A : ME (List Sl)} {t : TM α} {e : α → PyData} (h : RE ks (A.bind fun args _ ds => (f args ds).bind fun d ds' => if noL d then some (.ok d, ds') else none) t e) : RE ks (mCallP f A) t e := h
/-! what is walked -/
theorem v_items {xs : List PyData} (h : RV ks a x) (hx : itemsOf x = some xs) : RV ks (mItems a) xs := rv_vbind h (rv_lift hx)
theorem c_items {t : TM α} {ea : α → PyData} {e : α → List PyData} (h : RE ks a t ea) (hx : ∀ x, itemsOf (ea x) = some (e x)) : RE ks (mItems a) t e := by
  have q := re_bind (f := fun x => ME.lift (itemsOf x)) (tf := fun x => TM.pure x) (e := e) h fun x => re_liftP (hx x)
  rw [TM.bind_pure] at q
  exact q
@[irreducible] def rngT (i j : Int) : Option (List Int) := if -(2 ^ 62) ≤ i ∧ i < 2 ^ 62 ∧ -(2 ^ 62) ≤ j ∧ j < 2 ^ 62 then some ((List.range (j - i).toNat).map fun (k : Nat) => i + (k : Int)) else none
theorem rng_map (lo : Int) (n : Nat) : rangeD lo n = ((List.range n).map fun (k : Nat) => lo + (k : Int)).map PyData.int := by
  unfold rangeD
  rw [List.map_map]
  rfl
theorem rng1_ok (j : Int) : (match PyData.int j with | .int j => if decide (-(2 ^ 62) ≤ j ∧ j < 2 ^ 62) then some (rangeD 0 j.toNat) else none | _ => none) = (rngT 0 j).map (List.map PyData.int) := by
  unfold rngT
  dsimp only
  by_cases h : -(2 ^ 62) ≤ j ∧ j < 2 ^ 62
  · rw [if_pos (decide_eq_true h), if_pos ⟨by decide, by decide, h.1, h.2⟩, Int.sub_zero, rng_map]
    rfl
  · rw [if_neg (by rw [decide_eq_false h]; exact Bool.false_ne_true), if_neg fun q => h ⟨q.2.2.1, q.2.2.2⟩]
    rfl
theorem c_rng1 {t : TM Int} (h : RE ks a t PyData.int) : RE ks (mRng1 a) (t.bind fun j => TM.lift (rngT 0 j)) (List.map PyData.int) := re_bind h fun j => re_lift (rng1_ok j)
theorem c_rng1V {j : Int} (h : RV ks a (.int j)) : RE ks (mRng1 a) (TM.lift (rngT 0 j)) (List.map PyData.int) := rv_bind h (re_lift (rng1_ok j))
theorem rng2_ok (i j : Int) : (match PyData.int i, PyData.int j with | .int i, .int j => if decide (-(2 ^ 62) ≤ i ∧ i < 2 ^ 62 ∧ -(2 ^ 62) ≤ j ∧ j < 2 ^ 62) then some (rangeD i (j - i).toNat) else none | _, _ => none) = (rngT i j).map (List.map PyData.int) := by
  unfold rngT
  dsimp only
  by_cases h : -(2 ^ 62) ≤ i ∧ i < 2 ^ 62 ∧ -(2 ^ 62) ≤ j ∧ j < 2 ^ 62
  · rw [if_pos (decide_eq_true h), if_pos h, rng_map]
    rfl
  · rw [if_neg (by rw [decide_eq_false h]; exact Bool.false_ne_true), if_neg h]
    rfl
theorem c_rng2V {i j : Int} (h : RV ks a (.int i)) (h' : RV ks b (.int j)) : RE ks (mRng2 a b) (TM.lift (rngT i j)) (List.map PyData.int) := rv_bind h (rv_bind h' (re_lift (rng2_ok i j)))
theorem c_rng2 {t t' : TM Int} (h : RE ks a t PyData.int) (h' : RE ks b t' PyData.int) : RE ks (mRng2 a b) (t.bind fun i => t'.bind fun j => TM.lift (rngT i j)) (List.map PyData.int) := re_bind h fun i => re_bind h' fun j => re_lift (rng2_ok i j)
@[irreducible] def rngL (i j : Int) : Option (List Int) := if -1048576 ≤ i ∧ i < 1048576 ∧ -1048576 ≤ j ∧ j < 1048576 then some ((List.range (j - i).toNat).map fun (k : Nat) => i + (k : Int)) else none
theorem rgL1_ok (j : Int) : (match PyData.int j with | .int j => if smallI j then some (rangeD 0 j.toNat) else none | _ => none) = (rngL 0 j).map (List.map PyData.int) := by
  unfold rngL smallI
  dsimp only
  by_cases h : -1048576 ≤ j ∧ j < 1048576
  · rw [if_pos (decide_eq_true h), if_pos ⟨by decide, by decide, h.1, h.2⟩, Int.sub_zero, rng_map]
    rfl
  · rw [if_neg (by rw [decide_eq_false h]; exact Bool.false_ne_true), if_neg fun q => h ⟨q.2.2.1, q.2.2.2⟩]
    rfl
theorem c_rgL1V {j : Int} (h : RV ks a (.int j)) : RE ks (mRgL1 a) (TM.lift (rngL 0 j)) (List.map PyData.int) := rv_bind h (re_lift (rgL1_ok j))
theorem c_rgL1 {t : TM Int} (h : RE ks a t PyData.int) : RE ks (mRgL1 a) (t.bind fun j => TM.lift (rngL 0 j)) (List.map PyData.int) := re_bind h fun j => re_lift (rgL1_ok j)
theorem v_isi {n : Nat} {k : Bool} (h : RV ks a x) (hx : isOf (["int", "bool", "tuple", "str", "list"].getD n "") x = some k) : RV ks (mIsi n a) (.bool k) := rv_vbind h (rv_lift (by rw [hx]; rfl))
theorem c_isi {n : Nat} {t : TM α} {e : α → PyData} (h : RE ks a t e) : RE ks (mIsi n a) (t.bind fun x => TM.lift (isOf (["int", "bool", "tuple", "str", "list"].getD n "") (e x))) PyData.bool := re_bind h fun x => re_lift rfl
theorem c_isiV {n : Nat} (h : RV ks a x) : RE ks (mIsi n a) (TM.lift (isOf (["int", "bool", "tuple", "str", "list"].getD n "") x)) PyData.bool := rv_bind h (re_lift rfl)
/-! comprehensions -/
theorem v_yes : RV ks mYes true := fun _ _ _ => rfl
theorem compGo_re {t : Tg} {c : ME Bool} {elt : ME PyData} {env : Ev} {ks1 : List Kn} {ks2 : α → List Kn} {ea : α → PyData} {p : α → TM Bool} {g : α → TM γ} {e : γ → PyData} (hk : KnR ks1 env) (ht : ∀ x, TgK t (ea x) ks1 (ks2 x)) (hc : ∀ x, RE (ks2 x) c (p x) id) (he : ∀ x, RE (ks2 x) elt (g x) e) :
    ∀ (xs : List α) (acc : List PyData) (ds : DS) (o : Out (List γ)) (ds' : DS), acc.length + xs.length ≤ 16777216 → TM.compM p g xs ds = some (o, ds') → ∃ ys, o = .ok ys ∧ compGo t c elt env (xs.map ea) ds acc = some (acc ++ ys.map e, ds')
  | [], acc, ds, o, ds', _, q => by
    cases q
    exact ⟨[], rfl, by show some (acc, ds) = some (acc ++ [], ds); rw [List.append_nil]⟩
  | x :: r, acc, ds, o, ds', hl, q => by
    rw [List.length_cons] at hl
    obtain ⟨env1, h1, h2⟩ := ht x env hk
    change (TM.noex (p x) ds).bind _ = some (o, ds') at q
    unfold TM.noex at q
    rw [List.map_cons]
    unfold compGo
    rw [h1]
    dsimp only
    rcases hp : p x ds with _ | ⟨k | x', ds1⟩
    · rw [hp] at q; cases q
    · rw [hp] at q
      rw [hc x env1 ds h2 _ _ hp]
      dsimp only at q
      rw [rb_ok] at q
      dsimp only [Out.map, id]
      cases k with
      | false =>
        rw [if_neg Bool.false_ne_true] at q
        exact compGo_re hk ht hc he r acc ds1 o ds' (by omega) q
      | true =>
        rw [if_pos rfl] at q
        change (TM.noex (g x) ds1).bind _ = some (o, ds') at q
        unfold TM.noex at q
        dsimp only
        rcases hg : g x ds1 with _ | ⟨y | x', ds2⟩
        · rw [hg] at q; cases q
        · rw [hg] at q
          rw [he x env1 ds1 h2 _ _ hg]
          change (TM.compM p g r ds2).bind _ = some (o, ds') at q
          rcases hr : TM.compM p g r ds2 with _ | ⟨o2, ds3⟩
          · rw [hr] at q; cases q
          · obtain ⟨ys, rfl, k2⟩ := compGo_re hk ht hc he r (acc ++ [e y]) ds2 o2 ds3 (by rw [List.length_append, List.length_singleton]; omega) hr
            rw [hr] at q
            cases q
            refine ⟨y :: ys, rfl, ?_⟩
            dsimp only [Out.map]
            rw [lt_line (by omega), if_pos rfl]
            rw [k2, List.append_assoc]
            rfl
        · rw [hg] at q; cases q
    · rw [hp] at q; cases q
theorem c_comp {vs : List Nat} {mi : ME (List PyData)} {t : Tg} {c : ME Bool} {elt : ME PyData} {ks1 : List Kn} {ks2 : α → List Kn} {ea : α → PyData} {ti : TM (List α)} {p : α → TM Bool} {g : α → TM γ} {e : γ → PyData} (hi : RE ks mi ti (List.map ea)) (hw : wipeK ks vs = some ks1) (ht : ∀ x, TgK t (ea x) ks1 (ks2 x)) (hc : ∀ x, RE (ks2 x) c (p x) id) (he : ∀ x, RE (ks2 x) elt (g x) e) :
    RE ks (mComp vs mi t c elt) (ti.bind fun xs => TM.compL p g xs) (List.map e) := re_bind hi fun xs env ds hk o ds' q => by
  obtain ⟨env1, h1, h2⟩ := wipeK_ok hk hw
  unfold TM.compL at q
  by_cases hl : xs.length ≤ 16777216
  · rw [if_pos hl] at q
    obtain ⟨ys, rfl, k2⟩ := compGo_re h2 ht hc he xs [] ds o ds' (by rw [List.length_nil]; omega) q
    rw [h1]
    dsimp only
    rw [k2]
    rfl
  · rw [if_neg hl] at q
    cases q
theorem re_V {m : ME β} {t : TM α} {e : α → β} {x : α} (h : RE ks m (TM.pure x) e) : RV ks m (e x) := fun env ds hk => h env ds hk _ _ rfl
theorem c_compI {vs : List Nat} {mi : ME (List PyData)} {t : Tg} {c : ME Bool} {elt : ME PyData} {ks1 : List Kn} {ks2 : α → List Kn} {ea : α → PyData} {xs : List α} {p : α → TM Bool} {g : α → TM γ} {e : γ → PyData} (hi : RV ks mi (xs.map ea)) (hw : wipeK ks vs = some ks1) (ht : ∀ x, TgK t (ea x) ks1 (ks2 x)) (hc : ∀ x, RE (ks2 x) c (p x) id) (he : ∀ x, RE (ks2 x) elt (g x) e) :
    RE ks (mComp vs mi t c elt) (TM.compL p g xs) (List.map e) := c_comp (ti := TM.pure xs) (RV.re hi) hw ht hc he
theorem compV_L {p : α → Bool} {g : α → γ} {xs : List α} : TM.compV p g xs = TM.compL (fun x => TM.pure (p x)) (fun x => TM.pure (g x)) xs := by
  unfold TM.compV TM.compL
  split
  · exact (TM.compM_pure (fun _ _ => rfl) fun _ _ _ => rfl).symm
  · rfl
theorem c_compV {vs : List Nat} {mi : ME (List PyData)} {t : Tg} {c : ME Bool} {elt : ME PyData} {ks1 : List Kn} {ks2 : α → List Kn} {ea : α → PyData} {ti : TM (List α)} {p : α → Bool} {g : α → γ} {e : γ → PyData} (hi : RE ks mi ti (List.map ea)) (hw : wipeK ks vs = some ks1) (ht : ∀ x, TgK t (ea x) ks1 (ks2 x)) (hc : ∀ x, RV (ks2 x) c (p x)) (he : ∀ x, RV (ks2 x) elt (e (g x))) :
    RE ks (mComp vs mi t c elt) (ti.bind fun xs => TM.compV p g xs) (List.map e) := by
  have : (fun xs => TM.compV p g xs) = fun xs => TM.compL (fun x => TM.pure (p x)) (fun x => TM.pure (g x)) xs := funext fun _ => compV_L
  rw [this]
  exact c_comp hi hw ht (fun x => RV.re (hc x)) fun x => RV.re (he x)
theorem c_compVI {vs : List Nat} {mi : ME (List PyData)} {t : Tg} {c : ME Bool} {elt : ME PyData} {ks1 : List Kn} {ks2 : α → List Kn} {ea : α → PyData} {xs : List α} {p : α → Bool} {g : α → γ} {e : γ → PyData} (hi : RV ks mi (xs.map ea)) (hw : wipeK ks vs = some ks1) (ht : ∀ x, TgK t (ea x) ks1 (ks2 x)) (hc : ∀ x, RV (ks2 x) c (p x)) (he : ∀ x, RV (ks2 x) elt (e (g x))) :
    RE ks (mComp vs mi t c elt) (TM.compV p g xs) (List.map e) := c_compV (ti := TM.pure xs) (RV.re hi) hw ht hc he
end
end DL

/-! DT3: the typed layer: statements, functions. -/
namespace DL
open PySem PySem.Spec L2
open PyProof.Rows hiding St

/-- the meaning of a statement does what t computes; P: how the end shows it -/
def GoP {ρ : Type} (P : ρ → Fl → Prop) (x : Option (Fl × DS)) (ds' : DS) : Out ρ → Prop
  | .ok r => ∃ fl, x = some (fl, ds') ∧ P r fl
  | .exc z => ∃ env', x = some (.ex z env', ds')
def RG {ρ : Type} (ks : List Kn) (m : MS) (t : TM ρ) (P : ρ → Fl → Prop) : Prop := ∀ env ds, KnR ks env → ∀ o ds', t ds = some (o, ds') → GoP P (m env ds) ds' o
/-- it goes on, and this is known of the slots -/
def PN {L : Type} (k : L → List Kn) : L → Fl → Prop := fun l fl => ∃ env', fl = .nx env' ∧ KnR (k l) env'
/-- it returns -/
def PR {R : Type} (e : R → PyData) : R → Fl → Prop := fun r fl => fl = .rt (e r) ∨ ∃ env', fl = .nx env' ∧ e r = .none
/-- it goes on or returns -/
def PB {L R : Type} (k : L → List Kn) (e : R → PyData) : L ⊕ R → Fl → Prop := fun o fl => match o with
  | .inl l => ∃ env', fl = .nx env' ∧ KnR (k l) env'
  | .inr r => fl = .rt (e r)
section
variable {α β γ δ ρ σ L R : Type} {ks : List Kn} {P : ρ → Fl → Prop} {m m' rest : MS} {t : TM ρ} {a b : ME PyData}
theorem goAt {x y : Option (Fl × DS)} {o : Out ρ} {ds' : DS} (e : x = y) (z : GoP P y ds' o) : GoP P x ds' o := by
  subst e
  exact z
theorem RG.cg (h : RG ks m t P) (q : ∀ env ds, m' env ds = m env ds) : RG ks m' t P := fun env ds hk o ds' z => by
  rw [q]
  exact h env ds hk o ds' z
theorem seq_end (m : MS) (env : Ev) (ds : DS) : m env ds = mSeq m mSkip env ds := by
  unfold mSeq
  rcases m env ds with _ | ⟨_ | _ | _ | _ | _, _⟩ <;> rfl
theorem s_end (h : RG ks (mSeq m mSkip) t P) : RG ks m t P := h.cg fun env ds => seq_end m env ds
theorem s_assoc {a b c : MS} (h : RG ks (mSeq a (mSeq b c)) t P) : RG ks (mSeq (mSeq a b) c) t P := h.cg fun env ds => by
  unfold mSeq
  rcases a env ds with _ | ⟨_ | _ | _ | _ | _, _⟩ <;> rfl
theorem s_skipS (h : RG ks rest t P) : RG ks (mSeq mSkip rest) t P := h
theorem s_seq {L : Type} {k : L → List Kn} {ta : TM L} {tb : L → TM ρ} (h : RG ks m ta (PN k)) (h' : ∀ l, RG (k l) rest (tb l) P) : RG ks (mSeq m rest) (ta.bind tb) P := fun env ds hk o ds' q => by
  change (ta ds).bind tb = some (o, ds') at q
  rcases ht : ta ds with _ | ⟨l | x, ds1⟩
  · rw [ht] at q; cases q
  · rw [ht] at q
    obtain ⟨fl, h1, env1, rfl, h2⟩ := h env ds hk _ _ ht
    have z := h' l env1 ds1 h2 o ds' q
    have e : mSeq m rest env ds = rest env1 ds1 := mSeq_nx h1
    exact goAt e z
  · rw [ht] at q
    cases q
    obtain ⟨env1, h1⟩ := h env ds hk _ _ ht
    exact ⟨env1, mSeq_ex h1⟩
/-- behind a block that goes on or returns -/
theorem s_seqB {k : L → List Kn} {e : R → PyData} {ta : TM (L ⊕ R)} {tb : L → TM ρ} {g : R → ρ} (h : RG ks m ta (PB k e)) (h' : ∀ l, RG (k l) rest (tb l) P) (hp : ∀ r, P (g r) (.rt (e r))) : RG ks (mSeq m rest) (ta.bindB tb g) P := fun env ds hk o ds' q => by
  change (ta ds).bind _ = some (o, ds') at q
  rcases ht : ta ds with _ | ⟨(l | r) | x, ds1⟩
  · rw [ht] at q; cases q
  · rw [ht] at q
    obtain ⟨fl, h1, env1, rfl, h2⟩ := h env ds hk _ _ ht
    have z := h' l env1 ds1 h2 o ds' q
    have e : mSeq m rest env ds = rest env1 ds1 := mSeq_nx h1
    exact goAt e z
  · rw [ht] at q
    obtain ⟨fl, h1, rfl⟩ := h env ds hk _ _ ht
    cases q
    exact ⟨_, mSeq_rt h1, hp r⟩
  · rw [ht] at q
    cases q
    obtain ⟨env1, h1⟩ := h env ds hk _ _ ht
    exact ⟨env1, mSeq_ex h1⟩
theorem s_let {x : δ} {t : δ → TM ρ} (h : RG ks m (t x) P) : RG ks m (TM.tlet x t) P := h
/-! ends -/
theorem s_skip {k : L → List Kn} {l : L} (h : LeK ks (k l)) : RG ks mSkip (TM.pure l) (PN k) := fun env ds hk o ds' q => by
  cases q
  exact ⟨_, rfl, env, rfl, h.ok hk⟩
theorem s_skipB {k : L → List Kn} {e : R → PyData} {l : L} (h : LeK ks (k l)) : RG ks mSkip (TM.pure (.inl l : L ⊕ R)) (PB k e) := fun env ds hk o ds' q => by
  cases q
  exact ⟨_, rfl, env, rfl, h.ok hk⟩
theorem s_skipR {e : R → PyData} {r : R} (h : e r = .none := by rfl) : RG ks mSkip (TM.pure r) (PR e) := fun env ds hk o ds' q => by
  cases q
  exact ⟨_, rfl, .inr ⟨env, rfl, h⟩⟩
/-! an expression ahead -/
theorem s_exV {m : ME β} {f : β → MS} {y : β} (h : RV ks m y) (hf : RG ks (mSeq (f y) rest) t P) : RG ks (mSeq (exS m f) rest) t P := fun env ds hk o ds' q => by
  have z := hf env ds hk o ds' q
  have e : mSeq (exS m f) rest env ds = mSeq (f y) rest env ds := by
    unfold mSeq exS
    rw [h env ds hk]
  exact goAt e z
theorem s_exC {m : ME β} {f : β → MS} {ta : TM α} {ea : α → β} {tr : α → TM ρ} (h : RE ks m ta ea) (hf : ∀ x, RG ks (mSeq (f (ea x)) rest) (tr x) P) : RG ks (mSeq (exS m f) rest) (ta.bind tr) P := fun env ds hk o ds' q => by
  change (ta ds).bind tr = some (o, ds') at q
  rcases ht : ta ds with _ | ⟨x | x, ds1⟩
  · rw [ht] at q; cases q
  · rw [ht] at q
    have z := hf x env ds1 hk o ds' q
    have e : mSeq (exS m f) rest env ds = mSeq (f (ea x)) rest env ds1 := by
      unfold mSeq exS
      rw [h env ds hk _ _ ht]
      rfl
    exact goAt e z
  · rw [ht] at q
    cases q
    refine ⟨env, mSeq_ex ?_⟩
    unfold exS
    rw [h env ds hk _ _ ht]
    rfl
theorem s_put {i : Nat} {x : Sl} (hs : setOk ks i = true) (h : RG (kset ks i (.v x)) rest t P) : RG ks (mSeq (fun env ds => match put i x env with | some env' => some (.nx env', ds) | none => none) rest) t P := fun env ds hk o ds' q => by
  obtain ⟨env', h1, h2⟩ := hk.put (x := x) hs
  have z := h env' ds h2 o ds' q
  have e : mSeq (fun env ds => match put i x env with | some env' => some (.nx env', ds) | none => none) rest env ds = rest env' ds := mSeq_nx (by rw [h1])
  exact goAt e z
theorem s_setV {i : Nat} {y : PyData} (h : RV ks a y) (hs : setOk ks i = true) (hr : RG (kset ks i (.v (.d y))) rest t P) : RG ks (mSeq (mSet i a) rest) t P := s_exV h (s_put hs hr)
theorem s_setC {i : Nat} {ta : TM α} {ea : α → PyData} {tr : α → TM ρ} (h : RE ks a ta ea) (hs : setOk ks i = true) (hr : ∀ x, RG (kset ks i (.v (.d (ea x)))) rest (tr x) P) : RG ks (mSeq (mSet i a) rest) (ta.bind tr) P := s_exC h fun x => s_put hs (hr x)
theorem s_setLV {i : Nat} {m : ME (List PyData)} {y : List PyData} (h : RV ks m y) (hs : setOk ks i = true) (hr : RG (kset ks i (.v (.l y))) rest t P) : RG ks (mSeq (mSetL i m) rest) t P := s_exV h (s_put hs hr)
theorem s_setLC {i : Nat} {m : ME (List PyData)} {ta : TM α} {ea : α → List PyData} {tr : α → TM ρ} (h : RE ks m ta ea) (hs : setOk ks i = true) (hr : ∀ x, RG (kset ks i (.v (.l (ea x)))) rest (tr x) P) : RG ks (mSeq (mSetL i m) rest) (ta.bind tr) P := s_exC h fun x => s_put hs (hr x)
theorem s_putS {i j : Nat} {x y : Sl} (hs : setOk ks i = true) (hs' : setOk (kset ks i (.v x)) j = true) (h : RG (kset (kset ks i (.v x)) j (.v y)) rest t P) : RG ks (mSeq (putS i j x y) rest) t P := fun env ds hk o ds' q => by
  obtain ⟨env1, h1, h2⟩ := hk.put (x := x) hs
  obtain ⟨env2, h3, h4⟩ := h2.put (x := y) hs'
  have z := h env2 ds h4 o ds' q
  have e : mSeq (putS i j x y) rest env ds = rest env2 ds := mSeq_nx (by
    unfold putS
    rw [h1]
    show (match DL.put j y env1 with | some env' => _ | none => _) = _
    rw [h3])
  exact goAt e z
theorem s_asgV {tg : Tg} {d : PyData} {k1 : List Kn} (h : RV ks a d) (ht : TgK tg d ks k1) (hr : RG k1 rest t P) : RG ks (mSeq (mAsg tg a) rest) t P := s_exV h fun env ds hk o ds' q => by
  obtain ⟨env', h1, h2⟩ := ht env hk
  have z := hr env' ds h2 o ds' q
  have e : mSeq (fun env ds => match tg d env with | some env' => some (.nx env', ds) | none => none) rest env ds = rest env' ds := mSeq_nx (by rw [h1])
  exact goAt e z
theorem s_asgC {tg : Tg} {ta : TM α} {ea : α → PyData} {k1 : α → List Kn} {tr : α → TM ρ} (h : RE ks a ta ea) (ht : ∀ x, TgK tg (ea x) ks (k1 x)) (hr : ∀ x, RG (k1 x) rest (tr x) P) : RG ks (mSeq (mAsg tg a) rest) (ta.bind tr) P := s_exC h fun x env ds hk o ds' q => by
  obtain ⟨env', h1, h2⟩ := ht x env hk
  have z := hr x env' ds h2 o ds' q
  have e : mSeq (fun env ds => match tg (ea x) env with | some env' => some (.nx env', ds) | none => none) rest env ds = rest env' ds := mSeq_nx (by rw [h1])
  exact goAt e z
theorem s_dropV {y : PyData} (h : RV ks a y) (hr : RG ks rest t P) : RG ks (mSeq (mDrop a) rest) t P := s_exV h hr
theorem s_dropC {ta : TM α} {ea : α → PyData} {tr : α → TM ρ} (h : RE ks a ta ea) (hr : ∀ x, RG ks rest (tr x) P) : RG ks (mSeq (mDrop a) rest) (ta.bind tr) P := s_exC h hr
/-! returns -/
theorem s_retV {d : PyData} {r : ρ} (h : RV ks a d) (hp : P r (.rt d)) : RG ks (mSeq (mRet a) rest) (TM.pure r) P := fun env ds hk o ds' q => by
  cases q
  refine ⟨_, mSeq_rt (d := d) ?_, hp⟩
  unfold mRet exS
  rw [h env ds hk]
theorem s_retC {ta : TM α} {ea : α → PyData} {g : α → ρ} (h : RE ks a ta ea) (hp : ∀ x, P (g x) (.rt (ea x))) : RG ks (mSeq (mRet a) rest) (ta.bind fun x => TM.pure (g x)) P := fun env ds hk o ds' q => by
  change (ta ds).bind _ = some (o, ds') at q
  rcases ht : ta ds with _ | ⟨x | x, ds1⟩
  · rw [ht] at q; cases q
  · rw [ht] at q
    cases q
    refine ⟨_, mSeq_rt (d := ea x) ?_, hp x⟩
    unfold mRet exS
    rw [h env ds hk _ _ ht]
    rfl
  · rw [ht] at q
    cases q
    refine ⟨env, mSeq_ex ?_⟩
    unfold mRet exS
    rw [h env ds hk _ _ ht]
    rfl
theorem s_retR {ta : TM α} {ea : α → PyData} (h : RE ks a ta ea) : RG ks (mSeq (mRet a) rest) ta (PR ea) := by
  have q := s_retC (P := PR ea) (g := fun x => x) (rest := rest) h fun x => .inl rfl
  rw [show (ta.bind fun x => TM.pure x) = ta from TM.bind_pure ta] at q
  exact q
theorem s_retN {r : ρ} (hp : P r (.rt .none)) : RG ks (mSeq mRetN rest) (TM.pure r) P := fun env ds hk o ds' q => by
  cases q
  exact ⟨_, mSeq_rt (d := .none) rfl, hp⟩
theorem s_retL {i : Nat} {xs : List PyData} {r : ρ} (h : kn ks i = some (.v (.l xs))) (hp : P r (.rt (.list xs))) : RG ks (mSeq (mRetL i) rest) (TM.pure r) P := fun env ds hk o ds' q => by
  cases q
  refine ⟨_, mSeq_rt (d := .list xs) ?_, hp⟩
  unfold mRetL
  rw [hk.at h]
theorem s_raise {x : Exn} : RG ks (mSeq (mRaise x) rest) (TM.raise x : TM ρ) P := fun env ds hk o ds' q => by
  cases q
  exact ⟨env, mSeq_ex rfl⟩
/-! branches -/
theorem s_ifV {c : ME Bool} {A B : MS} {k : Bool} {ta tb : TM ρ} (h : RV ks c k) (h1 : RG ks (mSeq A rest) ta P) (h2 : RG ks (mSeq B rest) tb P) : RG ks (mSeq (mIfS c A B) rest) (if k then ta else tb) P := s_exV h (by
  cases k
  · exact h2
  · exact h1)
theorem s_ifC {c : ME Bool} {A B : MS} {tk : TM Bool} {ta tb : TM ρ} (h : RE ks c tk id) (h1 : RG ks (mSeq A rest) ta P) (h2 : RG ks (mSeq B rest) tb P) : RG ks (mSeq (mIfS c A B) rest) (tk.bind fun k => if k then ta else tb) P := s_exC h fun k => by
  cases k
  · exact h2
  · exact h1
/-! own lists -/
@[irreducible] def appT (xs : List α) (x : α) : Option (List α) := if xs.length < 16777216 then some (xs ++ [x]) else none
theorem s_onL {i : Nat} {xs : List PyData} {f : List PyData → MS} (hi : kn ks i = some (.v (.l xs))) (h : RG ks (mSeq (f xs) rest) t P) : RG ks (mSeq (onL i f) rest) t P := fun env ds hk o ds' q => by
  have z := h env ds hk o ds' q
  have e : mSeq (onL i f) rest env ds = mSeq (f xs) rest env ds := by
    unfold mSeq onL
    rw [hk.at hi]
  exact goAt e z
theorem s_appF {i : Nat} {xs : List α} {x : α} {e : α → PyData} {y : PyData} (he : e x = y) {tr : List α → TM ρ} (h : ∀ ys, RG (kset ks i (.v (.l (ys.map e)))) rest (tr ys) P) : RG ks (mSeq (fun env ds => if decide ((xs.map e).length < sizeLine) then some (.nx (env.set i (.l (xs.map e ++ [y]))), ds) else none) rest) ((TM.lift (appT xs x)).bind tr) P := fun env ds hk o ds' q => by
  unfold appT at q
  by_cases hl : xs.length < 16777216
  · rw [if_pos hl] at q
    have z := h _ (env.set i (.l ((xs ++ [x]).map e))) ds (hk.set i _) o ds' q
    have e' : mSeq (fun env ds => if decide ((xs.map e).length < sizeLine) then some (.nx (env.set i (.l (xs.map e ++ [y]))), ds) else none) rest env ds = rest (env.set i (.l ((xs ++ [x]).map e))) ds := mSeq_nx (by
      rw [lt_line (by rw [List.length_map]; exact hl), if_pos rfl, List.map_append, List.map_singleton, he])
    exact goAt e' z
  · rw [if_neg hl] at q
    cases q
theorem s_appV {i : Nat} {xs : List α} {x : α} {e : α → PyData} {y : PyData} {tr : List α → TM ρ} (hi : kn ks i = some (.v (.l (xs.map e)))) (h : RV ks a y) (he : e x = y := by rfl) (hr : ∀ ys, RG (kset ks i (.v (.l (ys.map e)))) rest (tr ys) P) : RG ks (mSeq (mApp i a) rest) ((TM.lift (appT xs x)).bind tr) P := s_onL hi (s_exV h (s_appF he hr))
theorem s_appC {i : Nat} {xs : List α} {ta : TM α} {e : α → PyData} {tr : List α → TM ρ} (hi : kn ks i = some (.v (.l (xs.map e)))) (h : RE ks a ta e) (hr : ∀ ys, RG (kset ks i (.v (.l (ys.map e)))) rest (tr ys) P) : RG ks (mSeq (mApp i a) rest) (ta.bind fun x => (TM.lift (appT xs x)).bind tr) P := s_onL hi (s_exC h fun x => s_appF rfl hr)
@[irreducible] def extT (xs ys : List α) : Option (List α) := if xs.length + ys.length ≤ 16777216 then some (xs ++ ys) else none
theorem s_extF {i : Nat} {xs ys : List α} {e : α → PyData} {y : PyData} (he : PyData.list (ys.map e) = y) {tr : List α → TM ρ} (h : ∀ ys, RG (kset ks i (.v (.l (ys.map e)))) rest (tr ys) P) : RG ks (mSeq (fun env ds => match y with
  | .list zs => if short ((xs.map e).length + zs.length) then some (.nx (env.set i (.l (xs.map e ++ zs))), ds) else none
  | _ => none) rest) ((TM.lift (extT xs ys)).bind tr) P := fun env ds hk o ds' q => by
  subst he
  unfold extT at q
  by_cases hl : xs.length + ys.length ≤ 16777216
  · rw [if_pos hl] at q
    have z := h _ (env.set i (.l ((xs ++ ys).map e))) ds (hk.set i _) o ds' q
    have e' : mSeq (fun env ds => match PyData.list (ys.map e) with
      | .list zs => if short ((xs.map e).length + zs.length) then some (.nx (env.set i (.l (xs.map e ++ zs))), ds) else none
      | _ => none) rest env ds = rest (env.set i (.l ((xs ++ ys).map e))) ds := mSeq_nx (by
      dsimp only
      rw [short_of (by rw [List.length_map, List.length_map]; exact hl), if_pos rfl, List.map_append])
    exact goAt e' z
  · rw [if_neg hl] at q
    cases q
theorem s_extV {i : Nat} {xs ys : List α} {e : α → PyData} {y : PyData} {tr : List α → TM ρ} (hi : kn ks i = some (.v (.l (xs.map e)))) (h : RV ks a y) (he : PyData.list (ys.map e) = y := by rfl) (hr : ∀ ys, RG (kset ks i (.v (.l (ys.map e)))) rest (tr ys) P) : RG ks (mSeq (mExt i a) rest) ((TM.lift (extT xs ys)).bind tr) P := s_onL hi (s_exV h (s_extF he hr))
theorem s_extC {i : Nat} {xs : List α} {ta : TM (List α)} {e : α → PyData} {tr : List α → TM ρ} (hi : kn ks i = some (.v (.l (xs.map e)))) (h : RE ks a ta fun ys => .list (ys.map e)) (hr : ∀ ys, RG (kset ks i (.v (.l (ys.map e)))) rest (tr ys) P) : RG ks (mSeq (mExt i a) rest) (ta.bind fun ys => (TM.lift (extT xs ys)).bind tr) P := s_onL hi (s_exC h fun ys => s_extF rfl hr)
@[irreducible] def putT (xs : List α) (k : Int) (x : α) : Option (List α) := (ixN xs.length k).map fun j => xs.set j x
theorem s_mputV {i : Nat} {ix : ME PyData} {xs : List α} {x : α} {k : Int} {e : α → PyData} {y : PyData} {tr : List α → TM ρ} (hi : kn ks i = some (.v (.l (xs.map e)))) (h : RV ks a y) (hx : RV ks ix (.int k)) (he : e x = y := by rfl) (hr : ∀ ys, RG (kset ks i (.v (.l (ys.map e)))) rest (tr ys) P) : RG ks (mSeq (mPut i ix a) rest) ((TM.lift (putT xs k x)).bind tr) P := s_onL hi (s_exV h (s_exV hx fun env ds hk o ds' q => by
  subst he
  unfold putT at q
  cases hn : ixN xs.length k with
  | none => rw [hn] at q; cases q
  | some j =>
    rw [hn] at q
    have z := hr _ (env.set i (.l ((xs.set j x).map e))) ds (hk.set i _) o ds' q
    refine goAt (?_ : mSeq _ rest env ds = rest (env.set i (.l ((xs.set j x).map e))) ds) z
    refine mSeq_nx ?_
    dsimp only
    rw [List.length_map, hn, List.map_set]))
@[irreducible] def popT (xs : List α) (k : Int) : Option (α × List α) := if 0 ≤ k ∧ k < 2 ^ 62 then (xs[k.toNat]?).map fun y => (y, xs.eraseIdx k.toNat) else none
theorem er_map {α β : Type} (f : α → β) : ∀ (l : List α) (k : Nat), (l.map f).eraseIdx k = (l.eraseIdx k).map f
  | [], _ => rfl
  | _ :: _, 0 => rfl
  | x :: r, k + 1 => congrArg (f x :: ·) (er_map f r k)
theorem s_appPop {i j : Nat} {ix : ME PyData} {xs ys : List α} {e : α → PyData} {tk : TM Int} {tr : List α → List α → TM ρ} (hi : kn ks i = some (.v (.l (xs.map e)))) (hj : kn ks j = some (.v (.l (ys.map e)))) (hx : RE ks ix tk PyData.int) (hij : i ≠ j) (hr : ∀ xs ys, RG (kset (kset ks j (.v (.l (ys.map e)))) i (.v (.l (xs.map e)))) rest (tr xs ys) P) : RG ks (mSeq (mAppPop i j ix) rest) (tk.bind fun k => (TM.lift (popT ys k)).bind fun p => (TM.lift (appT xs p.1)).bind fun xs => tr xs p.2) P := s_onL hi (s_onL hj (s_exC hx fun k env ds hk o ds' q => by
  unfold popT appT at q
  by_cases h0 : 0 ≤ k ∧ k < 2 ^ 62
  · rw [if_pos h0] at q
    cases hy : ys[k.toNat]? with
    | none => rw [hy] at q; cases q
    | some y =>
      rw [hy] at q
      change ((TM.lift (if xs.length < 16777216 then some (xs ++ [y]) else none)).bind fun xs => tr xs (ys.eraseIdx k.toNat)) ds = _ at q
      by_cases hl : xs.length < 16777216
      · rw [if_pos hl] at q
        have z := hr (xs ++ [y]) (ys.eraseIdx k.toNat) ((env.set j (.l ((ys.eraseIdx k.toNat).map e))).set i (.l ((xs ++ [y]).map e))) ds ((hk.set j _).set i _) o ds' q
        refine goAt (?_ : mSeq _ rest env ds = rest ((env.set j (.l ((ys.eraseIdx k.toNat).map e))).set i (.l ((xs ++ [y]).map e))) ds) z
        refine mSeq_nx ?_
        dsimp only
        rw [if_pos (by
          rw [Bool.and_eq_true, Bool.and_eq_true]
          exact ⟨⟨decide_eq_true h0, decide_eq_true hij⟩, lt_line (by rw [List.length_map]; exact hl)⟩), List.getElem?_map, hy]
        dsimp only [Option.map]
        rw [er_map, List.map_append]
        rfl
      · rw [if_neg hl] at q; cases q
  · rw [if_neg h0] at q; cases q))
/-! loops -/
theorem forGo_T {tg : Tg} {body : MS} {ea : α → PyData} {k : L → List Kn} {k1 : L → α → List Kn} {f : L → α → TM L} (ht : ∀ l x, TgK tg (ea x) (k l) (k1 l x)) (hb : ∀ l x, RG (k1 l x) body (f l x) (PN k)) : ∀ (xs : List α) (l : L), RG (k l) (fun env ds => forGo tg body (xs.map ea) env ds) (TM.forT f xs l) (PN k)
  | [], l => fun env ds hk o ds' q => by
    cases q
    exact ⟨_, rfl, env, rfl, hk⟩
  | x :: r, l => fun env ds hk o ds' q => by
    obtain ⟨env1, h1, h2⟩ := ht l x env hk
    change (f l x ds).bind _ = some (o, ds') at q
    rw [List.map_cons]
    unfold forGo
    dsimp only
    rw [h1]
    dsimp only
    rcases hf : f l x ds with _ | ⟨l1 | x, ds1⟩
    · rw [hf] at q; cases q
    · rw [hf] at q
      obtain ⟨fl, h3, env2, rfl, h4⟩ := hb l x env1 ds h2 _ _ hf
      rw [h3]
      exact forGo_T ht hb r l1 env2 ds1 h4 o ds' q
    · rw [hf] at q
      cases q
      obtain ⟨env2, h3⟩ := hb l _ env1 ds h2 _ _ hf
      rw [h3]
      exact ⟨env2, rfl⟩
theorem s_forI {mi : ME (List PyData)} {tg : Tg} {body : MS} {ea : α → PyData} {xs : List α} {k : L → List Kn} {k1 : L → α → List Kn} {f : L → α → TM L} {l0 : L} {tr : L → TM ρ} (hi : RV ks mi (xs.map ea)) (h0 : LeK ks (k l0)) (ht : ∀ l x, TgK tg (ea x) (k l) (k1 l x)) (hb : ∀ l x, RG (k1 l x) body (f l x) (PN k)) (hr : ∀ l, RG (k l) rest (tr l) P) : RG ks (mSeq (mFor mi tg body) rest) ((TM.forT f xs l0).bind tr) P := s_exV hi (s_seq (fun env ds hk => forGo_T ht hb xs l0 env ds (h0.ok hk)) hr)
theorem s_for {mi : ME (List PyData)} {tg : Tg} {body : MS} {ea : α → PyData} {ti : TM (List α)} {k : L → List Kn} {k1 : L → α → List Kn} {f : L → α → TM L} {l0 : L} {tr : L → TM ρ} (hi : RE ks mi ti (List.map ea)) (h0 : LeK ks (k l0)) (ht : ∀ l x, TgK tg (ea x) (k l) (k1 l x)) (hb : ∀ l x, RG (k1 l x) body (f l x) (PN k)) (hr : ∀ l, RG (k l) rest (tr l) P) : RG ks (mSeq (mFor mi tg body) rest) (ti.bind fun xs => (TM.forT f xs l0).bind tr) P := s_exC hi fun xs => s_seq (fun env ds hk => forGo_T ht hb xs l0 env ds (h0.ok hk)) hr
theorem forGo_B {tg : Tg} {body : MS} {ea : α → PyData} {k : L → List Kn} {k1 : L → α → List Kn} {e : R → PyData} {f : L → α → TM (L ⊕ R)} (ht : ∀ l x, TgK tg (ea x) (k l) (k1 l x)) (hb : ∀ l x, RG (k1 l x) body (f l x) (PB k e)) : ∀ (xs : List α) (l : L), RG (k l) (fun env ds => forGo tg body (xs.map ea) env ds) (TM.forB f xs l) (PB k e)
  | [], l => fun env ds hk o ds' q => by
    cases q
    exact ⟨_, rfl, env, rfl, hk⟩
  | x :: r, l => fun env ds hk o ds' q => by
    obtain ⟨env1, h1, h2⟩ := ht l x env hk
    change (f l x ds).bind _ = some (o, ds') at q
    rw [List.map_cons]
    unfold forGo
    dsimp only
    rw [h1]
    dsimp only
    rcases hf : f l x ds with _ | ⟨(l1 | y) | x, ds1⟩
    · rw [hf] at q; cases q
    · rw [hf] at q
      obtain ⟨fl, h3, env2, rfl, h4⟩ := hb l x env1 ds h2 _ _ hf
      rw [h3]
      exact forGo_B ht hb r l1 env2 ds1 h4 o ds' q
    · rw [hf] at q
      obtain ⟨fl, h3, rfl⟩ := hb l x env1 ds h2 _ _ hf
      rw [h3]
      cases q
      exact ⟨_, rfl, rfl⟩
    · rw [hf] at q
      cases q
      obtain ⟨env2, h3⟩ := hb l _ env1 ds h2 _ _ hf
      rw [h3]
      exact ⟨env2, rfl⟩
theorem s_forBI {mi : ME (List PyData)} {tg : Tg} {body : MS} {ea : α → PyData} {xs : List α} {k : L → List Kn} {k1 : L → α → List Kn} {e : R → PyData} {f : L → α → TM (L ⊕ R)} {l0 : L} {tr : L → TM ρ} {g : R → ρ} (hi : RV ks mi (xs.map ea)) (h0 : LeK ks (k l0)) (ht : ∀ l x, TgK tg (ea x) (k l) (k1 l x)) (hb : ∀ l x, RG (k1 l x) body (f l x) (PB k e)) (hr : ∀ l, RG (k l) rest (tr l) P) (hp : ∀ r, P (g r) (.rt (e r))) : RG ks (mSeq (mFor mi tg body) rest) ((TM.forB f xs l0).bindB tr g) P := s_exV hi (s_seqB (fun env ds hk => forGo_B ht hb xs l0 env ds (h0.ok hk)) hr hp)
theorem s_forB {mi : ME (List PyData)} {tg : Tg} {body : MS} {ea : α → PyData} {ti : TM (List α)} {k : L → List Kn} {k1 : L → α → List Kn} {e : R → PyData} {f : L → α → TM (L ⊕ R)} {l0 : L} {tr : L → TM ρ} {g : R → ρ} (hi : RE ks mi ti (List.map ea)) (h0 : LeK ks (k l0)) (ht : ∀ l x, TgK tg (ea x) (k l) (k1 l x)) (hb : ∀ l x, RG (k1 l x) body (f l x) (PB k e)) (hr : ∀ l, RG (k l) rest (tr l) P) (hp : ∀ r, P (g r) (.rt (e r))) : RG ks (mSeq (mFor mi tg body) rest) (ti.bind fun xs => (TM.forB f xs l0).bindB tr g) P := s_exC hi fun xs => s_seqB (fun env ds hk => forGo_B ht hb xs l0 env ds (h0.ok hk)) hr hp
theorem while_T {c : ME Bool} {body : MS} {k : L → List Kn} {tc : L → TM Bool} {f : L → TM L} (hc : ∀ l, RE (k l) c (tc l) id) (hb : ∀ l, RG (k l) body (f l) (PN k)) : ∀ (n : Nat) (l : L), RG (k l) (whileGo c body n) (TM.whileT tc f n l) (PN k)
  | 0, l => fun env ds hk o ds' q => by cases q
  | n + 1, l => fun env ds hk o ds' q => by
    change (tc l ds).bind _ = some (o, ds') at q
    unfold whileGo
    rcases h : tc l ds with _ | ⟨z | x, ds1⟩
    · rw [h] at q; cases q
    · rw [h] at q
      rw [hc l env ds hk _ _ h]
      rw [rb_ok] at q
      cases z with
      | false =>
        rw [if_neg Bool.false_ne_true] at q
        cases q
        exact ⟨_, rfl, env, rfl, hk⟩
      | true =>
        rw [if_pos rfl] at q
        change (f l ds1).bind _ = some (o, ds') at q
        dsimp only [Out.map, id]
        rcases hf : f l ds1 with _ | ⟨l1 | x, ds2⟩
        · rw [hf] at q; cases q
        · rw [hf] at q
          obtain ⟨fl, h3, env2, rfl, h4⟩ := hb l env ds1 hk _ _ hf
          rw [h3]
          exact while_T hc hb n l1 env2 ds2 h4 o ds' q
        · rw [hf] at q
          cases q
          obtain ⟨env2, h3⟩ := hb l env ds1 hk _ _ hf
          rw [h3]
          exact ⟨env2, rfl⟩
    · rw [h] at q
      cases q
      rw [hc l env ds hk _ _ h]
      exact ⟨env, rfl⟩
theorem s_while {c : ME Bool} {body : MS} {n : Nat} {k : L → List Kn} {tc : L → TM Bool} {f : L → TM L} {l0 : L} {tr : L → TM ρ} (h0 : LeK ks (k l0)) (hc : ∀ l, RE (k l) c (tc l) id) (hb : ∀ l, RG (k l) body (f l) (PN k)) (hr : ∀ l, RG (k l) rest (tr l) P) : RG ks (mSeq (whileGo c body n) rest) ((TM.whileT tc f n l0).bind tr) P := s_seq (fun env ds hk => while_T hc hb n l0 env ds (h0.ok hk)) hr
theorem while_B {c : ME Bool} {body : MS} {k : L → List Kn} {e : R → PyData} {tc : L → TM Bool} {f : L → TM (L ⊕ R)} (hc : ∀ l, RE (k l) c (tc l) id) (hb : ∀ l, RG (k l) body (f l) (PB k e)) : ∀ (n : Nat) (l : L), RG (k l) (whileGo c body n) (TM.whileB tc f n l) (PB k e)
  | 0, l => fun env ds hk o ds' q => by cases q
  | n + 1, l => fun env ds hk o ds' q => by
    change (tc l ds).bind _ = some (o, ds') at q
    unfold whileGo
    rcases h : tc l ds with _ | ⟨z | x, ds1⟩
    · rw [h] at q; cases q
    · rw [h] at q
      rw [hc l env ds hk _ _ h]
      rw [rb_ok] at q
      cases z with
      | false =>
        rw [if_neg Bool.false_ne_true] at q
        cases q
        exact ⟨_, rfl, env, rfl, hk⟩
      | true =>
        rw [if_pos rfl] at q
        change (f l ds1).bind _ = some (o, ds') at q
        dsimp only [Out.map, id]
        rcases hf : f l ds1 with _ | ⟨(l1 | y) | x, ds2⟩
        · rw [hf] at q; cases q
        · rw [hf] at q
          obtain ⟨fl, h3, env2, rfl, h4⟩ := hb l env ds1 hk _ _ hf
          rw [h3]
          exact while_B hc hb n l1 env2 ds2 h4 o ds' q
        · rw [hf] at q
          obtain ⟨fl, h3, rfl⟩ := hb l env ds1 hk _ _ hf
          rw [h3]
          cases q
          exact ⟨_, rfl, rfl⟩
        · rw [hf] at q
          cases q
          obtain ⟨env2, h3⟩ := hb l env ds1 hk _ _ hf
          rw [h3]
          exact ⟨env2, rfl⟩
    · rw [h] at q
      cases q
      rw [hc l env ds hk _ _ h]
      exact ⟨env, rfl⟩
theorem s_whileB {c : ME Bool} {body : MS} {n : Nat} {k : L → List Kn} {e : R → PyData} {tc : L → TM Bool} {f : L → TM (L ⊕ R)} {l0 : L} {tr : L → TM ρ} {g : R → ρ} (h0 : LeK ks (k l0)) (hc : ∀ l, RE (k l) c (tc l) id) (hb : ∀ l, RG (k l) body (f l) (PB k e)) (hr : ∀ l, RG (k l) rest (tr l) P) (hp : ∀ r, P (g r) (.rt (e r))) : RG ks (mSeq (whileGo c body n) rest) ((TM.whileB tc f n l0).bindB tr g) P := s_seqB (fun env ds hk => while_B hc hb n l0 env ds (h0.ok hk)) hr hp
/-! try: the handler needs nothing of the slots -/
theorem s_try {kx : Exn → Bool} {mb ms : MS} {d : PyData} {h : ρ} (hb : RG ks mb t P) (hh : ∀ env ds, ms env ds = some (.rt d, ds)) (hp : P h (.rt d)) (hn : ∀ r fl, P r fl → ∀ x env', fl ≠ .ex x env') : RG ks (mTry kx mb ms) (TM.tryT kx t (TM.pure h)) P := fun env ds hk o ds' q => by
  unfold TM.tryT at q
  unfold mTry
  rcases ht : t ds with _ | ⟨r | x, ds1⟩
  · rw [ht] at q; cases q
  · rw [ht] at q
    cases q
    obtain ⟨fl, h1, h2⟩ := hb env ds hk _ _ ht
    refine ⟨fl, ?_, h2⟩
    rw [h1]
    cases fl with
    | ex x env' => exact absurd rfl (hn _ _ h2 x env')
    | _ => rfl
  · rw [ht] at q
    obtain ⟨env1, h1⟩ := hb env ds hk _ _ ht
    rw [h1]
    dsimp only at q ⊢
    cases hx : kx x with
    | true =>
      rw [hx] at q
      cases q
      refine ⟨.rt d, ?_, hp⟩
      rw [if_pos rfl, hh]
      rfl
    | false =>
      rw [hx] at q
      cases q
      exact ⟨env1, rfl⟩
theorem PR.nx {e : R → PyData} : ∀ r fl, PR e r fl → ∀ x env', fl ≠ .ex x env' := fun r fl h x env' z => by
  subst z
  rcases h with h | ⟨_, h, _⟩ <;> cases h
/-! functions -/
theorem rf_run {nN np : Nat} {args : List Sl} {e : ρ → PyData} (h : RG ((args ++ List.replicate (nN - np) Sl.un).map Kn.v) m t (PR e)) : RF (runB nN np false m) args t e := fun ds o ds' q => by
  have z := h _ ds (KnR.self _) o ds' q
  unfold runB
  cases o with
  | ok r =>
    obtain ⟨fl, h1, h2⟩ := z
    rw [h1]
    rcases h2 with rfl | ⟨env', rfl, h3⟩
    · rfl
    · show (if false = true then none else some (Out.ok PyData.none, ds')) = some (Out.ok (e r), ds')
      rw [if_neg Bool.false_ne_true, h3]
  | exc x =>
    obtain ⟨env', h1⟩ := z
    rw [h1]
    rfl
end
end DL

/-! DT4: how plain values are data; the facts of the operators. -/
namespace DL
open PySem PySem.Spec L2
open PyProof.Rows hiding St

section
variable {α β γ δ : Type}
def eT (e : α → PyData) (xs : List α) : PyData := .tuple (xs.map e)
def eL (e : α → PyData) (xs : List α) : PyData := .list (xs.map e)
def e1 (a : α → PyData) (p : α) : PyData := .tuple [a p]
def e2 (a : α → PyData) (b : β → PyData) (p : α × β) : PyData := .tuple [a p.1, b p.2]
def e3 (a : α → PyData) (b : β → PyData) (c : γ → PyData) (p : α × β × γ) : PyData := .tuple [a p.1, b p.2.1, c p.2.2]
def e4 (a : α → PyData) (b : β → PyData) (c : γ → PyData) (d : δ → PyData) (p : α × β × γ × δ) : PyData := .tuple [a p.1, b p.2.1, c p.2.2.1, d p.2.2.2]
def eO (e : α → PyData) : Option α → PyData
  | none => .none
  | some x => e x
def eU (_ : Unit) : PyData := .none
def eA (d : PyData) : PyData := d
/-! equality -/
structure EqE [DecidableEq α] (e : α → PyData) (n : Nat) : Prop where
  eq : ∀ x y, PyData.eqv (e x) (e y) = decide (x = y)
  lay : ∀ x, (e x).canLay0 = true
  dep : ∀ x, (e x).depth ≤ n
theorem eqE_int : EqE PyData.int 1 := ⟨fun x y => by show (x == y) = _; by_cases h : x = y <;> simp [h], fun _ => rfl, fun _ => by simp [PyData.depth]⟩
theorem eqE_bool : EqE PyData.bool 1 := ⟨fun x y => by show (x == y) = _; by_cases h : x = y <;> simp [h], fun _ => rfl, fun _ => by simp [PyData.depth]⟩
theorem eqE_unit : EqE eU 1 := ⟨fun x y => by cases x; cases y; rfl, fun _ => rfl, fun _ => by simp [eU, PyData.depth]⟩
variable [DecidableEq α] [DecidableEq β] [DecidableEq γ] [DecidableEq δ] {e : α → PyData} {a : α → PyData} {b : β → PyData} {c : γ → PyData} {d : δ → PyData} {n n' n'' n''' : Nat}
theorem eqvAll_map (h : EqE e n) : ∀ xs ys : List α, PyData.eqvAll (xs.map e) (ys.map e) = decide (xs = ys)
  | [], [] => rfl
  | [], _ :: _ => rfl
  | _ :: _, [] => rfl
  | x :: xs, y :: ys => by
    show (PyData.eqv (e x) (e y) && PyData.eqvAll (xs.map e) (ys.map e)) = _
    rw [h.eq, eqvAll_map h xs ys]
    by_cases h1 : x = y <;> by_cases h2 : xs = ys <;> simp [h1, h2]
theorem layAll_map (h : EqE e n) : ∀ xs : List α, PyData.canLayAll0 (xs.map e) = true
  | [] => rfl
  | x :: xs => by
    show ((e x).canLay0 && PyData.canLayAll0 (xs.map e)) = true
    rw [h.lay, layAll_map h xs]
    rfl
theorem depAll_map (h : EqE e n) : ∀ xs : List α, PyData.depthAll (xs.map e) ≤ n
  | [] => Nat.zero_le _
  | x :: xs => by
    show max (e x).depth (PyData.depthAll (xs.map e)) ≤ n
    have h1 := h.dep x
    have h2 := depAll_map h xs
    omega
theorem dep_tup (xs : List PyData) : (PyData.tuple xs).depth = PyData.depthAll xs + 1 := by simp [PyData.depth]
theorem dep_list (xs : List PyData) : (PyData.list xs).depth = PyData.depthAll xs + 1 := by simp [PyData.depth]
theorem eqE_T (h : EqE e n) : EqE (eT e) (n + 1) := ⟨fun x y => eqvAll_map h x y, fun x => layAll_map h x, fun x => by
  have := depAll_map h x
  unfold eT
  rw [dep_tup]
  omega⟩
theorem eqE_L (h : EqE e n) : EqE (eL e) (n + 1) := ⟨fun x y => eqvAll_map h x y, fun x => layAll_map h x, fun x => by
  have := depAll_map h x
  unfold eL
  rw [dep_list]
  omega⟩
theorem eqE_1 (ha : EqE a n) : EqE (e1 a) (n + 1) := ⟨fun x y => by
  show (PyData.eqv (a x) (a y) && true) = _
  rw [ha.eq, Bool.and_true], fun x => by
  show ((a x).canLay0 && true) = true
  rw [ha.lay]; rfl, fun x => by
  have := ha.dep x
  unfold e1
  rw [dep_tup]
  show max (a x).depth 0 + 1 ≤ _
  omega⟩
theorem eqE_2 (ha : EqE a n) (hb : EqE b n') : EqE (e2 a b) (max n n' + 1) := ⟨fun x y => by
  obtain ⟨x1, x2⟩ := x
  obtain ⟨y1, y2⟩ := y
  show (PyData.eqv (a x1) (a y1) && (PyData.eqv (b x2) (b y2) && true)) = _
  rw [ha.eq, hb.eq, Bool.and_true]
  by_cases h1 : x1 = y1 <;> by_cases h2 : x2 = y2 <;> simp [h1, h2], fun x => by
  show ((a x.1).canLay0 && ((b x.2).canLay0 && true)) = true
  rw [ha.lay, hb.lay]; rfl, fun x => by
  have h1 := ha.dep x.1
  have h2 := hb.dep x.2
  unfold e2
  rw [dep_tup]
  show max (a x.1).depth (max (b x.2).depth 0) + 1 ≤ _
  omega⟩
theorem eqE_3 (ha : EqE a n) (hb : EqE b n') (hc : EqE c n'') : EqE (e3 a b c) (max n (max n' n'') + 1) := ⟨fun x y => by
  obtain ⟨x1, x2, x3⟩ := x
  obtain ⟨y1, y2, y3⟩ := y
  show (PyData.eqv (a x1) (a y1) && (PyData.eqv (b x2) (b y2) && (PyData.eqv (c x3) (c y3) && true))) = _
  rw [ha.eq, hb.eq, hc.eq, Bool.and_true]
  by_cases h1 : x1 = y1 <;> by_cases h2 : x2 = y2 <;> by_cases h3 : x3 = y3 <;> simp [h1, h2, h3], fun x => by
  show ((a x.1).canLay0 && ((b x.2.1).canLay0 && ((c x.2.2).canLay0 && true))) = true
  rw [ha.lay, hb.lay, hc.lay]; rfl, fun x => by
  have h1 := ha.dep x.1
  have h2 := hb.dep x.2.1
  have h3 := hc.dep x.2.2
  unfold e3
  rw [dep_tup]
  show max (a x.1).depth (max (b x.2.1).depth (max (c x.2.2).depth 0)) + 1 ≤ _
  omega⟩
theorem eqE_O (h : EqE e n) (hn : ∀ x, isNone (e x) = false) : EqE (eO e) (n + 1) := ⟨fun x y => by
  cases x <;> cases y
  · rfl
  · rename_i y
    show PyData.eqv .none (e y) = false
    have := hn y
    revert this
    cases e y <;> intro h <;> first | rfl | cases h
  · rename_i x
    show PyData.eqv (e x) .none = false
    have := hn x
    revert this
    cases e x <;> intro h <;> first | rfl | cases h
  · rename_i x y
    show PyData.eqv (e x) (e y) = _
    rw [h.eq]
    by_cases q : x = y <;> simp [q], fun x => by
  cases x
  · rfl
  · exact h.lay _, fun x => by
  cases x
  · simp [eO, PyData.depth]
  · exact Nat.le_succ_of_le (h.dep _)⟩
theorem EqE.shaped (h : EqE e n) (hn : n ≤ 64 := by decide) (x : α) : SeqAt.shaped (e x) = true := by
  unfold SeqAt.shaped
  rw [h.lay, decide_eq_true (Nat.le_trans (h.dep x) hn)]
  rfl
theorem EqE.shL (h : EqE e n) (hn : n ≤ 63 := by decide) (xs : List α) : SeqAt.shaped (.list (xs.map e)) = true := (eqE_L h).shaped (Nat.succ_le_succ hn) xs
theorem EqE.shT (h : EqE e n) (hn : n ≤ 63 := by decide) (xs : List α) : SeqAt.shaped (.tuple (xs.map e)) = true := (eqE_T h).shaped (Nat.succ_le_succ hn) xs
theorem o_eq (h : EqE e n) (x y : α) (hn : n ≤ 64 := by decide) : fEq (e x) (e y) = some (.bool (decide (x = y))) := by
  unfold fEq
  rw [h.shaped hn, h.shaped hn, h.eq]
  rfl
theorem o_ne (h : EqE e n) (x y : α) (hn : n ≤ 64 := by decide) : fNe (e x) (e y) = some (.bool (!decide (x = y))) := by
  unfold fNe
  rw [h.shaped hn, h.shaped hn, h.eq]
  rfl
def memT (x : α) (xs : List α) : Bool := decide (x ∈ xs)
theorem memT_true {x : α} {xs : List α} (h : x ∈ xs) : memT x xs = true := decide_eq_true h
theorem memT_false {x : α} {xs : List α} (h : x ∉ xs) : memT x xs = false := decide_eq_false h
theorem memT_iff (x : α) (xs : List α) : memT x xs = true ↔ x ∈ xs := decide_eq_true_iff
theorem any_map (h : EqE e n) (x : α) (xs : List α) : ((xs.map e).any fun z => PyData.eqv z (e x)) = decide (x ∈ xs) := by
  rw [List.any_map]
  induction xs with
  | nil => rfl
  | cons y r ih =>
    rw [List.any_cons, ih]
    show (PyData.eqv (e y) (e x) || _) = _
    rw [h.eq]
    by_cases h1 : y = x
    · subst h1; simp
    · have h2 : ¬ x = y := fun z => h1 z.symm
      simp [h1, h2]
theorem o_inL (h : EqE e n) (x : α) (xs : List α) (hn : n ≤ 63 := by decide) : fIn (e x) (.list (xs.map e)) = some (.bool (memT x xs)) := by
  unfold fIn
  dsimp only
  rw [h.shaped (Nat.le_succ_of_le hn), h.shL hn, any_map h]
  rfl
theorem o_inT (h : EqE e n) (x : α) (xs : List α) (hn : n ≤ 63 := by decide) : fIn (e x) (.tuple (xs.map e)) = some (.bool (memT x xs)) := by
  unfold fIn
  dsimp only
  rw [h.shaped (Nat.le_succ_of_le hn), h.shT hn, any_map h]
  rfl
theorem o_ninL (h : EqE e n) (x : α) (xs : List α) (hn : n ≤ 63 := by decide) : fNotIn (e x) (.list (xs.map e)) = some (.bool (!memT x xs)) := by
  unfold fNotIn
  dsimp only
  rw [h.shaped (Nat.le_succ_of_le hn), h.shL hn, any_map h]
  rfl
theorem o_ninT (h : EqE e n) (x : α) (xs : List α) (hn : n ≤ 63 := by decide) : fNotIn (e x) (.tuple (xs.map e)) = some (.bool (!memT x xs)) := by
  unfold fNotIn
  dsimp only
  rw [h.shaped (Nat.le_succ_of_le hn), h.shT hn, any_map h]
  rfl
def idxT (xs : List α) (x : α) : Option Int := (xs.idxOf? x).map fun (j : Nat) => (j : Int)
theorem ixFrom_map (h : EqE e n) (x : α) : ∀ (xs : List α) (k : Nat), ixFrom (e x) k (xs.map e) = (xs.idxOf? x).map (k + ·)
  | [], _ => rfl
  | y :: r, k => by
    show (if PyData.eqv (e y) (e x) then some k else ixFrom (e x) (k + 1) (r.map e)) = _
    rw [h.eq, ixFrom_map h x r]
    rw [List.idxOf?_cons]
    by_cases q : y = x
    · rw [if_pos (by simp [q]), if_pos (by simp [q])]; rfl
    · rw [if_neg (by simp [q]), if_neg (by simp [q]), Option.map_map]
      congr 1
      funext z
      show k + 1 + z = k + (z + 1)
      omega
theorem o_index (h : EqE e n) (x : α) (xs : List α) (hn : n ≤ 63 := by decide) : fIndex (.list (xs.map e)) (e x) = (idxT xs x).map PyData.int := by
  unfold fIndex
  dsimp only
  rw [h.shaped (Nat.le_succ_of_le hn), h.shL hn, ixFrom_map h]
  unfold idxT
  rw [if_pos (show (true && true) = true from rfl), Option.map_map, Option.map_map]
  congr 1
  funext z
  show PyData.int ((0 + z : Nat) : Int) = .int (z : Int)
  rw [Nat.zero_add]
end
section
variable {α β γ : Type} {e : α → PyData} {ks : List Kn}
/-! ints -/
theorem o_add (a b : Int) : fAdd (.int a) (.int b) = some (.int (a + b)) := rfl
theorem o_sub (a b : Int) : fSub (.int a) (.int b) = some (.int (a - b)) := rfl
theorem o_mulR {a b : Int} (h : -(2 ^ 64) < b ∧ b < 2 ^ 64 := by decide) : fMul (.int a) (.int b) = some (.int (a * b)) := by
  unfold fMul
  dsimp only
  rw [decide_eq_true h, Bool.or_true]
  rfl
theorem o_mulL {a b : Int} (h : -(2 ^ 64) < a ∧ a < 2 ^ 64 := by decide) : fMul (.int a) (.int b) = some (.int (a * b)) := by
  unfold fMul
  dsimp only
  rw [decide_eq_true h, Bool.true_or]
  rfl
theorem o_mod {a b : Int} (h : 0 < b := by decide) : fMod (.int a) (.int b) = some (.int (a % b)) := by
  unfold fMod
  dsimp only
  rw [decide_eq_true h]
  rfl
theorem o_fdiv {a b : Int} (h : 0 < b ∧ b < 1073741824 := by decide) : fFdiv (.int a) (.int b) = some (.int (a / b)) := by
  unfold fFdiv
  dsimp only
  rw [decide_eq_true h]
  rfl
@[irreducible] def mulT (a b : Int) : Option Int := if (-(2 ^ 64) < a ∧ a < 2 ^ 64) ∨ (-(2 ^ 64) < b ∧ b < 2 ^ 64) then some (a * b) else none
theorem o_mulT (a b : Int) : fMul (.int a) (.int b) = (mulT a b).map PyData.int := by
  unfold fMul mulT
  dsimp only
  by_cases h1 : -(2 ^ 64) < a ∧ a < 2 ^ 64
  · rw [if_pos (by rw [decide_eq_true h1]; rfl), if_pos (.inl h1)]; rfl
  · by_cases h2 : -(2 ^ 64) < b ∧ b < 2 ^ 64
    · rw [if_pos (by rw [decide_eq_true h2, Bool.or_true]), if_pos (.inr h2)]; rfl
    · rw [if_neg (by rw [decide_eq_false h1, decide_eq_false h2]; exact Bool.false_ne_true), if_neg (by rintro (h | h); exact h1 h; exact h2 h)]; rfl
@[irreducible] def shlT (a b : Int) : Option Int := if 0 ≤ b ∧ b ≤ 1000 ∧ a.natAbs < 2 ^ 64 then some (a * 2 ^ b.toNat) else none
theorem o_shl (a b : Int) : fShl (.int a) (.int b) = (shlT a b).map PyData.int := by
  unfold fShl shlT
  dsimp only
  by_cases h : 0 ≤ b ∧ b ≤ 1000 ∧ a.natAbs < 2 ^ 64
  · rw [if_pos (decide_eq_true h), if_pos h]; rfl
  · rw [if_neg (by rw [decide_eq_false h]; exact Bool.false_ne_true), if_neg h]; rfl
@[irreducible] def fdivT (a b : Int) : Option Int := if 0 < b ∧ b < 1073741824 then some (a / b) else none
theorem o_fdivT (a b : Int) : fFdiv (.int a) (.int b) = (fdivT a b).map PyData.int := by
  unfold fFdiv fdivT
  dsimp only
  by_cases h : 0 < b ∧ b < 1073741824
  · rw [if_pos (decide_eq_true h), if_pos h]; rfl
  · rw [if_neg (by rw [decide_eq_false h]; exact Bool.false_ne_true), if_neg h]; rfl
@[irreducible] def modT (a b : Int) : Option Int := if 0 < b then some (a % b) else none
theorem o_modT (a b : Int) : fMod (.int a) (.int b) = (modT a b).map PyData.int := by
  unfold fMod modT
  dsimp only
  by_cases h : 0 < b
  · rw [if_pos (decide_eq_true h), if_pos h]; rfl
  · rw [if_neg (by rw [decide_eq_false h]; exact Bool.false_ne_true), if_neg h]; rfl
theorem o_lt (a b : Int) : fLt (.int a) (.int b) = some (.bool (decide (a < b))) := rfl
theorem o_le (a b : Int) : fLe (.int a) (.int b) = some (.bool (decide (a ≤ b))) := rfl
theorem o_gt (a b : Int) : fGt (.int a) (.int b) = some (.bool (decide (b < a))) := rfl
theorem o_ge (a b : Int) : fGe (.int a) (.int b) = some (.bool (decide (b ≤ a))) := rfl
theorem o_neg (a : Int) : fNeg (.int a) = some (.int (-a)) := rfl
theorem o_abs (a : Int) : fAbs (.int a) = some (.int (if a < 0 then -a else a)) := rfl
theorem o_int (a : Int) : fInt (.int a) = some (.int a) := rfl
theorem o_intB (a : Bool) : fInt (.bool a) = some (.int (if a then 1 else 0)) := rfl
theorem o_notB (a : Bool) : fNot (.bool a) = some (.bool (!a)) := rfl
theorem o_max2 (a b : Int) : fMax2 (.int a) (.int b) = some (.int (if b > a then b else a)) := rfl
theorem o_min2 (a b : Int) : fMin2 (.int a) (.int b) = some (.int (if b < a then b else a)) := rfl
/-! sequences -/
@[irreducible] def catT (x y : List α) : Option (List α) := if x.length + y.length ≤ 16777216 then some (x ++ y) else none
theorem short_dec (n : Nat) : short n = decide (n ≤ 16777216) := by unfold short; rw [sizeLine_eq]
theorem o_addT (e : α → PyData) (x y : List α) : fAdd (.tuple (x.map e)) (.tuple (y.map e)) = (catT x y).map (eT e) := by
  unfold fAdd catT
  dsimp only
  rw [List.length_map, List.length_map, short_dec]
  by_cases h : x.length + y.length ≤ 16777216
  · rw [if_pos (decide_eq_true h), if_pos h, ← List.map_append]; rfl
  · rw [if_neg (by rw [decide_eq_false h]; exact Bool.false_ne_true), if_neg h]; rfl
theorem o_addL (e : α → PyData) (x y : List α) : fAdd (.list (x.map e)) (.list (y.map e)) = (catT x y).map (eL e) := by
  unfold fAdd catT
  dsimp only
  rw [List.length_map, List.length_map, short_dec]
  by_cases h : x.length + y.length ≤ 16777216
  · rw [if_pos (decide_eq_true h), if_pos h, ← List.map_append]; rfl
  · rw [if_neg (by rw [decide_eq_false h]; exact Bool.false_ne_true), if_neg h]; rfl
theorem catT_ok {x y : List α} (h : x.length + y.length ≤ 16777216) : catT x y = some (x ++ y) := by unfold catT; exact if_pos h
theorem appT_ok {x : List α} {y : α} (h : x.length < 16777216) : appT x y = some (x ++ [y]) := by unfold appT; exact if_pos h
theorem atI_map (f : α → β) (xs : List α) (i : Int) : atI (xs.map f) i = (atI xs i).map f := by
  unfold atI
  rw [List.length_map]
  cases ixN xs.length i with
  | none => rfl
  | some j => exact List.getElem?_map
theorem o_ixT (e : α → PyData) (xs : List α) (i : Int) : fIx (.tuple (xs.map e)) (.int i) = (atI xs i).map e := atI_map e xs i
theorem o_ixL (e : α → PyData) (xs : List α) (i : Int) : fIx (.list (xs.map e)) (.int i) = (atI xs i).map e := atI_map e xs i
theorem atI_nat {xs : List α} {i : Int} {x : α} (h : 0 ≤ i) (hx : xs[i.toNat]? = some x) : atI xs i = some x := by
  have hl := (List.getElem?_eq_some_iff.mp hx).1
  unfold atI ixN
  rw [if_pos h, if_pos (by omega)]
  exact hx
theorem o_lenT (e : α → PyData) (xs : List α) : fLen (.tuple (xs.map e)) = some (.int (xs.length : Int)) := by
  show some (PyData.int ((xs.map e).length : Int)) = _
  rw [List.length_map]
theorem o_lenL (e : α → PyData) (xs : List α) : fLen (.list (xs.map e)) = some (.int (xs.length : Int)) := by
  show some (PyData.int ((xs.map e).length : Int)) = _
  rw [List.length_map]
theorem bools_map : ∀ bs : List Bool, boolsOf (bs.map .bool) = some bs
  | [] => rfl
  | b :: r => by show (boolsOf (r.map .bool)).map (b :: ·) = _; rw [bools_map r]; rfl
theorem ints_map : ∀ bs : List Int, intsOf (bs.map .int) = some bs
  | [] => rfl
  | b :: r => by show (intsOf (r.map .int)).map (b :: ·) = _; rw [ints_map r]; rfl
theorem o_all (bs : List Bool) : fAll (.list (bs.map .bool)) = some (.bool (bs.all id)) := by
  unfold fAll; dsimp only; rw [bools_map]; rfl
theorem o_any (bs : List Bool) : fAny (.list (bs.map .bool)) = some (.bool (bs.any id)) := by
  unfold fAny; dsimp only; rw [bools_map]; rfl
theorem o_sum (bs : List Int) : fSum (.list (bs.map .int)) = some (.int bs.sum) := by
  unfold fSum; dsimp only; rw [ints_map]; rfl
def maxT : List Int → Option Int
  | [] => none
  | m :: r => some (maxOf m r)
def minT : List Int → Option Int
  | [] => none
  | m :: r => some (minOf m r)
theorem o_max (bs : List Int) : fMax (.list (bs.map .int)) = (maxT bs).map PyData.int := by
  unfold fMax; dsimp only; rw [ints_map]; cases bs <;> rfl
theorem o_min (bs : List Int) : fMin (.list (bs.map .int)) = (minT bs).map PyData.int := by
  unfold fMin; dsimp only; rw [ints_map]; cases bs <;> rfl
theorem cutL_map (f : α → β) (xs : List α) (lo hi : Option Int) : cutL (xs.map f) lo hi = (cutL xs lo hi).map f := by
  unfold cutL
  rw [List.length_map, List.map_take, List.map_drop]
theorem v_part {a : ME PyData} {i : Int} (h : RV ks a (.int i)) : RV ks (mPart a) (some i) := rv_vbind h (rv_lift rfl)
theorem v_noPart : RV ks mNoPart none := fun _ _ _ => rfl
theorem c_part {a : ME PyData} {t : TM Int} (h : RE ks a t PyData.int) : RE ks (mPart a) t some := by
  have q := re_bind (f := fun x => ME.lift (match x with | .int i => some (some i) | _ => none)) (tf := fun x => TM.pure x) (e := some) h fun x => re_liftP rfl
  rw [TM.bind_pure] at q
  exact q
theorem o_slT (e : α → PyData) (xs : List α) (lo hi : Option Int) : fSlice (.tuple (xs.map e)) lo hi = some (.tuple ((cutL xs lo hi).map e)) := by
  show some (PyData.tuple (cutL (xs.map e) lo hi)) = _
  rw [cutL_map]
theorem o_slL (e : α → PyData) (xs : List α) (lo hi : Option Int) : fSlice (.list (xs.map e)) lo hi = some (.list ((cutL xs lo hi).map e)) := by
  show some (PyData.list (cutL (xs.map e) lo hi)) = _
  rw [cutL_map]
theorem v_slice {a : ME PyData} {l h : ME (Option Int)} {x z : PyData} {lo hi : Option Int} (ha : RV ks a x) (hl : RV ks l lo) (hh : RV ks h hi) (hf : fSlice x lo hi = some z) : RV ks (mSlice a l h) z := rv_vbind ha (rv_vbind hl (rv_vbind hh (rv_lift hf)))
theorem o_isN (e : α → PyData) (h : ∀ x, isNone (e x) = false) (x : Option α) : fIs (eO e x) .none = some (.bool x.isNone) := by
  cases x with
  | none => rfl
  | some y => show some (PyData.bool (isNone (e y))) = _; rw [h]; rfl
theorem o_isNN (e : α → PyData) (h : ∀ x, isNone (e x) = false) (x : Option α) : fIsNot (eO e x) .none = some (.bool x.isSome) := by
  cases x with
  | none => rfl
  | some y => show some (PyData.bool (!isNone (e y))) = _; rw [h]; rfl
theorem v_index {o a : ME PyData} {x : PyData} {xs : List PyData} {z : PyData} (ho : RV ks o (.list xs)) (ha : RV ks a x) (hf : fIndex (.list xs) x = some z) : RV ks (mIndex o a) z := rv_vbind ho (rv_vbind (rv_lift rfl) (rv_vbind ha (rv_lift hf)))
theorem c_index {o a : ME PyData} {x : PyData} {xs : List PyData} {g : Option Int} (ho : RV ks o (.list xs)) (ha : RV ks a x) (hf : fIndex (.list xs) x = g.map PyData.int) : RE ks (mIndex o a) (TM.lift g) PyData.int := rv_bind ho (rv_bind (rv_lift rfl) (rv_bind ha (re_lift hf)))
/-! anything -/
def eqA (d e : PyData) : Option Bool := if SeqAt.shaped d && SeqAt.shaped e then some (PyData.eqv d e) else none
theorem o_eqA (d e : PyData) : fEq d e = (eqA d e).map PyData.bool := by
  unfold fEq eqA; split <;> rfl
def neA (d e : PyData) : Option Bool := if SeqAt.shaped d && SeqAt.shaped e then some (!PyData.eqv d e) else none
theorem o_neA (d e : PyData) : fNe d e = (neA d e).map PyData.bool := by
  unfold fNe neA; split <;> rfl
def asB (d : PyData) : Option Bool := match d with
  | .bool b => some b
  | _ => none
def asI (d : PyData) : Option Int := match d with
  | .int b => some b
  | _ => none
theorem asI_ok {d : PyData} {i : Int} (h : asI d = some i) : d = .int i := by
  unfold asI at h; split at h <;> cases h; rfl
/-- a computation of data whose values are seen as of a form -/
theorem RE.cast {m : ME PyData} {t : TM PyData} {e : α → PyData} {g : PyData → Option α} (h : RE ks m t id) (hg : ∀ d x, g d = some x → e x = d) : RE ks m (t.bind fun d => TM.lift (g d)) e := fun env ds hk o ds' q => by
  change (t ds).bind _ = some (o, ds') at q
  rcases ht : t ds with _ | ⟨d | x, ds1⟩
  · rw [ht] at q; cases q
  · rw [ht] at q
    rw [h env ds hk _ _ ht]
    rw [rb_ok] at q
    cases hd : g d with
    | none => rw [hd] at q; cases q
    | some x =>
      rw [hd] at q
      cases q
      show some (Out.ok d, _) = some (Out.ok (e x), _)
      rw [hg d x hd]
  · rw [ht] at q
    cases q
    rw [h env ds hk _ _ ht]
    rfl
theorem RE.castV {m : ME PyData} {d : PyData} {e : α → PyData} {g : PyData → Option α} (h : RV ks m d) (hg : ∀ d x, g d = some x → e x = d) : RE ks m (TM.lift (g d)) e := RE.cast (t := TM.pure d) (RV.re h) hg
/-! two clauses -/
def comp2A (p : α → TM Bool) (mi : α → TM (List β)) (q : α → β → TM Bool) (g : α → β → TM γ) : List α → List γ → TM (List γ)
  | [], acc => TM.pure acc
  | x :: r, acc => (p x).noex.bind fun k => if k then (mi x).noex.bind fun ys => if acc.length + ys.length ≤ 16777216 then (TM.compM (q x) (g x) ys).bind fun zs => comp2A p mi q g r (acc ++ zs) else TM.fail else comp2A p mi q g r acc
theorem comp2A_pure {p : α → TM Bool} {mi : α → TM (List β)} {q : α → β → TM Bool} {g : α → β → TM γ} {p' : α → Bool} {mi' : α → List β} {q' : α → β → Bool} {g' : α → β → γ} {b : Nat} : ∀ (xs : List α) (acc : List γ), (∀ x ∈ xs, p x = TM.pure (p' x) ∧ (p' x = true → mi x = TM.pure (mi' x) ∧ (mi' x).length ≤ b ∧ ∀ y ∈ mi' x, q x y = TM.pure (q' x y) ∧ (q' x y = true → g x y = TM.pure (g' x y)))) → acc.length + xs.length * b ≤ 16777216 →
    comp2A p mi q g xs acc = TM.pure (acc ++ (xs.filter p').flatMap fun x => ((mi' x).filter (q' x)).map (g' x))
  | [], acc, _, _ => by
    unfold comp2A
    rw [List.filter_nil, List.flatMap_nil, List.append_nil]
  | x :: r, acc, h, hl => by
    obtain ⟨h1, h2⟩ := h x List.mem_cons_self
    rw [List.length_cons, Nat.succ_mul] at hl
    unfold comp2A
    rw [h1, TM.noex_pure, TM.pure_bind, List.filter_cons]
    cases hp : p' x with
    | false =>
      rw [if_neg Bool.false_ne_true, if_neg Bool.false_ne_true]
      exact comp2A_pure r acc (fun y hy => h y (List.mem_cons_of_mem _ hy)) (by omega)
    | true =>
      obtain ⟨h3, h4, h5⟩ := h2 hp
      rw [if_pos rfl, if_pos rfl, h3, TM.noex_pure, TM.pure_bind, if_pos (by omega), TM.compM_pure (fun y hy => (h5 y hy).1) (fun y hy => (h5 y hy).2), TM.pure_bind]
      have hz : (((mi' x).filter (q' x)).map (g' x)).length ≤ b := by
        rw [List.length_map]
        exact Nat.le_trans (List.length_filter_le _ _) h4
      rw [comp2A_pure r _ (fun y hy => h y (List.mem_cons_of_mem _ hy)) (by rw [List.length_append]; omega), List.flatMap_cons, List.append_assoc]
theorem comp2Go_re {t t1 : Tg} {c c1 : ME Bool} {mi : ME (List PyData)} {vs1 : List Nat} {elt : ME PyData} {env : Ev} {ks1 : List Kn} {ks2 ks3 : α → List Kn} {ks4 : α → β → List Kn} {ea : α → PyData} {eb : β → PyData} {p : α → TM Bool} {ti : α → TM (List β)} {q : α → β → TM Bool} {g : α → β → TM γ} {e : γ → PyData} (hk : KnR ks1 env) (ht : ∀ x, TgK t (ea x) ks1 (ks2 x)) (hc : ∀ x, RE (ks2 x) c (p x) id) (hm : ∀ x, RE (ks2 x) mi (ti x) (List.map eb)) (hw : ∀ x, wipeK (ks2 x) vs1 = some (ks3 x)) (ht1 : ∀ x y, TgK t1 (eb y) (ks3 x) (ks4 x y)) (hc1 : ∀ x y, RE (ks4 x y) c1 (q x y) id) (he : ∀ x y, RE (ks4 x y) elt (g x y) e) :
    ∀ (xs : List α) (acc : List γ) (ds : DS) (o : Out (List γ)) (ds' : DS), comp2A p ti q g xs acc ds = some (o, ds') → ∃ ys, o = .ok ys ∧ comp2Go t c mi vs1 t1 c1 elt env (xs.map ea) ds (acc.map e) = some (ys.map e, ds')
  | [], acc, ds, o, ds', z => by
    cases z
    exact ⟨acc, rfl, rfl⟩
  | x :: r, acc, ds, o, ds', z => by
    obtain ⟨env1, h1, h2⟩ := ht x env hk
    obtain ⟨env2, w1, w2⟩ := wipeK_ok h2 (hw x)
    change (TM.noex (p x) ds).bind _ = some (o, ds') at z
    unfold TM.noex at z
    rw [List.map_cons]
    unfold comp2Go
    rw [h1]
    dsimp only
    rcases hp : p x ds with _ | ⟨k | x', ds1⟩
    · rw [hp] at z; cases z
    · rw [hp] at z
      rw [hc x env1 ds h2 _ _ hp]
      dsimp only at z
      rw [rb_ok] at z
      dsimp only [Out.map, id]
      cases k with
      | false =>
        rw [if_neg Bool.false_ne_true] at z
        exact comp2Go_re hk ht hc hm hw ht1 hc1 he r acc ds1 o ds' z
      | true =>
        rw [if_pos rfl] at z
        change (TM.noex (ti x) ds1).bind _ = some (o, ds') at z
        unfold TM.noex at z
        dsimp only
        rcases hg : ti x ds1 with _ | ⟨ys | x', ds2⟩
        · rw [hg] at z; cases z
        · rw [hg] at z
          rw [hm x env1 ds1 h2 _ _ hg]
          dsimp only at z
          rw [rb_ok] at z
          dsimp only [Out.map]
          rw [w1]
          dsimp only
          by_cases hl : acc.length + ys.length ≤ 16777216
          · rw [if_pos hl] at z
            change (TM.compM (q x) (g x) ys ds2).bind _ = some (o, ds') at z
            rcases hr : TM.compM (q x) (g x) ys ds2 with _ | ⟨o2, ds3⟩
            · rw [hr] at z; cases z
            · obtain ⟨zs, rfl, k2⟩ := compGo_re w2 (ht1 x) (hc1 x) (he x) ys (acc.map e) ds2 o2 ds3 (by rw [List.length_map]; exact hl) hr
              rw [hr] at z
              rw [k2]
              rw [rb_ok] at z
              dsimp only
              rw [← List.map_append]
              exact comp2Go_re hk ht hc hm hw ht1 hc1 he r (acc ++ zs) ds3 o ds' z
          · rw [if_neg hl] at z; cases z
        · rw [hg] at z; cases z
    · rw [hp] at z; cases z
theorem c_comp2I {vs vs1 : List Nat} {m0 mi : ME (List PyData)} {t t1 : Tg} {c c1 : ME Bool} {elt : ME PyData} {ks1 : List Kn} {ks2 ks3 : α → List Kn} {ks4 : α → β → List Kn} {ea : α → PyData} {eb : β → PyData} {xs : List α} {p : α → TM Bool} {ti : α → TM (List β)} {q : α → β → TM Bool} {g : α → β → TM γ} {e : γ → PyData} (hi : RV ks m0 (xs.map ea)) (hw0 : wipeK ks vs = some ks1) (ht : ∀ x, TgK t (ea x) ks1 (ks2 x)) (hc : ∀ x, RE (ks2 x) c (p x) id) (hm : ∀ x, RE (ks2 x) mi (ti x) (List.map eb)) (hw : ∀ x, wipeK (ks2 x) vs1 = some (ks3 x)) (ht1 : ∀ x y, TgK t1 (eb y) (ks3 x) (ks4 x y)) (hc1 : ∀ x y, RE (ks4 x y) c1 (q x y) id) (he : ∀ x y, RE (ks4 x y) elt (g x y) e) :
    RE ks (mComp2 vs m0 t c mi vs1 t1 c1 elt) (comp2A p ti q g xs []) (List.map e) := rv_bind hi fun env ds hk o ds' z => by
  obtain ⟨env1, h1, h2⟩ := wipeK_ok hk hw0
  obtain ⟨ys, rfl, k2⟩ := comp2Go_re h2 ht hc hm hw ht1 hc1 he xs [] ds o ds' z
  rw [h1]
  change comp2Go t c mi vs1 t1 c1 elt env1 (xs.map ea) ds [] = _ at k2
  dsimp only
  rw [k2]
  rfl
theorem c_comp2 {vs vs1 : List Nat} {m0 mi : ME (List PyData)} {t t1 : Tg} {c c1 : ME Bool} {elt : ME PyData} {ks1 : List Kn} {ks2 ks3 : α → List Kn} {ks4 : α → β → List Kn} {ea : α → PyData} {eb : β → PyData} {t0 : TM (List α)} {p : α → TM Bool} {ti : α → TM (List β)} {q : α → β → TM Bool} {g : α → β → TM γ} {e : γ → PyData} (hi : RE ks m0 t0 (List.map ea)) (hw0 : wipeK ks vs = some ks1) (ht : ∀ x, TgK t (ea x) ks1 (ks2 x)) (hc : ∀ x, RE (ks2 x) c (p x) id) (hm : ∀ x, RE (ks2 x) mi (ti x) (List.map eb)) (hw : ∀ x, wipeK (ks2 x) vs1 = some (ks3 x)) (ht1 : ∀ x y, TgK t1 (eb y) (ks3 x) (ks4 x y)) (hc1 : ∀ x y, RE (ks4 x y) c1 (q x y) id) (he : ∀ x y, RE (ks4 x y) elt (g x y) e) :
    RE ks (mComp2 vs m0 t c mi vs1 t1 c1 elt) (t0.bind fun xs => comp2A p ti q g xs []) (List.map e) := re_bind hi fun xs env ds hk o ds' z => by
  obtain ⟨env1, h1, h2⟩ := wipeK_ok hk hw0
  obtain ⟨ys, rfl, k2⟩ := comp2Go_re h2 ht hc hm hw ht1 hc1 he xs [] ds o ds' z
  rw [h1]
  change comp2Go t c mi vs1 t1 c1 elt env1 (xs.map ea) ds [] = _ at k2
  dsimp only
  rw [k2]
  rfl
end
/-! dicts: the entries, by their keys -/
section
variable {κ α ρ : Type} [DecidableEq κ] {ks : List Kn} {P : ρ → Fl → Prop}
def aget (m : List (κ × α)) (k : κ) : Option α := (m.find? fun p => decide (p.1 = k)).map (·.2)
def ahas (m : List (κ × α)) (k : κ) : Bool := (aget m k).isSome
def aput (m : List (κ × α)) (k : κ) (x : α) : List (κ × α) := if ahas m k then m.map (fun p => if p.1 = k then (p.1, x) else p) else m ++ [(k, x)]
/-- keys -/
structure KeyE (ek : κ → PyData) (t : Bool) (el : κ → List Int) : Prop where
  key : ∀ k, keyOf t (ek k) = some (el k)
  inj : ∀ k k', keyEq t (el k) (el k') = decide (k = k')
theorem keyE_int : KeyE PyData.int false (fun i => [i]) := ⟨fun _ => rfl, fun k k' => by show (k == k') = _; by_cases h : k = k' <;> simp [h]⟩
theorem keyE_T : KeyE (eT PyData.int) true id := ⟨fun k => ints_map k, fun k k' => by show (k == k') = _; by_cases h : k = k' <;> simp [h]⟩
theorem keyE_2 : KeyE (e2 PyData.int PyData.int) true (fun p => [p.1, p.2]) := ⟨fun _ => rfl, fun k k' => by
  obtain ⟨a, b⟩ := k
  obtain ⟨c, d⟩ := k'
  show ([a, b] == [c, d]) = _
  by_cases h : a = c <;> by_cases h' : b = d <;> simp [h, h']⟩
def kvD (el : κ → List Int) (e : α → PyData) (m : List (κ × α)) : List (List Int × PyData) := m.map fun p => (el p.1, e p.2)
variable {ek : κ → PyData} {t : Bool} {el : κ → List Int} {e : α → PyData}
theorem dGet_kv (h : KeyE ek t el) (k : κ) : ∀ m : List (κ × α), dGet t (kvD el e m) (el k) = (aget m k).map e
  | [] => rfl
  | p :: r => by
    have ih := dGet_kv h k r
    unfold dGet aget kvD at ih ⊢
    rw [List.map_cons, List.find?_cons, List.find?_cons]
    dsimp only
    rw [h.inj]
    by_cases q : p.1 = k
    · simp [q]
    · simp only [q, decide_false]
      exact ih
theorem dHas_kv (h : KeyE ek t el) (k : κ) (m : List (κ × α)) : ((kvD el e m).any fun p => keyEq t p.1 (el k)) = ahas m k := by
  unfold ahas aget
  induction m with
  | nil => rfl
  | cons p r ih =>
    unfold kvD at ih ⊢
    rw [List.map_cons, List.any_cons, List.find?_cons, ih, h.inj]
    by_cases q : p.1 = k
    · simp [q]
    · simp [q]
theorem dPut_kv (h : KeyE ek t el) (k : κ) (x : α) (m : List (κ × α)) : dPut t (kvD el e m) (el k) (e x) = kvD el e (aput m k x) := by
  unfold dPut aput
  rw [dHas_kv h]
  cases ahas m k with
  | false => rw [if_neg Bool.false_ne_true, if_neg Bool.false_ne_true]; unfold kvD; rw [List.map_append]; rfl
  | true =>
    rw [if_pos rfl, if_pos rfl]
    unfold kvD
    rw [List.map_map, List.map_map]
    congr 1
    funext p
    show (if keyEq t (el p.1) (el k) then (el p.1, e x) else (el p.1, e p.2)) = _
    rw [h.inj]
    by_cases q : p.1 = k <;> simp [q]
theorem v_din {i : Nat} {a : ME PyData} {k : κ} {m : List (κ × α)} {y : PyData} (h : KeyE ek t el) (hi : kn ks i = some (.v (.dc t (kvD el e m)))) (ha : RV ks a y) (hy : y = ek k := by rfl) : RV ks (mDin i a) (.bool (ahas m k)) := by
  subst hy
  refine rv_vbind ha fun env ds hk => ?_
  unfold onD look
  rw [hk.at hi]
  dsimp only
  rw [h.key]
  show ME.lift (some (PyData.bool (dGet t (kvD el e m) (el k)).isSome)) env ds = _
  rw [dGet_kv h, Option.isSome_map]
  rfl
theorem v_dnot {i : Nat} {a : ME PyData} {k : κ} {m : List (κ × α)} {y : PyData} (h : KeyE ek t el) (hi : kn ks i = some (.v (.dc t (kvD el e m)))) (ha : RV ks a y) (hy : y = ek k := by rfl) : RV ks (mDnot i a) (.bool (!ahas m k)) := by
  subst hy
  refine rv_vbind ha fun env ds hk => ?_
  unfold onD look
  rw [hk.at hi]
  dsimp only
  rw [h.key]
  show ME.lift (some (PyData.bool (!(dGet t (kvD el e m) (el k)).isSome))) env ds = _
  rw [dGet_kv h, Option.isSome_map]
  rfl
theorem c_dget {i : Nat} {a : ME PyData} {k : κ} {m : List (κ × α)} {y : PyData} (h : KeyE ek t el) (hi : kn ks i = some (.v (.dc t (kvD el e m)))) (ha : RV ks a y) (hy : y = ek k := by rfl) : RE ks (mDget i a) (TM.lift (aget m k)) e := fun env ds hk o ds' q => by
  subst hy
  unfold mDget onD
  rw [hk.at hi]
  dsimp only
  refine rv_bind (f := fun d => ME.lift ((look t (kvD el e m) d).bind id)) (t := TM.lift (aget m k)) (e := e) ha (re_lift ?_) env ds hk o ds' q
  unfold look
  rw [h.key]
  exact dGet_kv h k m
@[irreducible] def dputT (m : List (κ × α)) (k : κ) (x : α) : Option (List (κ × α)) := if m.length < 1000000 then some (aput m k x) else none
theorem s_dput {i : Nat} {a b : ME PyData} {k : κ} {m : List (κ × α)} {x : α} {y z : PyData} {rest : MS} {tr : List (κ × α) → TM ρ} (h : KeyE ek t el) (hi : kn ks i = some (.v (.dc t (kvD el e m)))) (hb : RV ks b z) (ha : RV ks a y) (hr : ∀ m, RG (kset ks i (.v (.dc t (kvD el e m)))) rest (tr m) P) (hz : z = e x := by rfl) (hy : y = ek k := by rfl) : RG ks (mSeq (mDput i a b) rest) ((TM.lift (dputT m k x)).bind tr) P := s_exV hb fun env ds hk o ds' q => by
  subst hz hy
  unfold dputT at q
  by_cases hl : m.length < 1000000
  · rw [if_pos hl] at q
    have z := hr _ (env.set i (.dc t (kvD el e (aput m k x)))) ds (hk.set i _) o ds' q
    refine goAt (?_ : mSeq _ rest env ds = rest (env.set i (.dc t (kvD el e (aput m k x)))) ds) z
    refine mSeq_nx ?_
    rw [hk.at hi]
    dsimp only
    rw [exS_ev, ha env ds hk]
    dsimp only
    rw [h.key]
    dsimp only
    rw [if_pos (decide_eq_true (by unfold kvD; rw [List.length_map]; exact hl)), dPut_kv h]
  · rw [if_neg hl] at q; cases q
theorem s_setD {i : Nat} {m : ME DcL} {kvs : DcL} {rest : MS} {tt : TM ρ} (h : RV ks m kvs) (hl : Nat.ble kvs.length 1000 = true := by rfl) (hs : setOk ks i = true) (hr : RG (kset ks i (.v (.dc t kvs))) rest tt P) : RG ks (mSeq (mSetD i t m) rest) tt P := s_exV h fun env ds hk o ds' q => by
  obtain ⟨env', h1, h2⟩ := hk.put (x := .dc t kvs) hs
  have z := hr env' ds h2 o ds' q
  refine goAt (?_ : mSeq _ rest env ds = rest env' ds) z
  refine mSeq_nx ?_
  rw [if_pos (decide_eq_true (by have := Nat.le_of_ble_eq_true hl; omega)), h1]
theorem s_parCL {i j : Nat} {m : ME DcL} {n : ME (List PyData)} {kvs : DcL} {xs : List PyData} {rest : MS} {tt : TM ρ} (h : RV ks m kvs) (h' : RV ks n xs) (hs : setOk ks i = true) (hs' : setOk (kset ks i (.v (.dc t kvs))) j = true) (hr : RG (kset (kset ks i (.v (.dc t kvs))) j (.v (.l xs))) rest tt P) (hl : Nat.ble kvs.length 1000 = true := by rfl) : RG ks (mSeq (mParCL i j t m n) rest) tt P := s_exV h (s_exV h' fun env ds hk o ds' q => by
  obtain ⟨env1, h1, h2⟩ := hk.put (x := .dc t kvs) hs
  obtain ⟨env2, h3, h4⟩ := h2.put (x := .l xs) hs'
  have z := hr env2 ds h4 o ds' q
  refine goAt (?_ : mSeq _ rest env ds = rest env2 ds) z
  refine mSeq_nx ?_
  rw [if_pos (decide_eq_true (by have := Nat.le_of_ble_eq_true hl; omega))]
  unfold putS
  rw [h1]
  show (match DL.put j (.l xs) env1 with | some env' => _ | none => _) = _
  rw [h3])
theorem v_dempty : RV ks mDempty [] := fun _ _ _ => rfl
theorem v_done {a b : ME PyData} {y z : PyData} {zk : List Int} (ha : RV ks a y) (hb : RV ks b z) (hk : keyOf t y = some zk) : RV ks (mDone t a b) [(zk, z)] := rv_vbind ha (rv_vbind hb (rv_lift (by rw [hk]; rfl)))
end
end DL

/-! DT5: the typed layer: casts, anything, rests. -/
namespace DL
open PySem PySem.Spec L2
open PyProof.Rows hiding St

section
variable {α β γ ρ : Type} {ks : List Kn} {P : ρ → Fl → Prop}
/-! casts -/
theorem asI_e : ∀ (d : PyData) (x : Int), asI d = some x → PyData.int x = d := fun _ _ h => (asI_ok h).symm
theorem asB_e : ∀ (d : PyData) (x : Bool), asB d = some x → PyData.bool x = d := fun d x h => by
  unfold asB at h; split at h <;> cases h; rfl
def asAll (g : PyData → Option α) : List PyData → Option (List α)
  | [] => some []
  | d :: r => (g d).bind fun x => (asAll g r).map (x :: ·)
theorem asAll_e {e : α → PyData} {g : PyData → Option α} (h : ∀ d x, g d = some x → e x = d) : ∀ (ds : List PyData) (xs : List α), asAll g ds = some xs → xs.map e = ds
  | [], _, q => by cases q; rfl
  | d :: r, xs, q => by
    change (g d).bind _ = some xs at q
    cases hd : g d with
    | none => rw [hd] at q; cases q
    | some x =>
      rw [hd] at q
      change (asAll g r).map (x :: ·) = some xs at q
      obtain ⟨ys, h1, rfl⟩ := Option.map_eq_some_iff.mp q
      rw [List.map_cons, h d x hd, asAll_e h r ys h1]
def asT (g : PyData → Option α) : PyData → Option (List α)
  | .tuple ds => asAll g ds
  | _ => none
theorem asT_e {e : α → PyData} {g : PyData → Option α} (h : ∀ d x, g d = some x → e x = d) (d : PyData) (xs : List α) (q : asT g d = some xs) : eT e xs = d := by
  unfold asT at q
  split at q
  · exact congrArg PyData.tuple (asAll_e h _ _ q)
  · cases q
def asL (g : PyData → Option α) : PyData → Option (List α)
  | .list ds => asAll g ds
  | _ => none
theorem asL_e {e : α → PyData} {g : PyData → Option α} (h : ∀ d x, g d = some x → e x = d) (d : PyData) (xs : List α) (q : asL g d = some xs) : eL e xs = d := by
  unfold asL at q
  split at q
  · exact congrArg PyData.list (asAll_e h _ _ q)
  · cases q
def as2 (g : PyData → Option α) (g' : PyData → Option β) : PyData → Option (α × β)
  | .tuple [a, b] => (g a).bind fun x => (g' b).map fun y => (x, y)
  | _ => none
theorem as2_e {e : α → PyData} {e' : β → PyData} {g : PyData → Option α} {g' : PyData → Option β} (h : ∀ d x, g d = some x → e x = d) (h' : ∀ d x, g' d = some x → e' x = d) (d : PyData) (p : α × β) (q : as2 g g' d = some p) : e2 e e' p = d := by
  unfold as2 at q
  split at q
  · rename_i a b
    cases ha : g a with
    | none => rw [ha] at q; cases q
    | some x =>
      rw [ha] at q
      obtain ⟨y, h1, rfl⟩ := Option.map_eq_some_iff.mp q
      show PyData.tuple [e x, e' y] = _
      rw [h a x ha, h' b y h1]
  · cases q
def asO (g : PyData → Option α) : PyData → Option (Option α)
  | .none => some none
  | d => (g d).map some
theorem asO_e {e : α → PyData} {g : PyData → Option α} (h : ∀ d x, g d = some x → e x = d) (d : PyData) (p : Option α) (q : asO g d = some p) : eO e p = d := by
  unfold asO at q
  split at q
  · cases q; rfl
  · obtain ⟨y, h1, rfl⟩ := Option.map_eq_some_iff.mp q
    exact h _ _ h1
theorem asAll_map {e : α → PyData} {g : PyData → Option α} (h : ∀ x, g (e x) = some x) : ∀ xs : List α, asAll g (xs.map e) = some xs
  | [] => rfl
  | x :: r => by
    show (g (e x)).bind _ = _
    rw [h, asAll_map h r] <;> rfl
/-! anything -/
def lenA : PyData → Option Int
  | .list xs => some xs.length
  | .tuple xs => some xs.length
  | .str z => if short z.length then some z.length else none
  | _ => none
theorem o_lenA (d : PyData) : fLen d = (lenA d).map PyData.int := by
  cases d <;> first | rfl | (unfold fLen lenA; dsimp only; split <;> rfl)
theorem o_idA (o : Option PyData) : o = o.map eA := by cases o <;> rfl
def inA (d e : PyData) : Option Bool := match e with
  | .list ds => if SeqAt.shaped d && SeqAt.shaped (.list ds) then some (ds.any fun z => PyData.eqv z d) else none
  | .tuple ds => if SeqAt.shaped d && SeqAt.shaped (.tuple ds) then some (ds.any fun z => PyData.eqv z d) else none
  | _ => none
def ninA (d e : PyData) : Option Bool := (inA d e).map (!·)
theorem o_inA (d e : PyData) : fIn d e = (inA d e).map PyData.bool := by
  unfold fIn inA
  cases e <;> first | rfl | (dsimp only; split <;> rfl)
theorem o_ninA (d e : PyData) : fNotIn d e = (ninA d e).map PyData.bool := by
  unfold fNotIn ninA inA
  cases e <;> first | rfl | (dsimp only; split <;> rfl)
theorem c_itemsA {a : ME PyData} {d : PyData} (h : RV ks a d) : RE ks (mItems a) (TM.lift (itemsOf d)) (List.map eA) := rv_bind h (re_lift (by
  cases itemsOf d with
  | none => rfl
  | some xs => show some xs = some (xs.map eA); congr 1; exact (List.map_id xs).symm))
theorem c_itemsAC {a : ME PyData} {t : TM PyData} (h : RE ks a t eA) : RE ks (mItems a) (t.bind fun d => TM.lift (itemsOf d)) (List.map eA) := re_bind h fun d => re_lift (by
  show itemsOf d = _
  cases itemsOf d with
  | none => rfl
  | some xs => show some xs = some (xs.map eA); congr 1; exact (List.map_id xs).symm)
/-! what may be unset -/
def kopt (e : α → PyData) : Option α → Kn
  | none => .v .un
  | some x => .v (.d (e x))
theorem kopt_j (e : α → PyData) (o : Option α) : KLe (kopt e o) .j := by
  cases o
  · exact .u
  · exact .d
theorem kset_same : ∀ {ks : List Kn} {i : Nat} {k : Kn}, kn ks i = some k → kset ks i k = ks
  | [], _, _, h => nomatch h
  | _ :: _, 0, _, h => by cases h; rfl
  | x :: r, i + 1, k, h => congrArg (x :: ·) (kset_same (i := i) h)
theorem s_unopt (i : Nat) {e : α → PyData} {o : Option α} {rest : MS} {tr : α → TM ρ} (h : kn ks i = some (kopt e o)) (hr : ∀ x, RG (kset ks i (.v (.d (e x)))) rest (tr x) P) : RG ks rest ((TM.lift o).bind tr) P := fun env ds hk o' ds' q => by
  cases o with
  | none => cases q
  | some x =>
    have z := hr x env ds (by rw [show kset ks i (Kn.v (Sl.d (e x))) = ks from kset_same h]; exact hk) o' ds' q
    exact z
theorem s_letV {δ : Type} {i : Nat} {a : ME PyData} {x : δ} {e : δ → PyData} {rest : MS} {tr : δ → TM ρ} (h : RV ks a (e x)) (hs : setOk ks i = true) (hr : ∀ y, RG (kset ks i (.v (.d (e y)))) rest (tr y) P) : RG ks (mSeq (mSet i a) rest) (TM.tlet x tr) P := s_setV h hs (hr x)
theorem s_end' {m : MS} {t : TM ρ} (h : RG ks m t P) : RG ks (mSeq m mSkip) t P := h.cg fun env ds => (seq_end m env ds).symm
/-! sorted -/
@[irreducible] def srtT (e : α → PyData) (xs : List α) : Option (List α) := if sorts (xs.map e) then some (sortB (fun x y => ltD (e x) (e y)) xs) else none
theorem insM {lt : α → α → Bool} {lt' : β → β → Bool} (f : α → β) (h : ∀ x y, lt' (f x) (f y) = lt x y) (x : α) : ∀ ys : List α, insB lt' (f x) (ys.map f) = (insB lt x ys).map f
  | [] => rfl
  | y :: r => by
    show (if lt' (f y) (f x) then f y :: insB lt' (f x) (r.map f) else f x :: f y :: r.map f) = (if lt y x then y :: insB lt x r else x :: y :: r).map f
    rw [h, insM f h x r]
    split <;> rfl
theorem srtM {lt : α → α → Bool} {lt' : β → β → Bool} (f : α → β) (h : ∀ x y, lt' (f x) (f y) = lt x y) : ∀ xs : List α, sortB lt' (xs.map f) = (sortB lt xs).map f
  | [] => rfl
  | x :: r => by
    show insB lt' (f x) (sortB lt' (r.map f)) = (insB lt x (sortB lt r)).map f
    rw [srtM f h r, insM f h]
theorem o_sort (e : α → PyData) (xs : List α) : fSort (.list (xs.map e)) = (srtT e xs).map (List.map e) := by
  unfold fSort srtT sortD
  dsimp only
  rw [srtM (lt := fun x y => ltD (e x) (e y)) e fun _ _ => rfl]
  split <;> rfl
@[irreducible] def sortSetT (xs : List Int) : Option (List Int) := if xs.length < 64 then some (sortU xs) else none
theorem o_sortSet (xs : List Int) : fSortSet (.list (xs.map .int)) = (sortSetT xs).map (List.map PyData.int) := by
  unfold fSortSet sortSetT
  dsimp only
  rw [ints_map]
  show (if decide (xs.length < 64) then some ((sortU xs).map PyData.int) else none) = _
  by_cases h : xs.length < 64
  · rw [if_pos (decide_eq_true h), if_pos h]; rfl
  · rw [if_neg (by rw [decide_eq_false h]; exact Bool.false_ne_true), if_neg h]; rfl
@[irreducible] def reprT (d : PyData) : Option Str := if isSeq d && d.showable && !d.hasDict && decide (d.depth ≤ 60) && short d.shown.length then some d.shown else none
theorem o_repr (d : PyData) : fRepr d = (reprT d).map PyData.str := by
  unfold fRepr reprT; split <;> rfl
/-! repeats -/
@[irreducible] def repL (xs : List α) (k : Int) : Option (List α) := if k.natAbs ≤ 1000 ∧ xs.length ≤ 1000 then some (List.replicate k.toNat xs).flatten else none
@[irreducible] def repT (xs : List α) (k : Int) : Option (List α) := if xs ≠ [] ∧ (2 ≤ k ∧ k ≤ 1000) ∧ xs.length ≤ 1000 then some (List.replicate k.toNat xs).flatten else none
theorem flat_map (e : α → β) (xs : List α) : ∀ n : Nat, (List.replicate n (xs.map e)).flatten = ((List.replicate n xs).flatten).map e
  | 0 => rfl
  | n + 1 => by rw [List.replicate_succ, List.replicate_succ, List.flatten_cons, List.flatten_cons, List.map_append, flat_map e xs n]
theorem o_repL (e : α → PyData) (xs : List α) (k : Int) : fMul (.list (xs.map e)) (.int k) = (repL xs k).map (eL e) := by
  unfold fMul repL
  dsimp only
  rw [List.length_map, flat_map]
  by_cases h : k.natAbs ≤ 1000 <;> by_cases h' : xs.length ≤ 1000 <;> simp [h, h', eL]
theorem o_repT (e : α → PyData) (xs : List α) (k : Int) : fMul (.tuple (xs.map e)) (.int k) = (repT xs k).map (eT e) := by
  unfold fMul repT
  dsimp only
  rw [List.length_map, flat_map]
  cases xs with
  | nil => rfl
  | cons x r => by_cases h : 2 ≤ k ∧ k ≤ 1000 <;> by_cases h' : (x :: r).length ≤ 1000 <;> simp [h, h', eT]
end
/-! dicts, computed -/
section
variable {κ α ρ : Type} [DecidableEq κ] {ks : List Kn} {P : ρ → Fl → Prop} {ek : κ → PyData} {t : Bool} {el : κ → List Int} {e : α → PyData}
theorem c_din {i : Nat} {a : ME PyData} {ta : TM κ} {m : List (κ × α)} (h : KeyE ek t el) (hi : kn ks i = some (.v (.dc t (kvD el e m)))) (ha : RE ks a ta ek) : RE ks (mDin i a) (ta.bind fun k => TM.pure (ahas m k)) PyData.bool := re_bind ha fun k => RV.re (e := PyData.bool) (x := ahas m k) (y := .bool (ahas m k)) fun env ds hk => by
  unfold onD look
  rw [hk.at hi]
  dsimp only
  rw [h.key]
  show ME.lift (some (PyData.bool (dGet t (kvD el e m) (el k)).isSome)) env ds = _
  rw [dGet_kv h, Option.isSome_map]
  rfl
theorem c_dnot {i : Nat} {a : ME PyData} {ta : TM κ} {m : List (κ × α)} (h : KeyE ek t el) (hi : kn ks i = some (.v (.dc t (kvD el e m)))) (ha : RE ks a ta ek) : RE ks (mDnot i a) (ta.bind fun k => TM.pure (!ahas m k)) PyData.bool := re_bind ha fun k => RV.re (e := PyData.bool) (x := !ahas m k) (y := .bool (!ahas m k)) fun env ds hk => by
  unfold onD look
  rw [hk.at hi]
  dsimp only
  rw [h.key]
  show ME.lift (some (PyData.bool (!(dGet t (kvD el e m) (el k)).isSome))) env ds = _
  rw [dGet_kv h, Option.isSome_map]
  rfl
theorem c_dgetC {i : Nat} {a : ME PyData} {ta : TM κ} {m : List (κ × α)} (h : KeyE ek t el) (hi : kn ks i = some (.v (.dc t (kvD el e m)))) (ha : RE ks a ta ek) : RE ks (mDget i a) (ta.bind fun k => TM.lift (aget m k)) e := fun env ds hk o ds' q => by
  unfold mDget onD
  rw [hk.at hi]
  dsimp only
  refine re_bind (f := fun d => ME.lift ((look t (kvD el e m) d).bind id)) (tf := fun k => TM.lift (aget m k)) (e := e) ha (fun k => re_lift ?_) env ds hk o ds' q
  unfold look
  rw [h.key]
  exact dGet_kv h k m
theorem RG.cgK {m m' : MS} {t : TM ρ} (h : RG ks m t P) (q : ∀ env ds, KnR ks env → m' env ds = m env ds) : RG ks m' t P := fun env ds hk o ds' z => by
  rw [q env ds hk]
  exact h env ds hk o ds' z
theorem s_dputC {i : Nat} {a b : ME PyData} {tk : TM κ} {tx : TM α} {m : List (κ × α)} {rest : MS} {tr : List (κ × α) → TM ρ} (h : KeyE ek t el) (hi : kn ks i = some (.v (.dc t (kvD el e m)))) (hb : RE ks b tx e) (ha : RE ks a tk ek) (hr : ∀ m, RG (kset ks i (.v (.dc t (kvD el e m)))) rest (tr m) P) : RG ks (mSeq (mDput i a b) rest) (tx.bind fun x => tk.bind fun k => (TM.lift (dputT m k x)).bind tr) P := s_exC hb fun x => RG.cgK (m := mSeq (exS a fun d env ds => match keyOf t d with
    | some z => if decide ((kvD el e m).length < 1000000) then some (.nx (env.set i (.dc t (dPut t (kvD el e m) z (e x)))), ds) else none
    | none => none) rest) (s_exC ha fun k env ds hk o ds' q => by
  unfold dputT at q
  by_cases hl : m.length < 1000000
  · rw [if_pos hl] at q
    have z := hr _ (env.set i (.dc t (kvD el e (aput m k x)))) ds (hk.set i _) o ds' q
    refine goAt (?_ : mSeq _ rest env ds = rest (env.set i (.dc t (kvD el e (aput m k x)))) ds) z
    refine mSeq_nx ?_
    rw [h.key]
    dsimp only
    rw [if_pos (decide_eq_true (by unfold kvD; rw [List.length_map]; exact hl)), dPut_kv h]
  · rw [if_neg hl] at q; cases q) fun env ds hk => by
    unfold mSeq
    dsimp only
    rw [hk.at hi] <;> rfl
end
/-! from one form to another -/
section
variable {α β γ : Type} {ks : List Kn}
theorem RE.castG {m : ME γ} {t : TM α} {e : α → γ} {e' : β → γ} {g : α → Option β} (h : RE ks m t e) (hg : ∀ x y, g x = some y → e' y = e x) : RE ks m (t.bind fun x => TM.lift (g x)) e' := fun env ds hk o ds' q => by
  change (t ds).bind _ = some (o, ds') at q
  rcases ht : t ds with _ | ⟨d | x, ds1⟩
  · rw [ht] at q; cases q
  · rw [ht] at q
    rw [h env ds hk _ _ ht]
    rw [rb_ok] at q
    cases hd : g d with
    | none => rw [hd] at q; cases q
    | some x =>
      rw [hd] at q
      cases q
      show some (Out.ok (e d), _) = some (Out.ok (e' x), _)
      rw [hg d x hd]
  · rw [ht] at q
    cases q
    rw [h env ds hk _ _ ht]
    rfl
theorem RE.castGV {m : ME γ} {x : α} {e : α → γ} {e' : β → γ} {g : α → Option β} (h : RV ks m (e x)) (hg : ∀ x y, g x = some y → e' y = e x) : RE ks m (TM.lift (g x)) e' := RE.castG (t := TM.pure x) (RV.re h) hg
theorem opt_e {e : α → PyData} : ∀ (o : Option α) (x : α), (id o) = some x → e x = eO e o := fun o x h => by cases h; rfl
def lst2 : List α → Option (α × α)
  | [a, b] => some (a, b)
  | _ => none
theorem lst2_e {e : α → PyData} : ∀ (l : List α) (p : α × α), lst2 l = some p → e2 e e p = eT e l := fun l p h => by
  unfold lst2 at h
  split at h <;> cases h
  rfl
end
end DL

/-! DT6: the typed layer over DL20. -/
namespace DL
open PySem PySem.Spec L2
open PyProof.Rows hiding St

section
variable {ρ : Type} {ks : List Kn} {P : ρ → Fl → Prop}
theorem s_parCD {t : Bool} {i j : Nat} {m : ME DcL} {n : ME PyData} {kvs : DcL} {x : PyData} {rest : MS} {tt : TM ρ} (h : RV ks m kvs) (h' : RV ks n x) (hs : setOk ks i = true) (hs' : setOk (kset ks i (.v (.dc t kvs))) j = true) (hr : RG (kset (kset ks i (.v (.dc t kvs))) j (.v (.d x))) rest tt P) (hl : Nat.ble kvs.length 1000 = true := by rfl) : RG ks (mSeq (mParCD i j t m n) rest) tt P := s_exV h (s_exV h' fun env ds hk o ds' q => by
  obtain ⟨env1, h1, h2⟩ := hk.put (x := .dc t kvs) hs
  obtain ⟨env2, h3, h4⟩ := h2.put (x := .d x) hs'
  have z := hr env2 ds h4 o ds' q
  refine goAt (?_ : mSeq _ rest env ds = rest env2 ds) z
  refine mSeq_nx ?_
  rw [if_pos (decide_eq_true (by have := Nat.le_of_ble_eq_true hl; omega))]
  unfold putS
  rw [h1]
  show (match DL.put j (.d x) env1 with | some env' => _ | none => _) = _
  rw [h3])
end
section
variable {α : Type} [DecidableEq α] {e : α → PyData} {n : Nat}
def setLenT (e : α → PyData) (xs : List α) : Option Int := match fSetLen (.list (xs.map e)) with
  | some (.int i) => some i
  | _ => none
theorem fSetLen_int (d : PyData) : (∃ i, fSetLen d = some (.int i)) ∨ fSetLen d = none := by
  unfold fSetLen
  split
  · split
    · split
      · exact .inl ⟨_, rfl⟩
      · exact .inr rfl
    · split
      · split
        · exact .inl ⟨_, rfl⟩
        · exact .inr rfl
      · exact .inr rfl
  · split
    · split
      · exact .inl ⟨_, rfl⟩
      · exact .inr rfl
    · exact .inr rfl
  · exact .inr rfl
theorem o_setLenL (_ : EqE e n) (xs : List α) : fSetLen (.list (xs.map e)) = (setLenT e xs).map PyData.int := by
  unfold setLenT
  rcases fSetLen_int (.list (xs.map e)) with ⟨i, h⟩ | h <;> rw [h] <;> rfl
def setLenTT (e : α → PyData) (xs : List α) : Option Int := match fSetLen (.tuple (xs.map e)) with
  | some (.int i) => some i
  | _ => none
theorem o_setLenT (_ : EqE e n) (xs : List α) : fSetLen (.tuple (xs.map e)) = (setLenTT e xs).map PyData.int := by
  unfold setLenTT
  rcases fSetLen_int (.tuple (xs.map e)) with ⟨i, h⟩ | h <;> rw [h] <;> rfl
theorem rowsD_map : ∀ xs : List (List Int), rowsD (xs.map (eT PyData.int)) = some xs
  | [] => rfl
  | x :: r => by
    show (intsOf (x.map .int)).bind _ = _
    rw [ints_map, rowsD_map r]
    rfl
theorem setLen_rows {xs : List (List Int)} (h : xs.length ≤ 64) : setLenT (eT PyData.int) xs = some ((dist xs).length : Int) := by
  cases xs with
  | nil => rfl
  | cons x r =>
    have e1 : intsOf ((x :: r).map (eT PyData.int)) = none := rfl
    unfold setLenT fSetLen
    dsimp only
    rw [e1, rowsD_map]
    dsimp only
    rw [if_pos (decide_eq_true h)]
theorem setLen_ints {xs : List Int} (h : xs.length ≤ 1000) : setLenT PyData.int xs = some ((dist xs).length : Int) := by
  unfold setLenT fSetLen
  dsimp only
  rw [ints_map]
  dsimp only
  rw [if_pos (decide_eq_true h)]
end
end DL

/-! DT7: list(zip(..)), max of a tuple, t < u. -/
namespace DL
open PySem PySem.Spec L2
section
variable {α β : Type}
def zipT (xs : List α) (ys : List β) : Option (List (α × β)) := if xs.length = ys.length then some (xs.zip ys) else none
theorem zipD_map (e : α → PyData) (f : β → PyData) : ∀ (xs : List α) (ys : List β), zipD (xs.map e) (ys.map f) = (xs.zip ys).map (e2 e f)
  | [], _ => by unfold zipD; rfl
  | _ :: _, [] => by unfold zipD; rfl
  | x :: xs, y :: ys => congrArg (_ :: ·) (zipD_map e f xs ys)
theorem o_zip (e : α → PyData) (f : β → PyData) (xs : List α) (ys : List β) : fZip (.tuple (xs.map e)) (.tuple (ys.map f)) = (zipT xs ys).map (List.map (e2 e f)) := by
  unfold fZip zipT
  simp only [List.length_map, zipD_map]
  by_cases h : xs.length = ys.length
  · rw [if_pos (decide_eq_true h), if_pos h]; rfl
  · rw [if_neg (fun q => h (of_decide_eq_true q)), if_neg h]; rfl
theorem o_ltR (a b : List Int) : fLtA (.tuple (a.map .int)) (.tuple (b.map .int)) = some (.bool (HT.lexLt a b)) := by
  show (intsOf (a.map .int)).bind (fun x => (intsOf (b.map .int)).bind fun y => some (PyData.bool (HT.lexLt x y))) = _
  rw [ints_map, ints_map]
  rfl
theorem o_maxAT (xs : List Int) : fMaxA (.tuple (xs.map .int)) = (maxT xs).map PyData.int := o_max xs
theorem o_maxAL (xs : List Int) : fMaxA (.list (xs.map .int)) = (maxT xs).map PyData.int := o_max xs
theorem noL_all : ∀ xs : List Int, noLs (xs.map PyData.int) = true
  | [] => rfl
  | _ :: xs => noL_all xs
theorem noL_ints (xs : List Int) : noL (eT PyData.int xs) = true := noL_all xs
theorem setOk_o {ks : List Kn} {i : Nat} {e : α → PyData} {o : Option α} (h : kn ks i = some (kopt e o)) : setOk ks i = true := by
  unfold setOk
  rw [h]
  cases o <;> rfl
def tupT (xs : List α) : Option (List α) := if short xs.length then some xs else none
theorem c_tupT {ks : List Kn} {r : ME (List PyData)} {t : TM (List α)} {e : α → PyData} (h : RE ks r t (List.map e)) : RE ks (mTup r) (t.bind fun xs => TM.lift (tupT xs)) (eT e) := re_bind h fun xs => re_lift (by
  unfold tupT
  rw [List.length_map]
  by_cases q : short xs.length = true
  · rw [if_pos q, if_pos q]; rfl
  · rw [if_neg q, if_neg q]; rfl)
def repT1 (xs : List α) (k : Int) : Option (List α) := if k = 1 then some xs else repT xs k
theorem o_repT1 (e : α → PyData) (xs : List α) (k : Int) : fMulA (.tuple (xs.map e)) (.int k) = (repT1 xs k).map (eT e) := by
  unfold fMulA repT1
  dsimp only
  by_cases h : k = 1
  · rw [if_pos (decide_eq_true h), if_pos h]; rfl
  · rw [if_neg (fun w => h (of_decide_eq_true w)), if_neg h]; exact o_repT e xs k
/-- a row among others -/
theorem castA (e : α → PyData) (xs : List α) : ∀ ys, some (xs.map e) = some ys → eT eA ys = eT e xs := fun ys h => by
  cases h
  show PyData.tuple ((xs.map e).map eA) = PyData.tuple (xs.map e)
  congr 1
  exact List.map_id _
end
section
variable {α ρ : Type} {ks : List Kn} {P : ρ → Fl → Prop} {rest : MS} {a : ME PyData}
theorem s_mputC {i : Nat} {ix : ME PyData} {xs : List α} {ta : TM α} {k : Int} {e : α → PyData} {tr : List α → TM ρ} (hi : kn ks i = some (.v (.l (xs.map e)))) (h : RE ks a ta e) (hx : RV ks ix (.int k)) (hr : ∀ ys, RG (kset ks i (.v (.l (ys.map e)))) rest (tr ys) P) : RG ks (mSeq (mPut i ix a) rest) (ta.bind fun x => (TM.lift (putT xs k x)).bind tr) P := s_onL hi (s_exC h fun x => s_exV hx fun env ds hk o ds' q => by
  unfold putT at q
  cases hn : ixN xs.length k with
  | none => rw [hn] at q; cases q
  | some j =>
    rw [hn] at q
    have z := hr _ (env.set i (.l ((xs.set j x).map e))) ds (hk.set i _) o ds' q
    refine goAt (?_ : mSeq _ rest env ds = rest (env.set i (.l ((xs.set j x).map e))) ds) z
    refine mSeq_nx ?_
    dsimp only
    rw [List.length_map, hn, List.map_set])
end
end DL

/-! DT8: walks over zip, sorted(set(..)) of rows of rows, typed. -/
namespace DL
open PySem PySem.Spec L2
section
variable {α β : Type} {ks : List Kn} {a b : ME PyData} {x y : PyData} {z : List PyData}
theorem v_opF {f : PyData → PyData → Option (List PyData)} (ha : RV ks a x) (hb : RV ks b y) (hf : f x y = some z) : RV ks (mOpF f a b) z := rv_vbind ha (rv_vbind hb (rv_lift hf))
theorem o_zipW (e : α → PyData) (f : β → PyData) (xs : List α) (ys : List β) : fZipW (.tuple (xs.map e)) (.tuple (ys.map f)) = some ((xs.zip ys).map (e2 e f)) := by
  show some (zipD (xs.map e) (ys.map f)) = _
  rw [zipD_map]
end
/-- rows of rows -/
abbrev eW : List (List Int) → PyData := eT (eT PyData.int)
def nkR (r : List Int) : NK := .tup (r.map NK.num)
def nkW (x : List (List Int)) : NK := .tup (x.map nkR)
theorem toNKs_ints : ∀ r : List Int, toNKs (r.map .int) = some (r.map NK.num)
  | [] => rfl
  | i :: r => by
    show (toNK (.int i)).bind (fun k => (toNKs (r.map .int)).map (k :: ·)) = _
    rw [toNKs_ints r]
    rfl
theorem toNK_row (r : List Int) : toNK (eT PyData.int r) = some (nkR r) := by
  show (toNKs (r.map .int)).map NK.tup = _
  rw [toNKs_ints]
  rfl
theorem toNKs_rows : ∀ x : List (List Int), toNKs (x.map (eT PyData.int)) = some (x.map nkR)
  | [] => rfl
  | r :: x => by
    show (toNK (eT PyData.int r)).bind (fun k => (toNKs (x.map (eT PyData.int))).map (k :: ·)) = _
    rw [toNK_row, toNKs_rows x]
    rfl
theorem toNK_W (x : List (List Int)) : toNK (eW x) = some (nkW x) := by
  show (toNKs (x.map (eT PyData.int))).map NK.tup = _
  rw [toNKs_rows]
  rfl
theorem toNKs_W : ∀ xs : List (List (List Int)), toNKs (xs.map eW) = some (xs.map nkW)
  | [] => rfl
  | x :: xs => by
    show (toNK (eW x)).bind (fun k => (toNKs (xs.map eW)).map (k :: ·)) = _
    rw [toNK_W, toNKs_W xs]
    rfl
theorem dat_W (x : List (List Int)) : (nkW x).dat = eW x := toNK_dat _ _ (toNK_W x)
theorem depth_num : ∀ r : List Int, NestedKey.depthAll (NK.nks (r.map NK.num)) = 0
  | [] => rfl
  | i :: r => by
    show max (NestedKey.depth (.num i)) (NestedKey.depthAll (NK.nks (r.map NK.num))) = 0
    rw [depth_num r]
    rfl
theorem depth_rows : ∀ x : List (List Int), NestedKey.depthAll (NK.nks (x.map nkR)) ≤ 1
  | [] => Nat.zero_le _
  | r :: x => by
    show max (NestedKey.depthAll (NK.nks (r.map NK.num)) + 1) (NestedKey.depthAll (NK.nks (x.map nkR))) ≤ 1
    rw [depth_num]
    exact Nat.max_le.mpr ⟨Nat.le_refl _, depth_rows x⟩
theorem depth_W (x : List (List Int)) : (nkW x).nk.depth ≤ 8 := by
  show NestedKey.depthAll (NK.nks (x.map nkR)) + 1 ≤ 8
  have := depth_rows x
  omega
theorem nkW_inj {x y : List (List Int)} (h : (nkW x).nk = (nkW y).nk) : x = y := by
  have e := nk_dat _ _ h
  rw [dat_W, dat_W] at e
  have q := (eqE_T (eqE_T eqE_int)).eq x y
  rw [show eT (eT PyData.int) x = eT (eT PyData.int) y from e, (eqE_T (eqE_T eqE_int)).eq, decide_eq_true rfl] at q
  exact of_decide_eq_true q.symm
theorem distN_W : ∀ xs : List (List (List Int)), distN (xs.map nkW) = (dist xs).map nkW
  | [] => rfl
  | x :: xs => by
    have ih := distN_W xs
    have e1 : distN ((x :: xs).map nkW) = if (nkW x).nk ∈ (distN (xs.map nkW)).map NK.nk then distN (xs.map nkW) else nkW x :: distN (xs.map nkW) := by
      rw [List.map_cons, distN]
    have e2 : dist (x :: xs) = if x ∈ dist xs then dist xs else x :: dist xs := by
      by_cases h : x ∈ dist xs
      · rw [dist, if_pos h, if_pos h]
      · rw [dist, if_neg h, if_neg h]
    rw [e1, e2, ih]
    by_cases h : x ∈ dist xs
    · rw [if_pos h, if_pos (List.mem_map.mpr ⟨nkW x, List.mem_map.mpr ⟨x, h, rfl⟩, rfl⟩)]
    · rw [if_neg h, if_neg fun q => ?_]
      · rfl
      · obtain ⟨k, hk, e⟩ := List.mem_map.mp q
        obtain ⟨y, hy, rfl⟩ := List.mem_map.mp hk
        rw [← nkW_inj e] at h
        exact h hy
@[irreducible] def sortSetW (xs : List (List (List Int))) : Option (List (List (List Int))) := if decide (xs.length < 64) && ((xs.map eW).all isTup1 && sorts (xs.map eW)) then some (sortB (fun x y => ltD (eW x) (eW y)) (dist xs)) else none
theorem o_sortSetN (xs : List (List (List Int))) : fSortSetN (.list (xs.map eW)) = (sortSetW xs).map (List.map eW) := by
  unfold fSortSetN sortSetW
  dsimp only
  rw [toNKs_W]
  dsimp only
  have a1 : ((xs.map nkW).all fun k => decide (k.nk.depth ≤ 8)) = true := by
    rw [List.all_map]
    exact List.all_eq_true.mpr fun x _ => decide_eq_true (depth_W x)
  have a2 : sortD ((distN (xs.map nkW)).map NK.dat) = (sortB (fun x y => ltD (eW x) (eW y)) (dist xs)).map eW := by
    rw [distN_W, List.map_map]
    have e : (dist xs).map (NK.dat ∘ nkW) = (dist xs).map eW := List.map_congr_left fun x _ => dat_W x
    rw [e]
    exact srtM (lt := fun x y => ltD (eW x) (eW y)) eW (fun _ _ => rfl) _
  rw [a1, a2, List.length_map, Bool.true_and]
  split <;> rfl
end DL

/-! DT9: typed: sorted(t), t a tuple. -/
namespace DL
open PySem PySem.Spec L2
theorem o_sortA (e : α → PyData) (xs : List α) : fSortA (.tuple (xs.map e)) = (srtT e xs).map (List.map e) := by
  rw [← o_sort e xs]
  rfl
end DL

/-! Dr: the draws, the boxes drawn. -/
namespace Lw
open PySem PySem.Spec L2 DL

@[simp] theorem fAdd_int (a b : Int) : fAdd (.int a) (.int b) = some (.int (a + b)) := rfl
@[simp] theorem fSub_int (a b : Int) : fSub (.int a) (.int b) = some (.int (a - b)) := rfl
theorem fMul_lit {a b : Int} (h : -(2 ^ 64) < b ∧ b < 2 ^ 64) : fMul (.int a) (.int b) = some (.int (a * b)) := by
  unfold fMul
  dsimp only
  rw [decide_eq_true h, Bool.or_true]
  rfl
theorem fMod_pos {a b : Int} (h : 0 < b) : fMod (.int a) (.int b) = some (.int (a % b)) := by
  unfold fMod
  dsimp only
  rw [decide_eq_true h]
  rfl
theorem fFdiv_pos {a b : Int} (h : 0 < b ∧ b < 1073741824) : fFdiv (.int a) (.int b) = some (.int (a / b)) := by
  unfold fFdiv
  dsimp only
  rw [decide_eq_true h]
  rfl
@[simp] theorem fEq_int (a b : Int) : fEq (.int a) (.int b) = some (.bool (a == b)) := rfl
@[simp] theorem fNe_int (a b : Int) : fNe (.int a) (.int b) = some (.bool (!(a == b))) := rfl
@[simp] theorem fLt_int (a b : Int) : fLt (.int a) (.int b) = some (.bool (decide (a < b))) := rfl
@[simp] theorem fLe_int (a b : Int) : fLe (.int a) (.int b) = some (.bool (decide (a ≤ b))) := rfl
@[simp] theorem fInt_int (a : Int) : fInt (.int a) = some (.int a) := rfl
@[simp] theorem fLen_list (a : List PyData) : fLen (.list a) = some (.int a.length) := rfl
@[simp] theorem fLen_tuple (a : List PyData) : fLen (.tuple a) = some (.int a.length) := rfl
@[simp] theorem fNeg_int (a : Int) : fNeg (.int a) = some (.int (-a)) := rfl
theorem fIx_list {xs : List PyData} {i : Int} {x : PyData} (h : 0 ≤ i) (hx : xs[i.toNat]? = some x) : fIx (.list xs) (.int i) = some x := by
  show atI xs i = some x
  have hl := (List.getElem?_eq_some_iff.mp hx).1
  unfold atI ixN
  rw [if_pos h, if_pos (by omega)]
  exact hx
theorem fIx_tuple {xs : List PyData} {i : Int} {x : PyData} (h : 0 ≤ i) (hx : xs[i.toNat]? = some x) : fIx (.tuple xs) (.int i) = some x := by
  show atI xs i = some x
  have hl := (List.getElem?_eq_some_iff.mp hx).1
  unfold atI ixN
  rw [if_pos h, if_pos (by omega)]
  exact hx
/-- the draw may go on -/
def DI : DS → Prop
  | some s => -1 ≤ s.place
  | none => False
theorem mDrw_ev {env : Ev} {i k : Nat} {s : DSt} {x : PyData} (h : env[i]? = some .drw) (hx : drGet s k = some x) : mDrw i k env (some s) = some (.ok x, some s) := by
  unfold mDrw
  rw [h]
  dsimp only
  rw [hx]
theorem mDrwSet_ev {env : Ev} {i k : Nat} {a : ME PyData} {ds : DS} {s s' : DSt} {j : Int} (h : env[i]? = some .drw) (ha : a env ds = some (.ok (.int j), some s)) (hs : drSet s k j = some s') : mDrwSet i k a env ds = some (.nx env, some s') := by
  unfold mDrwSet
  rw [exS_ev, ha]
  dsimp only
  rw [h]
  dsimp only
  rw [hs]
def tCur (s : DSt) : DSt :=
  if s.cur = 0 then
    let p := s.place + 1
    let c := if p < s.cells.length then s.cells.getD p.toNat 0 else s.cur
    if c = 0 then ⟨s.cells, p, (s.seed * 48271 + 11) % 2147483647, (s.seed * 48271 + 11) % 2147483647⟩ else ⟨s.cells, p, c, s.seed⟩
  else s
theorem take_run (s : DSt) (h : -1 ≤ s.place) {many : Int} (h0 : 0 < many) (h1 : many < 1073741824) : f__law_take [.drw, .d (.int many)] (some s) = some (.ok (.int ((tCur s).cur % many)), some { tCur s with cur := (tCur s).cur / many }) := by
  obtain ⟨cells, place, cur, seed⟩ := s
  dsimp only at h
  have fin : ∀ s : DSt, (mSeq (mSet 2 (mOp fMod (mUn fInt (mDrw 0 2)) (mV 1))) (mSeq (mDrwSet 0 2 (mOp fFdiv (mDrw 0 2) (mV 1))) (mRet (mV 2)))) [.drw, .d (.int many), .un] (some s) = some (.rt (.int (s.cur % many)), some { s with cur := s.cur / many }) := fun s => by
    rw [mSeq_nx (env' := [.drw, .d (.int many), .d (.int (s.cur % many))]) (ds' := some s)]
    · rw [mSeq_nx (mDrwSet_ev (env := [.drw, .d (.int many), .d (.int (s.cur % many))]) (ds := some s) (s := s) (j := s.cur / many) (s' := { s with cur := s.cur / many }) rfl (by
        rw [mOp_ev, mDrw_ev (x := .int s.cur) rfl rfl, rb_ok, mV_ev]
        show ME.lift (fFdiv (.int s.cur) (.int many)) [.drw, .d (.int many), .d (.int (s.cur % many))] _ = _
        rw [fFdiv_pos ⟨h0, h1⟩]
        rfl) rfl)]
      rfl
    · rw [mSet_ev, mOp_ev, mUn_ev, mDrw_ev (x := .int s.cur) rfl rfl, rb_ok, fInt_int, lift_ok, rb_ok, mV_ev]
      show (match ME.lift (fMod (.int s.cur) (.int many)) [.drw, .d (.int many), .un] (some s) with | some (.ok x, ds') => _ | some (.exc e, ds') => _ | none => _) = _
      rw [fMod_pos h0]
      rfl
  unfold f__law_take runB m__law_take
  show (match mSeq _ _ [.drw, .d (.int many), .un] _ with | some (.rt d, ds') => _ | some (.nx _, ds') => _ | some (.ex x _, ds') => _ | _ => _) = _
  rw [mSeq_nx (env' := [.drw, .d (.int many), .un]) (ds' := some (tCur ⟨cells, place, cur, seed⟩)), fin]
  rw [mIfS_ev, mTst_ev, mOp_ev, mDrw_ev (x := .int cur) rfl rfl, rb_ok, mC_ev, rb_ok, fEq_int, lift_ok, rb_ok, lift_ok]
  dsimp only
  unfold tCur
  dsimp only
  by_cases hc : cur = 0
  · subst hc
    rw [if_pos (show ((0 : Int) == 0) = true from rfl), if_pos (rfl : (0 : Int) = 0)]
    rw [mSeq_nx (mDrwSet_ev (s := ⟨cells, place, 0, seed⟩) (j := place + 1) (s' := ⟨cells, place + 1, 0, seed⟩) rfl (by rw [mOp_ev, mDrw_ev (x := .int place) rfl rfl]; rfl) rfl)]
    rw [mSeq_nx (env' := [.drw, .d (.int many), .un]) (ds' := some ⟨cells, place + 1, (if place + 1 < cells.length then cells.getD (place + 1).toNat 0 else 0), seed⟩)]
    · generalize (if place + 1 < (cells.length : Int) then cells.getD (place + 1).toNat 0 else 0) = c
      rw [mIfS_ev, mTst_ev, mOp_ev, mDrw_ev (x := .int c) rfl rfl, rb_ok, mC_ev, rb_ok, fEq_int, lift_ok, rb_ok, lift_ok]
      dsimp only
      by_cases hz : c = 0
      · subst hz
        rw [if_pos (show ((0 : Int) == 0) = true from rfl), if_pos (rfl : (0 : Int) = 0)]
        rw [mSeq_nx (mDrwSet_ev (s := ⟨cells, place + 1, 0, seed⟩) (j := (seed * 48271 + 11) % 2147483647) (s' := ⟨cells, place + 1, 0, (seed * 48271 + 11) % 2147483647⟩) rfl (by
          rw [mOp_ev, mUn_ev, mOp_ev, mOp_ev, mDrw_ev (x := .int seed) rfl rfl, rb_ok, mC_ev, rb_ok, fMul_lit (by decide), lift_ok, rb_ok, mC_ev, rb_ok, fAdd_int, lift_ok, rb_ok, fInt_int, lift_ok, rb_ok, mC_ev, rb_ok, fMod_pos (by decide), lift_ok]) rfl)]
        exact mDrwSet_ev rfl (mDrw_ev rfl rfl) rfl
      · rw [if_neg (by simpa using hz), if_neg hz]
        rfl
    · rw [mIfS_ev, mTst_ev, mOp_ev, mDrw_ev (x := .int (place + 1)) rfl rfl, rb_ok, mUn_ev, mDrw_ev (x := .list (cells.map .int)) rfl rfl, rb_ok, fLen_list, lift_ok, rb_ok, fLt_int, lift_ok, rb_ok, lift_ok, List.length_map]
      dsimp only
      by_cases hp : place + 1 < (cells.length : Int)
      · rw [if_pos (decide_eq_true hp), if_pos hp]
        have hl : (place + 1).toNat < cells.length := by omega
        refine mDrwSet_ev (s := ⟨cells, place + 1, 0, seed⟩) (j := cells.getD (place + 1).toNat 0) rfl ?_ rfl
        rw [mOp_ev, mDrw_ev (x := .list (cells.map .int)) rfl rfl, rb_ok, mDrw_ev (x := .int (place + 1)) rfl rfl, rb_ok, fIx_list (x := .int (cells.getD (place + 1).toNat 0)) (by omega) (by rw [List.getElem?_map, List.getElem?_eq_getElem hl, List.getD_eq_getElem?_getD, List.getElem?_eq_getElem hl]; rfl), lift_ok]
      · rw [if_neg (by rw [decide_eq_false hp]; exact Bool.false_ne_true), if_neg hp]
        rfl
  · rw [if_neg (by simpa using hc), if_neg hc]
    rfl
theorem tCur_place {s : DSt} (h : -1 ≤ s.place) : -1 ≤ (tCur s).place := by
  unfold tCur
  by_cases c : s.cur = 0
  · rw [if_pos c]
    dsimp only
    generalize (if s.place + 1 < (s.cells.length : Int) then s.cells.getD (s.place + 1).toNat 0 else s.cur) = z
    by_cases d : z = 0
    · rw [if_pos d]
      show -1 ≤ s.place + 1
      omega
    · rw [if_neg d]
      show -1 ≤ s.place + 1
      omega
  · rw [if_neg c]
    exact h
/-- a draw below many -/
theorem take_ok {ds : DS} (h : DI ds) {many : Int} (h0 : 0 < many) (h1 : many < 1073741824) : ∃ r ds', f__law_take [.drw, .d (.int many)] ds = some (.ok (.int r), ds') ∧ 0 ≤ r ∧ r < many ∧ DI ds' := by
  cases ds with
  | none => exact h.elim
  | some s => exact ⟨_, _, take_run s h h0 h1, Int.emod_nonneg _ (by omega), Int.emod_lt_of_pos _ h0, show -1 ≤ (tCur s).place from tCur_place h⟩
end Lw

/-! TD1: the draw, typed. -/
namespace Lw
open PySem PySem.Spec L2 DL

def t__law_take (many : Int) : TM Int := fun ds => match ds with
  | some s => if -1 ≤ s.place ∧ 0 < many ∧ many < 1073741824 then some (.ok ((tCur s).cur % many), some { tCur s with cur := (tCur s).cur / many }) else none
  | none => none
theorem r__law_take (many : Int) : RF f__law_take [.drw, .d (.int many)] (t__law_take many) PyData.int := fun ds o ds' q => by
  cases ds with
  | none => cases q
  | some s =>
    change (if -1 ≤ s.place ∧ 0 < many ∧ many < 1073741824 then _ else none) = some (o, ds') at q
    by_cases h : -1 ≤ s.place ∧ 0 < many ∧ many < 1073741824
    · rw [if_pos h] at q
      cases q
      exact take_run s h.1 h.2.1 h.2.2
    · rw [if_neg h] at q; cases q
theorem take_gives {many : Int} (h0 : 0 < many) (h1 : many < 1073741824) : Gives (t__law_take many) (fun r => 0 ≤ r ∧ r < many) DI := fun ds hd => by
  cases ds with
  | none => exact hd.elim
  | some s =>
    refine ⟨_, _, if_pos ⟨hd, h0, h1⟩, ?_, Int.emod_nonneg _ (by omega), Int.emod_lt_of_pos _ h0⟩
    show -1 ≤ (tCur s).place
    exact tCur_place hd
end Lw

/-! Tk66: the typed layer of the law's defs. -/
namespace Lw
open PySem PySem.Spec L2 DL

def t__law_two (a_n : Int) : TM Int := (TM.lift (atI [(1 : Int), (2 : Int), (4 : Int), (8 : Int), (16 : Int)] a_n))
set_option maxHeartbeats 4000000 in
theorem r__law_two (a_n : Int) : RF f__law_two [.d (PyData.int a_n)] (t__law_two a_n) PyData.int := rf_run (s_end (s_retR (rv_bind (v_F (v_lst (v_cons v_c (v_cons v_c (v_cons v_c (v_cons v_c (v_cons v_c v_nil))))))) (rv_bind (v_v rfl) (re_lift (o_ixL PyData.int [(1 : Int), (2 : Int), (4 : Int), (8 : Int), (16 : Int)] a_n))))))
def t__law_rule (a_n : Int) : TM (List Int) := ((((t__law_two (a_n - (1 : Int))).bind fun j => TM.lift (rngT 0 j)).bind fun z2 => TM.compL (fun y1 => (TM.pure true)) (fun y1 => (t__law_take (2 : Int))) z2).bind fun x3 => (((t__law_take (2 : Int)).bind fun c4 => TM.pure (decide (c4 = (0 : Int)))).bind fun k11 => if k11 then (((TM.compV (fun y5 => true) (fun y5 => ((1 : Int) - y5)) x3).bind fun c6 => (TM.lift (catT x3 c6))).bind fun c7 => TM.pure c7) else (((TM.compL (fun y8 => (TM.pure true)) (fun y8 => (t__law_take (2 : Int))) x3).bind fun c9 => (TM.lift (catT x3 c9))).bind fun c10 => TM.pure c10)))
set_option maxHeartbeats 4000000 in
theorem r__law_rule (a_n : Int) : RF f__law_rule [.drw, .d (PyData.int a_n)] (t__law_rule a_n) (eT PyData.int) := rf_run (s_setC (c_F (e' := (eL PyData.int)) (c_comp (ea := PyData.int) (p := fun y1 => (TM.pure true)) (g := fun y1 => (t__law_take (2 : Int))) (e := PyData.int) (c_rng1 (c_call (x_d (v_op (v_v rfl) v_c (o_sub a_n (1 : Int))) (x_nil (x_fin (r__law_two (a_n - (1 : Int)))))))) rfl (fun y1 => (tk_name rfl)) (fun y1 => (RV.re (e := id) (x := true) v_yes)) (fun y1 => (c_call (x_v rfl (x_d v_c (x_nil (x_fin (r__law_take (2 : Int)))))))))) rfl fun x3 => by exact (s_ifC (c_tst (re_bind (c_call (x_v rfl (x_d v_c (x_nil (x_fin (r__law_take (2 : Int))))))) fun c4 => (rv_bind v_c (re_liftP (o_eq eqE_int c4 (0 : Int)))))) (by exact (s_retR (re_bind (rv_bind (v_v rfl) (re_bind (c_F (e' := (eL PyData.int)) (c_compVI (ea := PyData.int) (p := fun y5 => true) (g := fun y5 => ((1 : Int) - y5)) (e := PyData.int) (v_items (v_v rfl) rfl) rfl (fun y5 => (tk_name rfl)) (fun y5 => v_yes) (fun y5 => (v_op v_c (v_v rfl) (o_sub (1 : Int) y5))))) fun c6 => (re_lift (o_addL PyData.int x3 c6)))) fun c7 => (re_liftP rfl)))) (by exact (s_skipS (s_end (s_retR (re_bind (rv_bind (v_v rfl) (re_bind (c_F (e' := (eL PyData.int)) (c_compI (ea := PyData.int) (p := fun y8 => (TM.pure true)) (g := fun y8 => (t__law_take (2 : Int))) (e := PyData.int) (v_items (v_v rfl) rfl) rfl (fun y8 => (tk_name rfl)) (fun y8 => (RV.re (e := id) (x := true) v_yes)) (fun y8 => (c_call (x_v rfl (x_d v_c (x_nil (x_fin (r__law_take (2 : Int)))))))))) fun c9 => (re_lift (o_addL PyData.int x3 c9)))) fun c10 => (re_liftP rfl))))))))
def t__law_rows_f1  : (List (List Int)) → Int → TM (List (List Int)) := fun (l1 : (List (List Int))) (y2 : Int) => (((TM.compL (fun y3 => (TM.pure true)) (fun y3 => (TM.lift (catT y3 [(0 : Int)]))) l1).bind fun c5 => ((TM.compL (fun y4 => (TM.pure true)) (fun y4 => (TM.lift (catT y4 [(1 : Int)]))) l1).bind fun c6 => (TM.lift (catT c5 c6)))).bind fun x7 => TM.pure x7)
def t__law_rows (a_length : Int) : TM (List (List Int)) := ((TM.lift (rngT 0 a_length)).bind fun z8 => (TM.forT t__law_rows_f1 z8 [([] : (List Int))]).bind fun l1 => (TM.lift (srtT (eT PyData.int) l1)))
set_option maxHeartbeats 4000000 in
theorem r__law_rows (a_length : Int) : RF f__law_rows [.d (PyData.int a_length)] (t__law_rows a_length) (eL (eT PyData.int)) := rf_run (s_setV (y := (eL (eT PyData.int)) [([] : (List Int))]) (v_F (v_lst (v_cons (v_tup v_nil) v_nil))) rfl (by exact (s_for (ea := PyData.int) (k := (fun (l1 : (List (List Int))) => [.v (.d (PyData.int a_length)), .v (.d ((eL (eT PyData.int)) l1)), .j, .v .un])) (l0 := [([] : (List Int))]) (c_rng1V (v_v rfl)) (by exact (.cons .r (.cons .r (.cons .u (.cons .r .nil))))) (fun l1 y2 => (tk_name rfl)) (fun l1 y2 => by exact (s_end (s_setC (re_bind (c_F (e' := (eL (eT PyData.int))) (c_compI (ea := (eT PyData.int)) (p := fun y3 => (TM.pure true)) (g := fun y3 => (TM.lift (catT y3 [(0 : Int)]))) (e := (eT PyData.int)) (v_items (v_v rfl) rfl) rfl (fun y3 => (tk_name rfl)) (fun y3 => (RV.re (e := id) (x := true) v_yes)) (fun y3 => (rv_bind (v_v rfl) (rv_bind (v_tup (v_cons v_c v_nil)) (re_lift (o_addT PyData.int y3 [(0 : Int)]))))))) fun c5 => (re_bind (c_F (e' := (eL (eT PyData.int))) (c_compI (ea := (eT PyData.int)) (p := fun y4 => (TM.pure true)) (g := fun y4 => (TM.lift (catT y4 [(1 : Int)]))) (e := (eT PyData.int)) (v_items (v_v rfl) rfl) rfl (fun y4 => (tk_name rfl)) (fun y4 => (RV.re (e := id) (x := true) v_yes)) (fun y4 => (rv_bind (v_v rfl) (rv_bind (v_tup (v_cons v_c v_nil)) (re_lift (o_addT PyData.int y4 [(1 : Int)]))))))) fun c6 => (re_lift (o_addL (eT PyData.int) c5 c6)))) rfl fun x7 => by exact (s_skip (l := x7) (.cons .r (.cons .r (.cons .d (.cons .r .nil)))))))) (fun l1 => by exact (s_end (s_retR (c_F (e' := (eL (eT PyData.int))) (rv_bind (v_v rfl) (re_lift (o_sort (eT PyData.int) l1))))))))))
def t_is_whole (a_value : PyData) : TM Bool := ((TM.lift (isOf "int" a_value)).bind fun k2 => (if k2 then ((TM.lift (isOf "bool" a_value)).bind fun c1 => TM.pure (!c1)) else TM.pure false))
set_option maxHeartbeats 4000000 in
theorem r_is_whole (a_value : PyData) : RF f_is_whole [.d (eA a_value)] (t_is_whole a_value) PyData.bool := rf_run (s_end (s_retR (cc_andV (c_isiV (n := 0) (v_v rfl)) (re_bind (c_isiV (n := 1) (v_v rfl)) fun c1 => (re_liftP (o_notB c1))))))
def t_is_number (a_n : PyData) (a_most : Int) : TM Bool := ((t_is_whole a_n).bind fun k4 => (if k4 then ((TM.pure (1 : Int)).bind fun c1 => (TM.lift (asI a_n)).bind fun c2 => if (decide (c1 ≤ c2)) then (TM.pure a_most).bind fun c3 => TM.pure (decide (c2 ≤ c3)) else TM.pure false) else TM.pure false))
set_option maxHeartbeats 4000000 in
theorem r_is_number (a_n : PyData) (a_most : Int) : RF f_is_number [.d (eA a_n), .d (PyData.int a_most)] (t_is_number a_n a_most) PyData.bool := rf_run (s_end (s_retR (cc_andV (c_call (x_d (v_v rfl) (x_nil (x_fin (r_is_whole a_n))))) (c_chain (p := fun c1 c2 => (decide (c1 ≤ c2))) (q := fun c2 c3 => (decide (c2 ≤ c3))) (RV.re (e := PyData.int) (x := (1 : Int)) v_c) (RE.castV (g := asI) (v_v rfl) fun _ _ h => (asI_ok h).symm) (fun c1 c2 => (o_le c1 c2)) (RV.re (e := PyData.int) (x := a_most) (v_v rfl)) (fun c2 c3 => (o_le c2 c3))))))
def t_check_number (a_n : PyData) (a_most : Int) : TM Unit := (((t_is_number a_n a_most).bind fun k1 => TM.pure (!k1)).bind fun k2 => if k2 then TM.raise .malformed else TM.pure ())
set_option maxHeartbeats 4000000 in
theorem r_check_number (a_n : PyData) (a_most : Int) : RF f_check_number [.d (eA a_n), .d (PyData.int a_most)] (t_check_number a_n a_most) eU := rf_run (s_end (s_ifC (c_not (c_tst (c_call (x_d (v_v rfl) (x_d (v_v rfl) (x_nil (x_fin (r_is_number a_n a_most)))))))) (by exact s_raise) (by exact (s_skipS s_skipR))))
def t_are_signs (a_value : PyData) : TM Bool := ((TM.lift (isOf "tuple" a_value)).bind fun k8 => (if k8 then (((TM.lift (itemsOf a_value)).bind fun z6 => TM.compL (fun y1 => (TM.pure true)) (fun y1 => ((t_is_whole y1).bind fun k5 => (if k5 then ((TM.pure (0 : Int)).bind fun c2 => (TM.lift (asI y1)).bind fun c3 => if (decide (c2 ≤ c3)) then (TM.pure (1 : Int)).bind fun c4 => TM.pure (decide (c3 ≤ c4)) else TM.pure false) else TM.pure false))) z6).bind fun c7 => TM.pure (c7.all id)) else TM.pure false))
set_option maxHeartbeats 4000000 in
theorem r_are_signs (a_value : PyData) : RF f_are_signs [.d (eA a_value)] (t_are_signs a_value) PyData.bool := rf_run (s_end (s_retR (cc_andV (c_isiV (n := 2) (v_v rfl)) (re_bind (c_F (e' := (eL PyData.bool)) (c_comp (ea := eA) (p := fun y1 => (TM.pure true)) (g := fun y1 => ((t_is_whole y1).bind fun k5 => (if k5 then ((TM.pure (0 : Int)).bind fun c2 => (TM.lift (asI y1)).bind fun c3 => if (decide (c2 ≤ c3)) then (TM.pure (1 : Int)).bind fun c4 => TM.pure (decide (c3 ≤ c4)) else TM.pure false) else TM.pure false))) (e := PyData.bool) (c_itemsA (v_v rfl)) rfl (fun y1 => (tk_name rfl)) (fun y1 => (RV.re (e := id) (x := true) v_yes)) (fun y1 => (cc_andV (c_call (x_d (v_v rfl) (x_nil (x_fin (r_is_whole y1))))) (c_chain (p := fun c2 c3 => (decide (c2 ≤ c3))) (q := fun c3 c4 => (decide (c3 ≤ c4))) (RV.re (e := PyData.int) (x := (0 : Int)) v_c) (RE.castV (g := asI) (v_v rfl) fun _ _ h => (asI_ok h).symm) (fun c2 c3 => (o_le c2 c3)) (RV.re (e := PyData.int) (x := (1 : Int)) v_c) (fun c3 c4 => (o_le c3 c4))))))) fun c7 => (re_liftP (o_all c7))))))
def t_power_of_two (a_n : Int) : TM Int := (TM.lift (shlT (1 : Int) a_n))
set_option maxHeartbeats 4000000 in
theorem r_power_of_two (a_n : Int) : RF f_power_of_two [.d (PyData.int a_n)] (t_power_of_two a_n) PyData.int := rf_run (s_end (s_retR (rv_bind v_c (rv_bind (v_v rfl) (re_lift (o_shl (1 : Int) a_n))))))
def t_is_rule (a_n : PyData) (a_value : PyData) : TM Bool := ((t_check_number a_n (4 : Int)).bind fun u5 => ((t_are_signs a_value).bind fun k4 => (if k4 then ((TM.lift (lenA a_value)).bind fun c2 => (((TM.lift (asI a_n)).bind fun c1 => (t_power_of_two c1)).bind fun c3 => TM.pure (decide (c2 = c3)))) else TM.pure false)))
set_option maxHeartbeats 4000000 in
theorem r_is_rule (a_n : PyData) (a_value : PyData) : RF f_is_rule [.d (eA a_n), .d (eA a_value)] (t_is_rule a_n a_value) PyData.bool := rf_run (s_dropC (c_call (x_d (v_v rfl) (x_d v_c (x_nil (x_fin (r_check_number a_n (4 : Int))))))) fun u5 => by exact (s_end (s_retR (cc_andV (c_call (x_d (v_v rfl) (x_nil (x_fin (r_are_signs a_value))))) (re_bind (rv_bind (v_v rfl) (re_lift (o_lenA a_value))) fun c2 => (re_bind (c_call (x_dC (RE.castV (g := asI) (v_v rfl) fun _ _ h => (asI_ok h).symm) fun c1 => (x_nil (x_fin (r_power_of_two c1))))) fun c3 => (re_liftP (o_eq eqE_int c2 c3))))))))
def t_check_rule (a_n : PyData) (a_rule : PyData) : TM Unit := (((t_is_rule a_n a_rule).bind fun k1 => TM.pure (!k1)).bind fun k2 => if k2 then TM.raise .malformed else TM.pure ())
set_option maxHeartbeats 4000000 in
theorem r_check_rule (a_n : PyData) (a_rule : PyData) : RF f_check_rule [.d (eA a_n), .d (eA a_rule)] (t_check_rule a_n a_rule) eU := rf_run (s_end (s_ifC (c_not (c_tst (c_call (x_d (v_v rfl) (x_d (v_v rfl) (x_nil (x_fin (r_is_rule a_n a_rule)))))))) (by exact s_raise) (by exact (s_skipS s_skipR))))
def t_all_words_f1  : (List (List Int)) → Int → TM (List (List Int)) := fun (l1 : (List (List Int))) (y2 : Int) => ((comp2A (fun y3 => (TM.pure true)) (fun y3 => (TM.pure [0, 1])) (fun y3 y4 => (TM.pure true)) (fun y3 y4 => (TM.lift (catT y3 [y4]))) l1 []).bind fun x5 => TM.pure x5)
def t_all_words (a_n : Int) : TM (List (List Int)) := ((TM.lift (rngT 0 a_n)).bind fun z6 => (TM.forT t_all_words_f1 z6 [([] : (List Int))]).bind fun l1 => TM.pure l1)
set_option maxHeartbeats 4000000 in
theorem r_all_words (a_n : Int) : RF f_all_words [.d (PyData.int a_n)] (t_all_words a_n) (eL (eT PyData.int)) := rf_run (s_setV (y := (eL (eT PyData.int)) [([] : (List Int))]) (v_F (v_lst (v_cons (v_tup v_nil) v_nil))) rfl (by exact (s_for (ea := PyData.int) (k := (fun (l1 : (List (List Int))) => [.v (.d (PyData.int a_n)), .v (.d ((eL (eT PyData.int)) l1)), .j, .v .un, .v .un])) (l0 := [([] : (List Int))]) (c_rng1V (v_v rfl)) (by exact (.cons .r (.cons .r (.cons .u (.cons .r (.cons .r .nil)))))) (fun l1 y2 => (tk_name rfl)) (fun l1 y2 => by exact (s_end (s_setC (c_F (e' := (eL (eT PyData.int))) (c_comp2I (p := (fun y3 => (TM.pure true))) (ti := (fun y3 => (TM.pure [0, 1]))) (q := (fun y3 y4 => (TM.pure true))) (g := (fun y3 y4 => (TM.lift (catT y3 [y4])))) (ea := (eT PyData.int)) (eb := PyData.int) (e := (eT PyData.int)) (v_items (v_v rfl) rfl) rfl (fun y3 => (tk_name rfl)) (fun y3 => (RV.re (e := id) (x := true) v_yes)) (fun y3 => (RV.re (e := (List.map PyData.int)) (x := [0, 1]) (v_items v_c rfl))) (fun y3 => rfl) (fun y3 y4 => (tk_name rfl)) (fun y3 y4 => (RV.re (e := id) (x := true) v_yes)) (fun y3 y4 => (rv_bind (v_v rfl) (rv_bind (v_tup (v_cons (v_v rfl) v_nil)) (re_lift (o_addT PyData.int y3 [y4]))))))) rfl fun x5 => by exact (s_skip (l := x5) (.cons .r (.cons .r (.cons .d (.cons .r (.cons .r .nil))))))))) (fun l1 => by exact (s_end (s_retV (r := l1) (v_v rfl) (.inl rfl)))))))
def t_place_of_f1  : Int → Int → TM Int := fun (l1 : Int) (y2 : Int) => TM.pure (((2 : Int) * l1) + y2)
def t_place_of (a_word : (List Int)) : TM Int := ((TM.forT t_place_of_f1 a_word (0 : Int)).bind fun l1 => TM.pure l1)
set_option maxHeartbeats 4000000 in
theorem r_place_of (a_word : (List Int)) : RF f_place_of [.d ((eT PyData.int) a_word)] (t_place_of a_word) PyData.int := rf_run (s_setV (y := PyData.int (0 : Int)) v_c rfl (by exact (s_forI (ea := PyData.int) (k := (fun (l1 : Int) => [.v (.d ((eT PyData.int) a_word)), .v (.d (PyData.int l1)), .j])) (l0 := (0 : Int)) (v_items (v_v rfl) rfl) (by exact (.cons .r (.cons .r (.cons .u .nil)))) (fun l1 y2 => (tk_name rfl)) (fun l1 y2 => by exact (s_end (s_setV (y := PyData.int (((2 : Int) * l1) + y2)) (v_op (v_op v_c (v_v rfl) o_mulL) (v_v rfl) (o_add ((2 : Int) * l1) y2)) rfl (by exact (s_skip (l := (((2 : Int) * l1) + y2)) (.cons .r (.cons .r (.cons .d .nil)))))))) (fun l1 => by exact (s_end (s_retV (r := l1) (v_v rfl) (.inl rfl)))))))
def t_next_word (a_rule : (List Int)) (a_word : (List Int)) : TM (List Int) := ((((t_place_of a_word).bind fun c1 => (TM.lift (atI a_rule c1))).bind fun c2 => TM.pure [c2]).bind fun c3 => (TM.lift (catT (cutL a_word (some (1 : Int)) none) c3)))
set_option maxHeartbeats 4000000 in
theorem r_next_word (a_rule : (List Int)) (a_word : (List Int)) : RF f_next_word [.d ((eT PyData.int) a_rule), .d ((eT PyData.int) a_word)] (t_next_word a_rule a_word) (eT PyData.int) := rf_run (s_end (s_retR (rv_bind (v_slice (v_v rfl) (v_part v_c) v_noPart (o_slT PyData.int _ _ _)) (re_bind (k_consC (rv_bind (v_v rfl) (re_bind (c_call (x_d (v_v rfl) (x_nil (x_fin (r_place_of a_word))))) fun c1 => (re_lift (o_ixT PyData.int a_rule c1)))) fun c2 => (k_nil (k_tup (e := (eT PyData.int)) (p := [c2])))) fun c3 => (re_lift (o_addT PyData.int (cutL a_word (some (1 : Int)) none) c3))))))
def t_ring_of_c1 (l1 : (List Int)) : ((List (List Int)) × (List Int)) → TM Bool := fun (l5 : ((List (List Int)) × (List Int))) => (TM.pure (!decide (l5.2 = l1)))
def t_ring_of_f2 (a_rule : (List Int)) : ((List (List Int)) × (List Int)) → TM ((List (List Int)) × (List Int)) := fun (l5 : ((List (List Int)) × (List Int))) => ((TM.lift (appT l5.1 l5.2)).bind fun x6 => ((t_next_word a_rule l5.2).bind fun x7 => TM.pure (x6, x7)))
def t_ring_of_f3 (a_rule : (List Int)) : (List Int) → Int → TM (List Int) := fun (l1 : (List Int)) (y2 : Int) => ((t_next_word a_rule l1).bind fun x3 => TM.pure x3)
def t_ring_of (a_rule : (List Int)) (a_word : (List Int)) : TM (List (List Int)) := ((TM.lift (rngT 0 (a_rule.length : Int))).bind fun z8 => (TM.forT (t_ring_of_f3 a_rule) z8 a_word).bind fun l1 => ((t_next_word a_rule l1).bind fun x4 => ((TM.whileT (t_ring_of_c1 l1) (t_ring_of_f2 a_rule) 1000 ([l1], x4)).bind fun l5 => TM.pure l5.1)))
set_option maxHeartbeats 4000000 in
theorem r_ring_of (a_rule : (List Int)) (a_word : (List Int)) : RF f_ring_of [.d ((eT PyData.int) a_rule), .d ((eT PyData.int) a_word)] (t_ring_of a_rule a_word) (eL (eT PyData.int)) := rf_run (s_for (ea := PyData.int) (k := (fun (l1 : (List Int)) => [.v (.d ((eT PyData.int) a_rule)), .v (.d ((eT PyData.int) l1)), .j, .v .un, .v .un])) (l0 := a_word) (c_rng1V (v_un (v_v rfl) (o_lenT PyData.int a_rule))) (by exact (.cons .r (.cons .r (.cons .u (.cons .r (.cons .r .nil)))))) (fun l1 y2 => (tk_name rfl)) (fun l1 y2 => by exact (s_end (s_setC (c_call (x_d (v_v rfl) (x_d (v_v rfl) (x_nil (x_fin (r_next_word a_rule l1)))))) rfl fun x3 => by exact (s_skip (l := x3) (.cons .r (.cons .r (.cons .d (.cons .r (.cons .r .nil))))))))) (fun l1 => by exact (s_setLV (v_lst (v_cons (v_v rfl) v_nil)) rfl (by exact (s_setC (c_call (x_d (v_v rfl) (x_d (v_v rfl) (x_nil (x_fin (r_next_word a_rule l1)))))) rfl fun x4 => by exact (s_while (k := (fun (l5 : ((List (List Int)) × (List Int))) => [.v (.d ((eT PyData.int) a_rule)), .v (.d ((eT PyData.int) l1)), .j, .v (.l (List.map (eT PyData.int) l5.1)), .v (.d ((eT PyData.int) l5.2))])) (l0 := ([l1], x4)) (by exact (.cons .r (.cons .r (.cons .r (.cons .r (.cons .r .nil)))))) (fun l5 => (RV.re (e := id) (x := (!decide (l5.2 = l1))) (v_tst (v_op (v_v rfl) (v_v rfl) (o_ne (eqE_T eqE_int) l5.2 l1))))) (fun l5 => by exact (s_appV (x := l5.2) (e := (eT PyData.int)) rfl (v_v rfl) rfl fun x6 => by exact (s_end (s_setC (c_call (x_d (v_v rfl) (x_d (v_v rfl) (x_nil (x_fin (r_next_word a_rule l5.2)))))) rfl fun x7 => by exact (s_skip (l := (x6, x7)) (.cons .r (.cons .r (.cons .r (.cons .r (.cons .r .nil)))))))))) (fun l5 => by exact (s_end (s_retL (r := l5.1) rfl (.inl rfl))))))))))
def t_found_rings (a_n : Int) (a_rule : (List Int)) : TM (List (List (List Int))) := (((t_all_words a_n).bind fun z4 => TM.compL (fun y1 => (TM.pure true)) (fun y1 => (((t_ring_of a_rule y1).bind fun c2 => (TM.lift (srtT (eT PyData.int) c2))).bind fun c3 => TM.pure c3)) z4).bind fun c5 => (TM.lift (sortSetW c5)))
set_option maxHeartbeats 4000000 in
theorem r_found_rings (a_n : Int) (a_rule : (List Int)) : RF f_found_rings [.d (PyData.int a_n), .d ((eT PyData.int) a_rule)] (t_found_rings a_n a_rule) (eL (eT (eT PyData.int))) := rf_run (s_end (s_retR (c_F (e' := (eL (eT (eT PyData.int)))) (re_bind (c_F (e' := (eL (eT (eT PyData.int)))) (c_comp (ea := (eT PyData.int)) (p := fun y1 => (TM.pure true)) (g := fun y1 => (((t_ring_of a_rule y1).bind fun c2 => (TM.lift (srtT (eT PyData.int) c2))).bind fun c3 => TM.pure c3)) (e := (eT (eT PyData.int))) (c_items (e := List.map (eT PyData.int)) (c_call (x_d (v_v rfl) (x_nil (x_fin (r_all_words a_n))))) fun _ => rfl) rfl (fun y1 => (tk_name rfl)) (fun y1 => (RV.re (e := id) (x := true) v_yes)) (fun y1 => (re_bind (c_F (e' := (eL (eT PyData.int))) (re_bind (c_call (x_d (v_v rfl) (x_d (v_v rfl) (x_nil (x_fin (r_ring_of a_rule y1)))))) fun c2 => (re_lift (o_sort (eT PyData.int) c2)))) fun c3 => (re_liftP rfl))))) fun c5 => (re_lift (o_sortSetN c5))))))
def t_is_full_rule (a_n : PyData) (a_rule : PyData) : TM Bool := ((t_check_rule a_n a_rule).bind fun u8 => (((((TM.lift (asI a_n)).bind fun c1 => ((TM.lift ((asT asI) a_rule)).bind fun c2 => (t_found_rings c1 c2))).bind fun c3 => (TM.lift (atI c3 (0 : Int)))).bind fun c4 => TM.pure (c4.length : Int)).bind fun c6 => (((TM.lift (asI a_n)).bind fun c5 => (t_power_of_two c5)).bind fun c7 => TM.pure (decide (c6 = c7)))))
set_option maxHeartbeats 4000000 in
theorem r_is_full_rule (a_n : PyData) (a_rule : PyData) : RF f_is_full_rule [.d (eA a_n), .d (eA a_rule)] (t_is_full_rule a_n a_rule) PyData.bool := rf_run (s_dropC (c_call (x_d (v_v rfl) (x_d (v_v rfl) (x_nil (x_fin (r_check_rule a_n a_rule)))))) fun u8 => by exact (s_end (s_retR (re_bind (re_bind (re_bind (c_call (x_dC (RE.castV (g := asI) (v_v rfl) fun _ _ h => (asI_ok h).symm) fun c1 => (x_dC (RE.castV (g := (asT asI)) (v_v rfl) (asT_e asI_e)) fun c2 => (x_nil (x_fin (r_found_rings c1 c2)))))) fun c3 => (rv_bind v_c (re_lift (o_ixL (eT (eT PyData.int)) c3 (0 : Int))))) fun c4 => (re_liftP (o_lenT (eT PyData.int) c4))) fun c6 => (re_bind (c_call (x_dC (RE.castV (g := asI) (v_v rfl) fun _ _ h => (asI_ok h).symm) fun c5 => (x_nil (x_fin (r_power_of_two c5))))) fun c7 => (re_liftP (o_eq eqE_int c6 c7)))))))
def t_summing (a_n : Int) (a_places : (List Int)) : TM (List Int) := (((t_all_words a_n).bind fun z6 => TM.compL (fun y1 => (TM.pure true)) (fun y1 => ((((TM.compL (fun y2 => (TM.pure true)) (fun y2 => (TM.lift (atI y1 y2))) a_places).bind fun c3 => TM.pure c3.sum).bind fun c4 => TM.pure c4).bind fun c5 => TM.pure (c5 % (2 : Int)))) z6).bind fun c7 => TM.pure c7)
set_option maxHeartbeats 4000000 in
theorem r_summing (a_n : Int) (a_places : (List Int)) : RF f_summing [.d (PyData.int a_n), .d ((eT PyData.int) a_places)] (t_summing a_n a_places) (eT PyData.int) := rf_run (s_end (s_retR (re_bind (c_F (e' := (eL PyData.int)) (c_comp (ea := (eT PyData.int)) (p := fun y1 => (TM.pure true)) (g := fun y1 => ((((TM.compL (fun y2 => (TM.pure true)) (fun y2 => (TM.lift (atI y1 y2))) a_places).bind fun c3 => TM.pure c3.sum).bind fun c4 => TM.pure c4).bind fun c5 => TM.pure (c5 % (2 : Int)))) (e := PyData.int) (c_items (e := List.map (eT PyData.int)) (c_call (x_d (v_v rfl) (x_nil (x_fin (r_all_words a_n))))) fun _ => rfl) rfl (fun y1 => (tk_name rfl)) (fun y1 => (RV.re (e := id) (x := true) v_yes)) (fun y1 => (re_bind (re_bind (re_bind (c_F (e' := (eL PyData.int)) (c_compI (ea := PyData.int) (p := fun y2 => (TM.pure true)) (g := fun y2 => (TM.lift (atI y1 y2))) (e := PyData.int) (v_items (v_v rfl) rfl) rfl (fun y2 => (tk_name rfl)) (fun y2 => (RV.re (e := id) (x := true) v_yes)) (fun y2 => (rv_bind (v_v rfl) (rv_bind (v_v rfl) (re_lift (o_ixT PyData.int y1 y2))))))) fun c3 => (re_liftP (o_sum c3))) fun c4 => (re_liftP (o_int c4))) fun c5 => (rv_bind v_c (re_liftP o_mod)))))) fun c7 => (re_liftP rfl))))
def t_places_of_f1  : (List (List Int)) → Int → TM (List (List Int)) := fun (l1 : (List (List Int))) (y2 : Int) => (((TM.compL (fun y3 => (TM.pure true)) (fun y3 => (TM.lift (catT y3 [y2]))) l1).bind fun c4 => (TM.lift (catT l1 c4))).bind fun x5 => TM.pure x5)
def t_places_of (a_n : Int) : TM (List (List Int)) := ((TM.lift (rngT 0 a_n)).bind fun z6 => (TM.forT t_places_of_f1 z6 [([] : (List Int))]).bind fun l1 => TM.pure l1)
set_option maxHeartbeats 4000000 in
theorem r_places_of (a_n : Int) : RF f_places_of [.d (PyData.int a_n)] (t_places_of a_n) (eL (eT PyData.int)) := rf_run (s_setV (y := (eL (eT PyData.int)) [([] : (List Int))]) (v_F (v_lst (v_cons (v_tup v_nil) v_nil))) rfl (by exact (s_for (ea := PyData.int) (k := (fun (l1 : (List (List Int))) => [.v (.d (PyData.int a_n)), .v (.d ((eL (eT PyData.int)) l1)), .j, .v .un])) (l0 := [([] : (List Int))]) (c_rng1V (v_v rfl)) (by exact (.cons .r (.cons .r (.cons .u (.cons .r .nil))))) (fun l1 y2 => (tk_name rfl)) (fun l1 y2 => by exact (s_end (s_setC (rv_bind (v_v rfl) (re_bind (c_F (e' := (eL (eT PyData.int))) (c_compI (ea := (eT PyData.int)) (p := fun y3 => (TM.pure true)) (g := fun y3 => (TM.lift (catT y3 [y2]))) (e := (eT PyData.int)) (v_items (v_v rfl) rfl) rfl (fun y3 => (tk_name rfl)) (fun y3 => (RV.re (e := id) (x := true) v_yes)) (fun y3 => (rv_bind (v_v rfl) (rv_bind (v_tup (v_cons (v_v rfl) v_nil)) (re_lift (o_addT PyData.int y3 [y2]))))))) fun c4 => (re_lift (o_addL (eT PyData.int) l1 c4)))) rfl fun x5 => by exact (s_skip (l := x5) (.cons .r (.cons .r (.cons .d (.cons .r .nil)))))))) (fun l1 => by exact (s_end (s_retV (r := l1) (v_v rfl) (.inl rfl)))))))
def t_is_wide (a_n : PyData) (a_rule : PyData) : TM Bool := ((t_check_rule a_n a_rule).bind fun u18 => ((((((TM.lift (asI a_n)).bind fun c1 => (t_places_of c1)).bind fun z4 => TM.compL (fun y2 => (TM.pure true)) (fun y2 => ((TM.lift (asI a_n)).bind fun c3 => (t_summing c3 y2))) z4).bind fun x => TM.pure ((eL (eT PyData.int)) x)).bind fun c5 => (TM.lift (ninA a_rule c5))).bind fun k17 => if k17 then TM.pure false else ((((TM.lift (asI a_n)).bind fun c6 => ((TM.lift ((asT asI) a_rule)).bind fun c7 => (t_found_rings c6 c7))).bind fun z15 => TM.compL (fun y8 => (TM.pure true)) (fun y8 => (((((TM.lift (asI a_n)).bind fun c9 => (t_power_of_two c9)).bind fun c10 => TM.pure (c10 - (1 : Int))).bind fun c11 => TM.pure (decide ((y8.length : Int) = c11))).bind fun k14 => (if k14 then (((TM.lift (asI a_n)).bind fun c12 => (TM.lift (repT1 [(0 : Int)] c12))).bind fun c13 => TM.pure (!memT c13 y8)) else TM.pure false))) z15).bind fun c16 => TM.pure (c16.any id))))
set_option maxHeartbeats 4000000 in
theorem r_is_wide (a_n : PyData) (a_rule : PyData) : RF f_is_wide [.d (eA a_n), .d (eA a_rule)] (t_is_wide a_n a_rule) PyData.bool := rf_run (s_dropC (c_call (x_d (v_v rfl) (x_d (v_v rfl) (x_nil (x_fin (r_check_rule a_n a_rule)))))) fun u18 => by exact (s_ifC (c_tst (rv_bind (v_v rfl) (re_bind (RE.mapE (eL (eT PyData.int)) (c_F (e' := (eL (eT PyData.int))) (c_comp (ea := (eT PyData.int)) (p := fun y2 => (TM.pure true)) (g := fun y2 => ((TM.lift (asI a_n)).bind fun c3 => (t_summing c3 y2))) (e := (eT PyData.int)) (c_items (e := List.map (eT PyData.int)) (c_call (x_dC (RE.castV (g := asI) (v_v rfl) fun _ _ h => (asI_ok h).symm) fun c1 => (x_nil (x_fin (r_places_of c1))))) fun _ => rfl) rfl (fun y2 => (tk_name rfl)) (fun y2 => (RV.re (e := id) (x := true) v_yes)) (fun y2 => (c_call (x_dC (RE.castV (g := asI) (v_v rfl) fun _ _ h => (asI_ok h).symm) fun c3 => (x_d (v_v rfl) (x_nil (x_fin (r_summing c3 y2))))))))) fun _ => rfl) fun c5 => (re_lift (o_ninA a_rule c5))))) (by exact (s_retV (r := false) v_c (.inl rfl))) (by exact (s_skipS (s_end (s_retR (re_bind (c_F (e' := (eL PyData.bool)) (c_comp (ea := (eT (eT PyData.int))) (p := fun y8 => (TM.pure true)) (g := fun y8 => (((((TM.lift (asI a_n)).bind fun c9 => (t_power_of_two c9)).bind fun c10 => TM.pure (c10 - (1 : Int))).bind fun c11 => TM.pure (decide ((y8.length : Int) = c11))).bind fun k14 => (if k14 then (((TM.lift (asI a_n)).bind fun c12 => (TM.lift (repT1 [(0 : Int)] c12))).bind fun c13 => TM.pure (!memT c13 y8)) else TM.pure false))) (e := PyData.bool) (c_items (e := List.map (eT (eT PyData.int))) (c_call (x_dC (RE.castV (g := asI) (v_v rfl) fun _ _ h => (asI_ok h).symm) fun c6 => (x_dC (RE.castV (g := (asT asI)) (v_v rfl) (asT_e asI_e)) fun c7 => (x_nil (x_fin (r_found_rings c6 c7)))))) fun _ => rfl) rfl (fun y8 => (tk_name rfl)) (fun y8 => (RV.re (e := id) (x := true) v_yes)) (fun y8 => (cc_andV (rv_bind (v_un (v_v rfl) (o_lenT (eT PyData.int) y8)) (re_bind (re_bind (c_call (x_dC (RE.castV (g := asI) (v_v rfl) fun _ _ h => (asI_ok h).symm) fun c9 => (x_nil (x_fin (r_power_of_two c9))))) fun c10 => (rv_bind v_c (re_liftP (o_sub c10 (1 : Int))))) fun c11 => (re_liftP (o_eq eqE_int (y8.length : Int) c11)))) (re_bind (rv_bind (v_tup (v_cons v_c v_nil)) (re_bind (RE.castV (g := asI) (v_v rfl) fun _ _ h => (asI_ok h).symm) fun c12 => (re_lift (o_repT1 PyData.int [(0 : Int)] c12)))) fun c13 => (rv_bind (v_v rfl) (re_liftP (o_ninT (eqE_T eqE_int) c13 y8)))))))) fun c16 => (re_liftP (o_any c16)))))))))
def t_found_turnable (a_n : Int) (a_rule : (List Int)) : TM Bool := ((t_power_of_two (a_n - (1 : Int))).bind fun x1 => (((TM.lift (rngT 0 x1)).bind fun z5 => TM.compL (fun y2 => (TM.pure true)) (fun y2 => ((TM.lift (atI a_rule y2)).bind fun c3 => ((TM.lift (atI a_rule (y2 + x1))).bind fun c4 => TM.pure (!decide (c3 = c4))))) z5).bind fun c6 => TM.pure (c6.all id)))
set_option maxHeartbeats 4000000 in
theorem r_found_turnable (a_n : Int) (a_rule : (List Int)) : RF f_found_turnable [.d (PyData.int a_n), .d ((eT PyData.int) a_rule)] (t_found_turnable a_n a_rule) PyData.bool := rf_run (s_setC (c_call (x_d (v_op (v_v rfl) v_c (o_sub a_n (1 : Int))) (x_nil (x_fin (r_power_of_two (a_n - (1 : Int))))))) rfl fun x1 => by exact (s_end (s_retR (re_bind (c_F (e' := (eL PyData.bool)) (c_comp (ea := PyData.int) (p := fun y2 => (TM.pure true)) (g := fun y2 => ((TM.lift (atI a_rule y2)).bind fun c3 => ((TM.lift (atI a_rule (y2 + x1))).bind fun c4 => TM.pure (!decide (c3 = c4))))) (e := PyData.bool) (c_rng1V (v_v rfl)) rfl (fun y2 => (tk_name rfl)) (fun y2 => (RV.re (e := id) (x := true) v_yes)) (fun y2 => (re_bind (rv_bind (v_v rfl) (rv_bind (v_v rfl) (re_lift (o_ixT PyData.int a_rule y2)))) fun c3 => (re_bind (rv_bind (v_v rfl) (rv_bind (v_op (v_v rfl) (v_v rfl) (o_add y2 x1)) (re_lift (o_ixT PyData.int a_rule (y2 + x1))))) fun c4 => (re_liftP (o_ne eqE_int c3 c4))))))) fun c6 => (re_liftP (o_all c6))))))
def t_full_rules_f1 (a_n : PyData) : (List (List Int)) → (List Int) → TM (List (List Int)) := fun (l3 : (List (List Int))) (y4 : (List Int)) => ((((TM.lift (asI a_n)).bind fun c5 => (t_found_turnable c5 y4)).bind fun k9 => (if k9 then ((((TM.lift (asI a_n)).bind fun c6 => (t_found_rings c6 y4)).bind fun c7 => TM.pure (c7.length : Int)).bind fun c8 => TM.pure (decide (c8 = (1 : Int)))) else TM.pure false)).bind fun k11 => if k11 then ((TM.lift (appT l3 y4)).bind fun x10 => TM.pure x10) else TM.pure l3)
def t_full_rules (a_n : PyData) : TM (List (List Int)) := ((t_check_number a_n (3 : Int)).bind fun u13 => ((((TM.lift (asI a_n)).bind fun c1 => (t_power_of_two c1)).bind fun c2 => (t_all_words c2)).bind fun z12 => (TM.forT (t_full_rules_f1 a_n) z12 ([] : (List (List Int)))).bind fun l3 => TM.pure l3))
set_option maxHeartbeats 4000000 in
theorem r_full_rules (a_n : PyData) : RF f_full_rules [.d (eA a_n)] (t_full_rules a_n) (eT (eT PyData.int)) := rf_run (s_dropC (c_call (x_d (v_v rfl) (x_d v_c (x_nil (x_fin (r_check_number a_n (3 : Int))))))) fun u13 => by exact (s_setLV (v_lst v_nil) rfl (by exact (s_for (ea := (eT PyData.int)) (k := (fun (l3 : (List (List Int))) => [.v (.d (eA a_n)), .v (.l (List.map (eT PyData.int) l3)), .j])) (l0 := ([] : (List (List Int)))) (c_items (e := List.map (eT PyData.int)) (c_call (x_dC (c_call (x_dC (RE.castV (g := asI) (v_v rfl) fun _ _ h => (asI_ok h).symm) fun c1 => (x_nil (x_fin (r_power_of_two c1))))) fun c2 => (x_nil (x_fin (r_all_words c2))))) fun _ => rfl) (by exact (.cons .r (.cons .r (.cons .u .nil)))) (fun l3 y4 => (tk_name rfl)) (fun l3 y4 => by exact (s_end (s_ifC (cc_and (c_tst (c_call (x_dC (RE.castV (g := asI) (v_v rfl) fun _ _ h => (asI_ok h).symm) fun c5 => (x_d (v_v rfl) (x_nil (x_fin (r_found_turnable c5 y4))))))) (c_tst (re_bind (re_bind (c_call (x_dC (RE.castV (g := asI) (v_v rfl) fun _ _ h => (asI_ok h).symm) fun c6 => (x_d (v_v rfl) (x_nil (x_fin (r_found_rings c6 y4)))))) fun c7 => (re_liftP (o_lenL (eT (eT PyData.int)) c7))) fun c8 => (rv_bind v_c (re_liftP (o_eq eqE_int c8 (1 : Int))))))) (by exact (s_appV (x := y4) (e := (eT PyData.int)) rfl (v_v rfl) rfl fun x10 => by exact (s_skip (l := x10) (.cons .r (.cons .r (.cons .d .nil)))))) (by exact (s_skipS (s_skip (l := l3) (.cons .r (.cons .r (.cons .d .nil))))))))) (fun l3 => by exact (s_end (s_retV (r := l3) (v_un (v_vp rfl) rfl) (.inl rfl))))))))
def t__law_told (a_n : PyData) : TM PyData := (TM.tryT (fun _ => true) ((t_full_rules a_n).bind fun x => TM.pure ((eT (eT PyData.int)) x)) (TM.pure (PyData.str ("<malformed>" : Str))))
set_option maxHeartbeats 4000000 in
theorem r__law_told (a_n : PyData) : RF f__law_told [.d (eA a_n)] (t__law_told a_n) eA := rf_run (s_end (s_end' (s_try (d := eA (PyData.str ("<malformed>" : Str))) (by exact (s_end (s_retR (RE.mapE (eT (eT PyData.int)) (c_call (x_d (v_v rfl) (x_nil (x_fin (r_full_rules a_n))))) fun _ => rfl)))) (fun _ _ => rfl) (.inl rfl) PR.nx)))
def t_linear_rule (a_n : PyData) (a_places : PyData) : TM (List Int) := ((t_check_number a_n (4 : Int)).bind fun u22 => ((((TM.lift (isOf "tuple" a_places)).bind fun k1 => TM.pure (!k1)).bind fun k10 => (if k10 then TM.pure true else ((((TM.lift (itemsOf a_places)).bind fun z7 => TM.compL (fun y2 => (TM.pure true)) (fun y2 => ((t_is_whole y2).bind fun k6 => (if k6 then ((TM.pure (0 : Int)).bind fun c3 => (TM.lift (asI y2)).bind fun c4 => if (decide (c3 ≤ c4)) then (TM.lift (asI a_n)).bind fun c5 => TM.pure (decide (c4 < c5)) else TM.pure false) else TM.pure false))) z7).bind fun c8 => TM.pure (c8.all id)).bind fun k9 => TM.pure (!k9)))).bind fun k21 => if k21 then TM.raise .malformed else ((((((TM.lift ((asT asI) a_places)).bind fun c12 => (((TM.lift ((asT asI) a_places)).bind fun c11 => TM.pure (cutL c11 (some (1 : Int)) none)).bind fun c13 => TM.pure (c12.zip c13))).bind fun z15 => TM.compV (fun y14 => true) (fun y14 => (decide (y14.1 < y14.2))) z15).bind fun c16 => TM.pure (c16.all id)).bind fun k17 => TM.pure (!k17)).bind fun k20 => if k20 then TM.raise .malformed else ((TM.lift (asI a_n)).bind fun c18 => ((TM.lift ((asT asI) a_places)).bind fun c19 => (t_summing c18 c19))))))
set_option maxHeartbeats 4000000 in
theorem r_linear_rule (a_n : PyData) (a_places : PyData) : RF f_linear_rule [.d (eA a_n), .d (eA a_places)] (t_linear_rule a_n a_places) (eT PyData.int) := rf_run (s_dropC (c_call (x_d (v_v rfl) (x_d v_c (x_nil (x_fin (r_check_number a_n (4 : Int))))))) fun u22 => by exact (s_ifC (cc_or (c_not (c_tst (c_isiV (n := 2) (v_v rfl)))) (c_not (c_tst (re_bind (c_F (e' := (eL PyData.bool)) (c_comp (ea := eA) (p := fun y2 => (TM.pure true)) (g := fun y2 => ((t_is_whole y2).bind fun k6 => (if k6 then ((TM.pure (0 : Int)).bind fun c3 => (TM.lift (asI y2)).bind fun c4 => if (decide (c3 ≤ c4)) then (TM.lift (asI a_n)).bind fun c5 => TM.pure (decide (c4 < c5)) else TM.pure false) else TM.pure false))) (e := PyData.bool) (c_itemsA (v_v rfl)) rfl (fun y2 => (tk_name rfl)) (fun y2 => (RV.re (e := id) (x := true) v_yes)) (fun y2 => (cc_andV (c_call (x_d (v_v rfl) (x_nil (x_fin (r_is_whole y2))))) (c_chain (p := fun c3 c4 => (decide (c3 ≤ c4))) (q := fun c4 c5 => (decide (c4 < c5))) (RV.re (e := PyData.int) (x := (0 : Int)) v_c) (RE.castV (g := asI) (v_v rfl) fun _ _ h => (asI_ok h).symm) (fun c3 c4 => (o_le c3 c4)) (RE.castV (g := asI) (v_v rfl) fun _ _ h => (asI_ok h).symm) (fun c4 c5 => (o_lt c4 c5))))))) fun c8 => (re_liftP (o_all c8)))))) (by exact s_raise) (by exact (s_skipS (s_ifC (c_not (c_tst (re_bind (c_F (e' := (eL PyData.bool)) (c_compV (ea := (e2 PyData.int PyData.int)) (p := fun y14 => true) (g := fun y14 => (decide (y14.1 < y14.2))) (e := PyData.bool) (re_bind (RE.castV (g := (asT asI)) (v_v rfl) (asT_e asI_e)) fun c12 => (re_bind (re_bind (RE.castV (g := (asT asI)) (v_v rfl) (asT_e asI_e)) fun c11 => (rv_bind (v_part v_c) (rv_bind v_noPart (re_liftP (e := eT PyData.int) (o_slT PyData.int _ _ _))))) fun c13 => (re_liftP (o_zipW PyData.int PyData.int c12 c13)))) rfl (fun y14 => (tk_tup (tks_cons (tk_name rfl) (tks_cons (tk_name rfl) tks_nil)))) (fun y14 => v_yes) (fun y14 => (v_op (v_v rfl) (v_v rfl) (o_lt y14.1 y14.2))))) fun c16 => (re_liftP (o_all c16))))) (by exact s_raise) (by exact (s_skipS (s_end (s_retR (c_call (x_dC (RE.castV (g := asI) (v_v rfl) fun _ _ h => (asI_ok h).symm) fun c18 => (x_dC (RE.castV (g := (asT asI)) (v_v rfl) (asT_e asI_e)) fun c19 => (x_nil (x_fin (r_summing c18 c19)))))))))))))))
def t__law_next_f1  : Int → Int → TM Int := fun (l1 : Int) (y2 : Int) => TM.pure (((2 : Int) * l1) + y2)
def t__law_next (a_rule : (List Int)) (a_word : (List Int)) : TM (List Int) := ((TM.forT t__law_next_f1 a_word (0 : Int)).bind fun l1 => (((TM.lift (atI a_rule l1)).bind fun c3 => TM.pure [c3]).bind fun c4 => (TM.lift (catT (cutL a_word (some (1 : Int)) none) c4))))
set_option maxHeartbeats 4000000 in
theorem r__law_next (a_rule : (List Int)) (a_word : (List Int)) : RF f__law_next [.d ((eT PyData.int) a_rule), .d ((eT PyData.int) a_word)] (t__law_next a_rule a_word) (eT PyData.int) := rf_run (s_setV (y := PyData.int (0 : Int)) v_c rfl (by exact (s_forI (ea := PyData.int) (k := (fun (l1 : Int) => [.v (.d ((eT PyData.int) a_rule)), .v (.d ((eT PyData.int) a_word)), .v (.d (PyData.int l1)), .j])) (l0 := (0 : Int)) (v_items (v_v rfl) rfl) (by exact (.cons .r (.cons .r (.cons .r (.cons .u .nil))))) (fun l1 y2 => (tk_name rfl)) (fun l1 y2 => by exact (s_end (s_setV (y := PyData.int (((2 : Int) * l1) + y2)) (v_op (v_op v_c (v_v rfl) o_mulL) (v_v rfl) (o_add ((2 : Int) * l1) y2)) rfl (by exact (s_skip (l := (((2 : Int) * l1) + y2)) (.cons .r (.cons .r (.cons .r (.cons .d .nil))))))))) (fun l1 => by exact (s_end (s_retR (rv_bind (v_slice (v_v rfl) (v_part v_c) v_noPart (o_slT PyData.int _ _ _)) (re_bind (k_consC (rv_bind (v_v rfl) (rv_bind (v_v rfl) (re_lift (o_ixT PyData.int a_rule l1)))) fun c3 => (k_nil (k_tup (e := (eT PyData.int)) (p := [c3])))) fun c4 => (re_lift (o_addT PyData.int (cutL a_word (some (1 : Int)) none) c4))))))))))
def t__law_rings_f1 (a_rule : (List Int)) : ((List (List Int)) × (List Int)) → Int → TM ((List (List Int)) × (List Int)) := fun (l4 : ((List (List Int)) × (List Int))) (y5 : Int) => (if (!memT l4.2 l4.1) then ((TM.lift (appT l4.1 l4.2)).bind fun x6 => ((t__law_next a_rule l4.2).bind fun x7 => TM.pure (x6, x7))) else TM.pure (l4.1, l4.2))
def t__law_rings_f2 (a_rule : (List Int)) : (List (List (List Int))) → (List Int) → TM (List (List (List Int))) := fun (l1 : (List (List (List Int)))) (y2 : (List Int)) => ((t__law_next a_rule y2).bind fun x3 => ((TM.lift (rngT 0 (16 : Int))).bind fun z11 => (TM.forT (t__law_rings_f1 a_rule) z11 ([y2], x3)).bind fun l4 => (if (decide (l4.2 = y2)) then (((TM.lift (srtT (eT PyData.int) l4.1)).bind fun c8 => TM.pure c8).bind fun c10 => (TM.lift (appT l1 c10)).bind fun x9 => TM.pure x9) else TM.pure l1)))
def t__law_rings (a_n : Int) (a_rule : (List Int)) : TM (List (List (List Int))) := ((t__law_rows a_n).bind fun z12 => (TM.forT (t__law_rings_f2 a_rule) z12 ([] : (List (List (List Int))))).bind fun l1 => (TM.lift (sortSetW l1)))
set_option maxHeartbeats 4000000 in
theorem r__law_rings (a_n : Int) (a_rule : (List Int)) : RF f__law_rings [.d (PyData.int a_n), .d ((eT PyData.int) a_rule)] (t__law_rings a_n a_rule) (eL (eT (eT PyData.int))) := rf_run (s_setLV (v_lst v_nil) rfl (by exact (s_for (ea := (eT PyData.int)) (k := (fun (l1 : (List (List (List Int)))) => [.v (.d (PyData.int a_n)), .v (.d ((eT PyData.int) a_rule)), .v (.l (List.map (eT (eT PyData.int)) l1)), .j, .jl, .j, .j])) (l0 := ([] : (List (List (List Int))))) (c_items (e := List.map (eT PyData.int)) (c_call (x_d (v_v rfl) (x_nil (x_fin (r__law_rows a_n))))) fun _ => rfl) (by exact (.cons .r (.cons .r (.cons .r (.cons .u (.cons .ul (.cons .u (.cons .u .nil)))))))) (fun l1 y2 => (tk_name rfl)) (fun l1 y2 => by exact (s_exV (v_lst (v_cons (v_v rfl) v_nil)) (by exact (s_exC (c_call (x_d (v_v rfl) (x_d (v_v rfl) (x_nil (x_fin (r__law_next a_rule y2)))))) fun x3 => by exact (s_putS rfl rfl (by exact (s_for (ea := PyData.int) (k := (fun (l4 : ((List (List Int)) × (List Int))) => [.v (.d (PyData.int a_n)), .v (.d ((eT PyData.int) a_rule)), .v (.l (List.map (eT (eT PyData.int)) l1)), .v (.d ((eT PyData.int) y2)), .v (.l (List.map (eT PyData.int) l4.1)), .v (.d ((eT PyData.int) l4.2)), .j])) (l0 := ([y2], x3)) (c_rng1V v_c) (by exact (.cons .r (.cons .r (.cons .r (.cons .r (.cons .r (.cons .r (.cons .r .nil)))))))) (fun l4 y5 => (tk_name rfl)) (fun l4 y5 => by exact (s_end (s_ifV (v_tst (v_op (v_v rfl) (v_vp rfl) (o_ninL (eqE_T eqE_int) l4.2 l4.1))) (by exact (s_assoc (s_appV (x := l4.2) (e := (eT PyData.int)) rfl (v_v rfl) rfl fun x6 => by exact (s_setC (c_call (x_d (v_v rfl) (x_d (v_v rfl) (x_nil (x_fin (r__law_next a_rule l4.2)))))) rfl fun x7 => by exact (s_skip (l := (x6, x7)) (.cons .r (.cons .r (.cons .r (.cons .r (.cons .r (.cons .r (.cons .d .nil)))))))))))) (by exact (s_skipS (s_skip (l := (l4.1, l4.2)) (.cons .r (.cons .r (.cons .r (.cons .r (.cons .r (.cons .r (.cons .d .nil))))))))))))) (fun l4 => by exact (s_end (s_ifV (v_tst (v_op (v_v rfl) (v_v rfl) (o_eq (eqE_T eqE_int) l4.2 y2))) (by exact (s_appC rfl (re_bind (c_F (e' := (eL (eT PyData.int))) (rv_bind (v_vp rfl) (re_lift (o_sort (eT PyData.int) l4.1)))) fun c8 => (re_liftP rfl)) fun x9 => by exact (s_skip (l := x9) (.cons .r (.cons .r (.cons .r (.cons .d (.cons .l (.cons .d (.cons .r .nil)))))))))) (by exact (s_skipS (s_skip (l := l1) (.cons .r (.cons .r (.cons .r (.cons .d (.cons .l (.cons .d (.cons .r .nil)))))))))))))))))))) (fun l1 => by exact (s_end (s_retR (c_F (e' := (eL (eT (eT PyData.int)))) (rv_bind (v_vp rfl) (re_lift (o_sortSetN l1))))))))))
def t_law_f1  : (List (List Int)) → Int → TM (List (List Int)) := fun (l30 : (List (List Int))) (y31 : Int) => (((TM.compL (fun y32 => (TM.pure true)) (fun y32 => (TM.lift (catT y32 [y31]))) l30).bind fun c33 => (TM.lift (catT l30 c33))).bind fun x34 => TM.pure x34)
def t_law_f2 (x2 : Int) (x12 : (List (List Int))) : Unit → Int → TM (Unit ⊕ Bool) := fun (l22 : Unit) (y23 : Int) => ((t__law_rule x2).bind fun x24 => (((t_is_full_rule (PyData.int x2) ((eT PyData.int) x24)).bind fun c25 => TM.pure (!decide (c25 = (memT x24 x12)))).bind fun k26 => if k26 then TM.pure (Sum.inr false) else TM.pure (Sum.inl ())))
def m_law_rest : MS :=
  (mSeq (mSet 2 (mOp fAdd (mC (.int 1)) (mCall (chk 2 f__law_take) (axV 1 (axD (mC (.int 3)) axNil)))))
  (mSeq (mSet 3 (mF (mComp [5] (mItems (mCall (chk 1 f__law_rows) (axD (mCall (chk 1 f__law_two) (axD (mV 2) axNil)) axNil))) (tName 5) (mTst (mOp fEq (mF (mComp [10] (mItems (mCall (chk 2 f__law_rings) (axD (mV 2) (axD (mV 5) axNil)))) (tName 10) mYes (mUn fLen (mV 10)))) (mF (mLst (mCons (mCall (chk 1 f__law_two) (axD (mV 2) axNil)) mNil))))) (mV 5))))
  (mSeq (mIfS (mOr (mTst (mOp fNe (mUn fRepr (mCall (chk 1 f_full_rules) (axD (mV 2) axNil))) (mUn fRepr (mUn fTuple (mV 3))))) (mOr (mTst (mOp fNe (mUn fLen (mV 3)) (mOp fIx (mF (mLst (mCons (mC (.int 1)) (mCons (mC (.int 1)) (mCons (mC (.int 2)) mNil))))) (mOp fSub (mV 2) (mC (.int 1)))))) (mNot (mTst (mUn fAll (mF (mComp [5] (mItems (mV 3)) (tName 5) mYes (mCall (chk 2 f_is_full_rule) (axD (mV 2) (axD (mV 5) axNil)))))))))) (mRet (mC (.bool false))) mSkip)
  (mSeq (mFor (mRng1 (mC (.int 6))) (tName 4) (mSeq (mSet 5 (mCall (chk 2 f__law_rule) (axV 1 (axD (mV 2) axNil))))
  (mIfS (mTst (mOp fNe (mCall (chk 2 f_is_full_rule) (axD (mV 2) (axD (mV 5) axNil))) (mOp fIn (mV 5) (mV 3)))) (mRet (mC (.bool false))) mSkip)))
  (mSeq (mAsg (tTup 2 (tConsT (tName 6) (tConsT (tName 7) tNilT))) (mTup (mCons (mOp fAdd (mC (.int 1)) (mCall (chk 2 f__law_take) (axV 1 (axD (mC (.int 4)) axNil)))) (mCons (mF (mLst (mCons (mTup mNil) mNil))) mNil))))
  (mSeq (mFor (mRng1 (mV 6)) (tName 8) (mSet 7 (mOp fAdd (mV 7) (mF (mComp [11] (mItems (mV 7)) (tName 11) mYes (mOp fAdd (mV 11) (mTup (mCons (mV 8) mNil))))))))
  (mSeq (mSet 9 (mF (mComp [12] (mItems (mV 7)) (tName 12) (mTst (mCall (chk 2 f_is_wide) (axD (mV 6) (axD (mCall (chk 2 f_linear_rule) (axD (mV 6) (axD (mUn fTuple (mF (mUnF fSortA (mV 12)))) axNil))) axNil)))) (mV 12))))
  (mSeq (mIfS (mTst (mOp fNe (mUn fLen (mV 9)) (mOp fIx (mF (mLst (mCons (mC (.int 1)) (mCons (mC (.int 1)) (mCons (mC (.int 2)) (mCons (mC (.int 2)) mNil)))))) (mOp fSub (mV 6) (mC (.int 1)))))) (mRet (mC (.bool false))) mSkip)
  (mRet (mOp fEq (mF (mComp [13] (mItems (mF (mLst (mCons (mC .none) (mCons (mC (.int 0)) (mCons (mC (.int 4)) (mCons (mC (.bool true)) (mCons (mC (.str "1")) mNil)))))))) (tName 13) mYes (mCall (chk 1 f__law_told) (axD (mV 13) axNil)))) (mOp fMul (mF (mLst (mCons (mC (.str "<malformed>")) mNil))) (mC (.int 5)))))))))))))
def t_law : TM Bool := (((t__law_take (3 : Int)).bind fun c1 => TM.pure ((1 : Int) + c1)).bind fun x2 => ((((t__law_two x2).bind fun c3 => (t__law_rows c3)).bind fun z11 => TM.compL (fun y4 => (((t__law_rings x2 y4).bind fun z6 => TM.compV (fun y5 => true) (fun y5 => (y5.length : Int)) z6).bind fun c9 => (((t__law_two x2).bind fun c8 => TM.pure [c8]).bind fun c10 => TM.pure (decide (c9 = c10))))) (fun y4 => (TM.pure y4)) z11).bind fun x12 => ((((((t_full_rules (PyData.int x2)).bind fun c13 => (TM.lift (reprT ((eT (eT PyData.int)) c13)))).bind fun x => TM.pure (PyData.str x)).bind fun c14 => (((TM.lift (reprT ((eT (eT PyData.int)) x12))).bind fun x => TM.pure (PyData.str x)).bind fun c15 => (TM.lift (neA c14 c15)))).bind fun k21 => (if k21 then TM.pure true else (((TM.lift (atI [(1 : Int), (1 : Int), (2 : Int)] (x2 - (1 : Int)))).bind fun c16 => TM.pure (!decide ((x12.length : Int) = c16))).bind fun k20 => (if k20 then TM.pure true else (((TM.compL (fun y17 => (TM.pure true)) (fun y17 => (t_is_full_rule (PyData.int x2) ((eT PyData.int) y17))) x12).bind fun c18 => TM.pure (c18.all id)).bind fun k19 => TM.pure (!k19)))))).bind fun k47 => if k47 then TM.pure false else ((TM.lift (rngT 0 (6 : Int))).bind fun z46 => TM.bindB (TM.forB (t_law_f2 x2 x12) z46 ()) (fun (l22 : Unit) => ((((t__law_take (4 : Int)).bind fun c27 => TM.pure ((1 : Int) + c27)).bind fun c28 => TM.pure (c28, [([] : (List Int))])).bind fun x29 => ((TM.lift (rngT 0 x29.1)).bind fun z45 => (TM.forT t_law_f1 z45 x29.2).bind fun l30 => ((TM.compL (fun y35 => ((((((TM.lift (srtT PyData.int y35)).bind fun c36 => TM.pure c36).bind fun x => TM.pure ((eT PyData.int) x)).bind fun c37 => (t_linear_rule (PyData.int x29.1) c37)).bind fun x => TM.pure ((eT PyData.int) x)).bind fun c38 => (t_is_wide (PyData.int x29.1) c38))) (fun y35 => (TM.pure y35)) l30).bind fun x39 => (((TM.lift (atI [(1 : Int), (1 : Int), (2 : Int), (2 : Int)] (x29.1 - (1 : Int)))).bind fun c40 => TM.pure (!decide ((x39.length : Int) = c40))).bind fun k44 => if k44 then TM.pure false else (((TM.compL (fun y41 => (TM.pure true)) (fun y41 => (t__law_told y41)) [(eU ()), (PyData.int (0 : Int)), (PyData.int (4 : Int)), (PyData.bool true), (PyData.str ("1" : Str))]).bind fun x => TM.pure ((eL eA) x)).bind fun c42 => (((TM.lift (repL [("<malformed>" : Str)] (5 : Int))).bind fun x => TM.pure ((eL PyData.str) x)).bind fun c43 => (TM.lift (eqA c42 c43))))))))) (fun r => r)))))
set_option maxHeartbeats 4000000 in
theorem r_law (ns : List Int) : RG (.v (.scr ns) :: .v .drw :: List.replicate 12 (.v .un)) m_law_rest t_law (PR PyData.bool) := (s_setC (rv_bind v_c (re_bind (c_call (x_v rfl (x_d v_c (x_nil (x_fin (r__law_take (3 : Int))))))) fun c1 => (re_liftP (o_add (1 : Int) c1)))) rfl fun x2 => by exact (s_setC (c_F (e' := (eL (eT PyData.int))) (c_comp (ea := (eT PyData.int)) (p := fun y4 => (((t__law_rings x2 y4).bind fun z6 => TM.compV (fun y5 => true) (fun y5 => (y5.length : Int)) z6).bind fun c9 => (((t__law_two x2).bind fun c8 => TM.pure [c8]).bind fun c10 => TM.pure (decide (c9 = c10))))) (g := fun y4 => (TM.pure y4)) (e := (eT PyData.int)) (c_items (e := List.map (eT PyData.int)) (c_call (x_dC (c_call (x_d (v_v rfl) (x_nil (x_fin (r__law_two x2))))) fun c3 => (x_nil (x_fin (r__law_rows c3))))) fun _ => rfl) rfl (fun y4 => (tk_name rfl)) (fun y4 => (c_tst (re_bind (c_F (e' := (eL PyData.int)) (c_compV (ea := (eT (eT PyData.int))) (p := fun y5 => true) (g := fun y5 => (y5.length : Int)) (e := PyData.int) (c_items (e := List.map (eT (eT PyData.int))) (c_call (x_d (v_v rfl) (x_d (v_v rfl) (x_nil (x_fin (r__law_rings x2 y4)))))) fun _ => rfl) rfl (fun y5 => (tk_name rfl)) (fun y5 => v_yes) (fun y5 => (v_un (v_v rfl) (o_lenT (eT PyData.int) y5))))) fun c9 => (re_bind (c_F (e' := (eL PyData.int)) (k_consC (c_call (x_d (v_v rfl) (x_nil (x_fin (r__law_two x2))))) fun c8 => (k_nil (k_lst (e := (List.map PyData.int)) (p := [c8]))))) fun c10 => (re_liftP (o_eq (eqE_L eqE_int) c9 c10)))))) (fun y4 => (RV.re (e := (eT PyData.int)) (x := y4) (v_v rfl))))) rfl fun x12 => by exact (s_ifC (cc_or (c_tst (re_bind (RE.mapE PyData.str (re_bind (c_call (x_d (v_v rfl) (x_nil (x_fin (r_full_rules (PyData.int x2)))))) fun c13 => (re_lift (o_repr ((eT (eT PyData.int)) c13)))) fun _ => rfl) fun c14 => (re_bind (RE.mapE PyData.str (rv_bind (v_un (v_v rfl) rfl) (re_lift (o_repr ((eT (eT PyData.int)) x12)))) fun _ => rfl) fun c15 => (re_lift (o_neA c14 c15))))) (cc_or (c_tst (rv_bind (v_un (v_v rfl) (o_lenL (eT PyData.int) x12)) (re_bind (rv_bind (v_F (v_lst (v_cons v_c (v_cons v_c (v_cons v_c v_nil))))) (rv_bind (v_op (v_v rfl) v_c (o_sub x2 (1 : Int))) (re_lift (o_ixL PyData.int [(1 : Int), (1 : Int), (2 : Int)] (x2 - (1 : Int)))))) fun c16 => (re_liftP (o_ne eqE_int (x12.length : Int) c16))))) (c_not (c_tst (re_bind (c_F (e' := (eL PyData.bool)) (c_compI (ea := (eT PyData.int)) (p := fun y17 => (TM.pure true)) (g := fun y17 => (t_is_full_rule (PyData.int x2) ((eT PyData.int) y17))) (e := PyData.bool) (v_items (v_v rfl) rfl) rfl (fun y17 => (tk_name rfl)) (fun y17 => (RV.re (e := id) (x := true) v_yes)) (fun y17 => (c_call (x_d (v_v rfl) (x_d (v_v rfl) (x_nil (x_fin (r_is_full_rule (PyData.int x2) ((eT PyData.int) y17)))))))))) fun c18 => (re_liftP (o_all c18))))))) (by exact (s_retV (r := false) v_c (.inl rfl))) (by exact (s_skipS (s_forB (e := PyData.bool) (g := fun r => r) (ea := PyData.int) (k := (fun (l22 : Unit) => [.v (.scr ns), .v .drw, .v (.d (PyData.int x2)), .v (.d ((eL (eT PyData.int)) x12)), .j, .j, .v .un, .v .un, .v .un, .v .un, .v .un, .v .un, .v .un, .v .un])) (l0 := ()) (c_rng1V v_c) (by exact (.cons .r (.cons .r (.cons .r (.cons .r (.cons .u (.cons .u (.cons .r (.cons .r (.cons .r (.cons .r (.cons .r (.cons .r (.cons .r (.cons .r .nil))))))))))))))) (fun l22 y23 => (tk_name rfl)) (fun l22 y23 => by exact (s_setC (c_call (x_v rfl (x_d (v_v rfl) (x_nil (x_fin (r__law_rule x2)))))) rfl fun x24 => by exact (s_end (s_ifC (c_tst (re_bind (c_call (x_d (v_v rfl) (x_d (v_v rfl) (x_nil (x_fin (r_is_full_rule (PyData.int x2) ((eT PyData.int) x24))))))) fun c25 => (rv_bind (v_op (v_v rfl) (v_v rfl) (o_inL (eqE_T eqE_int) x24 x12)) (re_liftP (o_ne eqE_bool c25 (memT x24 x12)))))) (by exact (s_retV (r := Sum.inr false) v_c rfl)) (by exact (s_skipS (s_skipB (l := ()) (.cons .r (.cons .r (.cons .r (.cons .r (.cons .d (.cons .d (.cons .r (.cons .r (.cons .r (.cons .r (.cons .r (.cons .r (.cons .r (.cons .r .nil))))))))))))))))))))) (fun l22 => by exact (s_asgC (k_consC (rv_bind v_c (re_bind (c_call (x_v rfl (x_d v_c (x_nil (x_fin (r__law_take (4 : Int))))))) fun c27 => (re_liftP (o_add (1 : Int) c27)))) fun c28 => (k_cons (v_F (v_lst (v_cons (v_tup v_nil) v_nil))) (k_nil (k_tup (e := (e2 PyData.int (eL (eT PyData.int)))) (p := (c28, [([] : (List Int))])))))) (fun x29 => (tk_tup (tks_cons (tk_name rfl) (tks_cons (tk_name rfl) tks_nil)))) fun x29 => by exact (s_for (ea := PyData.int) (k := (fun (l30 : (List (List Int))) => [.v (.scr ns), .v .drw, .v (.d (PyData.int x2)), .v (.d ((eL (eT PyData.int)) x12)), .j, .j, .v (.d (PyData.int x29.1)), .v (.d ((eL (eT PyData.int)) l30)), .j, .v .un, .v .un, .v .un, .v .un, .v .un])) (l0 := x29.2) (c_rng1V (v_v rfl)) (by exact (.cons .r (.cons .r (.cons .r (.cons .r (.cons .r (.cons .r (.cons .r (.cons .r (.cons .u (.cons .r (.cons .r (.cons .r (.cons .r (.cons .r .nil))))))))))))))) (fun l30 y31 => (tk_name rfl)) (fun l30 y31 => by exact (s_end (s_setC (rv_bind (v_v rfl) (re_bind (c_F (e' := (eL (eT PyData.int))) (c_compI (ea := (eT PyData.int)) (p := fun y32 => (TM.pure true)) (g := fun y32 => (TM.lift (catT y32 [y31]))) (e := (eT PyData.int)) (v_items (v_v rfl) rfl) rfl (fun y32 => (tk_name rfl)) (fun y32 => (RV.re (e := id) (x := true) v_yes)) (fun y32 => (rv_bind (v_v rfl) (rv_bind (v_tup (v_cons (v_v rfl) v_nil)) (re_lift (o_addT PyData.int y32 [y31]))))))) fun c33 => (re_lift (o_addL (eT PyData.int) l30 c33)))) rfl fun x34 => by exact (s_skip (l := x34) (.cons .r (.cons .r (.cons .r (.cons .r (.cons .r (.cons .r (.cons .r (.cons .r (.cons .d (.cons .r (.cons .r (.cons .r (.cons .r (.cons .r .nil)))))))))))))))))) (fun l30 => by exact (s_setC (c_F (e' := (eL (eT PyData.int))) (c_compI (ea := (eT PyData.int)) (p := fun y35 => ((((((TM.lift (srtT PyData.int y35)).bind fun c36 => TM.pure c36).bind fun x => TM.pure ((eT PyData.int) x)).bind fun c37 => (t_linear_rule (PyData.int x29.1) c37)).bind fun x => TM.pure ((eT PyData.int) x)).bind fun c38 => (t_is_wide (PyData.int x29.1) c38))) (g := fun y35 => (TM.pure y35)) (e := (eT PyData.int)) (v_items (v_v rfl) rfl) rfl (fun y35 => (tk_name rfl)) (fun y35 => (c_tst (c_call (x_d (v_v rfl) (x_dC (RE.mapE (eT PyData.int) (c_call (x_d (v_v rfl) (x_dC (RE.mapE (eT PyData.int) (re_bind (c_F (e' := (eL PyData.int)) (rv_bind (v_v rfl) (re_lift (o_sortA PyData.int y35)))) fun c36 => (re_liftP rfl)) fun _ => rfl) fun c37 => (x_nil (x_fin (r_linear_rule (PyData.int x29.1) c37)))))) fun _ => rfl) fun c38 => (x_nil (x_fin (r_is_wide (PyData.int x29.1) c38)))))))) (fun y35 => (RV.re (e := (eT PyData.int)) (x := y35) (v_v rfl))))) rfl fun x39 => by exact (s_ifC (c_tst (rv_bind (v_un (v_v rfl) (o_lenL (eT PyData.int) x39)) (re_bind (rv_bind (v_F (v_lst (v_cons v_c (v_cons v_c (v_cons v_c (v_cons v_c v_nil)))))) (rv_bind (v_op (v_v rfl) v_c (o_sub x29.1 (1 : Int))) (re_lift (o_ixL PyData.int [(1 : Int), (1 : Int), (2 : Int), (2 : Int)] (x29.1 - (1 : Int)))))) fun c40 => (re_liftP (o_ne eqE_int (x39.length : Int) c40))))) (by exact (s_retV (r := false) v_c (.inl rfl))) (by exact (s_skipS (s_end (s_retR (re_bind (RE.mapE (eL eA) (c_F (e' := (eL eA)) (c_compI (ea := eA) (p := fun y41 => (TM.pure true)) (g := fun y41 => (t__law_told y41)) (e := eA) (v_items (v_F (v_lst (v_cons v_c (v_cons v_c (v_cons v_c (v_cons v_c (v_cons v_c v_nil))))))) rfl) rfl (fun y41 => (tk_name rfl)) (fun y41 => (RV.re (e := id) (x := true) v_yes)) (fun y41 => (c_call (x_d (v_v rfl) (x_nil (x_fin (r__law_told y41)))))))) fun _ => rfl) fun c42 => (re_bind (RE.mapE (eL PyData.str) (rv_bind (v_F (v_lst (v_cons v_c v_nil))) (rv_bind v_c (re_lift (o_repL PyData.str [("<malformed>" : Str)] (5 : Int))))) fun _ => rfl) fun c43 => (re_lift (o_eqA c42 c43)))))))))))))) (fun _ => .inl rfl)))))))
theorem law_rest : m_law = mDraw 1 (mCallF (chk 1 f__law_draw) (axV 0 axNil)) m_law_rest := rfl
end Lw

/-! TD2: the script's draw; the law's own def. -/
namespace Lw
open PySem PySem.Spec L2 DL

theorem canLay_ints : ∀ xs : List Int, PyData.canLayAll0 (xs.map .int) = true
  | [] => rfl
  | x :: r => by
    show (true && PyData.canLayAll0 (r.map .int)) = true
    rw [canLay_ints r]; rfl
theorem shaped_ints (xs : List Int) : SeqAt.shaped (.list (xs.map .int)) = true ∧ SeqAt.shaped (.tuple (xs.map .int)) = true := by
  have e := PySem.W.depth_ints xs
  have c := canLay_ints xs
  refine ⟨?_, ?_⟩
  · unfold SeqAt.shaped
    rw [show (PyData.list (xs.map .int)).canLay0 = true from c, show (PyData.list (xs.map .int)).depth = PyData.depthAll (xs.map .int) + 1 by first | rfl | simp [PyData.depth] | (simp [PyData.depth]; omega), e]
    rfl
  · unfold SeqAt.shaped
    rw [show (PyData.tuple (xs.map .int)).canLay0 = true from c, show (PyData.tuple (xs.map .int)).depth = PyData.depthAll (xs.map .int) + 1 by first | rfl | simp [PyData.depth] | (simp [PyData.depth]; omega), e]
    rfl
/-- the script's draw -/
theorem draw_ok (ns : List Int) (hn : ns.length ≤ 63) : ∃ (cs : List Int) (seed : Int), f__law_draw [.scr ns] none = some (.ok (.list [.list (cs.map .int), .int (-1), .int 0, .int seed]), none) := by
  have h := for_inv (t := tName 2) (body := mSet 1 (mOp fMod (mUn fInt (mOp fAdd (mOp fAdd (mOp fMul (mV 1) (mC (.int 48271))) (mOp fMod (mUn fAbs (mUn fInt (mV 2))) (mC (.int 65521)))) (mC (.int 1)))) (mC (.int 2147483647))))
    (I := fun _ env ds => ds = none ∧ ∃ (z : Int) (x : Sl), (x = .un ∨ ∃ d, x = .d d) ∧ env = [.scr ns, .d (.int z), x]) (ns.map .int) 0 [.scr ns, .d (.int 7), .un] none (fun i x env ds hx ⟨e1, z, y, hy, e2⟩ => by
      subst e1 e2
      rw [List.getElem?_map] at hx
      obtain ⟨n, _, rfl⟩ := Option.map_eq_some_iff.mp hx
      refine ⟨[.scr ns, .d (.int z), .d (.int n)], [.scr ns, .d (.int (((z * 48271) + (if n < 0 then -n else n) % 65521 + 1) % 2147483647)), .d (.int n)], none, by rcases hy with rfl | ⟨d, rfl⟩ <;> rfl, ?_, rfl, _, _, .inr ⟨_, rfl⟩, rfl⟩
      exact gSet (gOp (gUn (gOp (gOp (gOp rfl rfl (fMul_lit (by decide))) (gOp rfl rfl (fMod_pos (by decide))) rfl) rfl rfl) rfl) rfl (fMod_pos (by decide))) rfl) ⟨rfl, 7, .un, .inl rfl, rfl⟩
  obtain ⟨env', ds', h1, rfl, z, y, hy, rfl⟩ := h
  refine ⟨ns.map fun n => if n < 0 then -n else n, z, ?_⟩
  have hc : mComp [2] (mScr 0) (tName 2) mYes (mUn fAbs (mUn fInt (mV 2))) [.scr ns, .d (.int z), y] none = some (.ok ((ns.filter fun _ => true).map fun n => .int (if n < 0 then -n else n)), none) :=
    comp_ev (env1 := [.scr ns, .d (.int z), .un]) (e := .int) (fun _ => true) (fun n => .int (if n < 0 then -n else n)) rfl (by rcases hy with rfl | ⟨d, rfl⟩ <;> rfl) (fun x _ => ⟨_, rfl, rfl, fun _ => rfl⟩) (by omega)
  have hf : ns.filter (fun _ => true) = ns := List.filter_eq_self.mpr fun _ _ => rfl
  rw [hf] at hc
  refine gRunRt (gSeq (env' := [.scr ns, .d (.int 7), .un]) rfl (gSeq (gFor rfl h1) ?_))
  rw [mRetF_ev, mLst_ev, mCons_ev, mF_ev, hc, List.map_map]
  rfl
theorem law_fin {rest : MS} {t : TM Bool} {n : Nat} {ns : List Int} (hn : ns.length ≤ 63) (hr : RG (.v (.scr ns) :: .v .drw :: List.replicate n (.v .un)) rest t (PR PyData.bool)) (hg : Gives t (fun k => k = true) DI) : runB (n + 2) 1 false (mDraw 1 (mCallF (chk 1 f__law_draw) (axV 0 axNil)) rest) [.scr ns] none = some (.ok (.bool true), none) := by
  obtain ⟨cs, seed, hd⟩ := draw_ok ns hn
  have h1 : mCallF (chk 1 f__law_draw) (axV 0 axNil) ([Sl.scr ns] ++ List.replicate (n + 2 - 1) Sl.un) none = some (.ok [.list (cs.map .int), .int (-1), .int 0, .int seed], none) := by
    rw [mCallF_ev]
    show (Rz.bind (some (.ok [Sl.scr ns], none)) _) = _
    rw [rb_ok, chk_ev, if_pos (show [Sl.scr ns].length = 1 from rfl), hd]
    rfl
  have h2 : mkDraw [.list (cs.map .int), .int (-1), .int 0, .int seed] = some ⟨cs, -1, 0, seed⟩ := by
    unfold mkDraw
    dsimp only
    rw [ints_map]
    rfl
  obtain ⟨k, ds', g1, g2, rfl⟩ := hg (some ⟨cs, -1, 0, seed⟩) (by show (-1 : Int) ≤ -1; decide)
  have ek : (Kn.v (.scr ns) :: Kn.v .drw :: List.replicate n (Kn.v .un)) = (Sl.scr ns :: Sl.drw :: List.replicate n Sl.un).map Kn.v := by
    rw [List.map_cons, List.map_cons, List.map_replicate]
  obtain ⟨fl, q1, q2⟩ := hr (Sl.scr ns :: Sl.drw :: List.replicate n Sl.un) (some ⟨cs, -1, 0, seed⟩) (by rw [ek]; exact KnR.self _) _ _ g1
  have hp : put 1 .drw ([Sl.scr ns] ++ List.replicate (n + 2 - 1) Sl.un) = some (Sl.scr ns :: Sl.drw :: List.replicate n Sl.un) := by
    rw [show n + 2 - 1 = n + 1 by omega, List.replicate_succ]
    rfl
  have hm : mDraw 1 (mCallF (chk 1 f__law_draw) (axV 0 axNil)) rest ([Sl.scr ns] ++ List.replicate (n + 2 - 1) Sl.un) none = some (.rt (.bool true), none) := by
    unfold mDraw
    rw [h1]
    dsimp only
    rw [h2]
    dsimp only
    rw [hp]
    dsimp only
    rw [q1]
    rcases q2 with rfl | ⟨env', rfl, h⟩
    · rfl
    · cases h
  unfold runB
  rw [hm]
theorem Gives.bindB {L R ρ : Type} {t : TM (L ⊕ R)} {tl : L → TM ρ} {g : R → ρ} {P : L → Prop} {Q : ρ → Prop} {I : DS → Prop} (h : Gives t (fun o => ∃ l, o = .inl l ∧ P l) I) (hl : ∀ l, P l → Gives (tl l) Q I) : Gives (t.bindB tl g) Q I := by
  unfold TM.bindB
  refine Gives.bind h fun o ⟨l, e, hp⟩ => ?_
  subst e
  exact hl l hp
end Lw

/-! PB1: boxes, walks, rows: plain mathematics. -/
namespace Lw
open PySem PySem.Spec L2 DL

/-- a state's two moves: where to and what is put out -/
abbrev Row := (Int × Int) × (Int × Int)
def okMv (n : Int) (m : Int × Int) : Prop := (0 ≤ m.1 ∧ m.1 < n) ∧ 0 ≤ m.2 ∧ m.2 < 2
def okRow (n : Int) (r : Row) : Prop := okMv n r.1 ∧ okMv n r.2
/-! ### the walk of a row -/
def rowAt (b : List Row) (s : Int) : Row := b.getD s.toNat ((0, 0), (0, 0))
def mv (b : List Row) (s x : Int) : Int × Int := if x = 0 then (rowAt b s).1 else (rowAt b s).2
def wkO (b : List Row) : Int → List Int → List Int
  | _, [] => []
  | s, x :: r => (mv b s x).2 :: wkO b (mv b s x).1 r
def wkS (b : List Row) : Int → List Int → Int
  | s, [] => s
  | s, x :: r => wkS b (mv b s x).1 r
def Bin (r : List Int) : Prop := ∀ x ∈ r, x = 0 ∨ x = 1
structure BoxOk (b : List Row) : Prop where
  one : 1 ≤ b.length
  five : b.length ≤ 5
  rows : ∀ r ∈ b, okRow b.length r
section
variable {b : List Row}
theorem wkO_add (x : Int) : ∀ (r : List Int) (s : Int), wkO b s (r ++ [x]) = wkO b s r ++ [(mv b (wkS b s r) x).2]
  | [], _ => rfl
  | y :: r, s => by
    show (mv b s y).2 :: wkO b (mv b s y).1 (r ++ [x]) = _
    rw [wkO_add x r]
    rfl
theorem wkS_add (x : Int) : ∀ (r : List Int) (s : Int), wkS b s (r ++ [x]) = (mv b (wkS b s r) x).1
  | [], _ => rfl
  | y :: r, s => by
    show wkS b (mv b s y).1 (r ++ [x]) = _
    rw [wkS_add x r]
    rfl
theorem wkO_len : ∀ (r : List Int) (s : Int), (wkO b s r).length = r.length
  | [], _ => rfl
  | y :: r, s => by
    show (wkO b _ r).length + 1 = r.length + 1
    rw [wkO_len r]
theorem BoxOk.row (B : BoxOk b) {s : Int} (h : 0 ≤ s ∧ s < (b.length : Int)) : okRow b.length (rowAt b s) := by
  have hl : s.toNat < b.length := by omega
  unfold rowAt
  rw [List.getD_eq_getElem?_getD, List.getElem?_eq_getElem hl]
  exact B.rows _ (List.getElem_mem hl)
theorem BoxOk.mv (B : BoxOk b) {s x : Int} (h : 0 ≤ s ∧ s < (b.length : Int)) : okMv b.length (mv b s x) := by
  unfold Lw.mv
  split
  · exact (B.row h).1
  · exact (B.row h).2
theorem BoxOk.wkS (B : BoxOk b) : ∀ (r : List Int) (s : Int), 0 ≤ s ∧ s < (b.length : Int) → 0 ≤ wkS b s r ∧ wkS b s r < (b.length : Int)
  | [], _, h => h
  | x :: r, s, h => B.wkS r _ (B.mv h).1
theorem BoxOk.wkO (B : BoxOk b) : ∀ (r : List Int) (s : Int), 0 ≤ s ∧ s < (b.length : Int) → Bin (wkO b s r)
  | [], _, _ => fun x h => nomatch h
  | x :: r, s, h => fun y hy => by
    rcases List.mem_cons.mp hy with e | e
    · have q := (B.mv (x := x) h).2
      rw [e]
      omega
    · exact B.wkO r _ (B.mv h).1 y e
end
/-! ### rows -/
def allR : Nat → List (List Int)
  | 0 => [[]]
  | n + 1 => (allR n).flatMap fun r => [r ++ [0], r ++ [1]]
theorem allR_len : ∀ n, (allR n).length = 2 ^ n
  | 0 => rfl
  | n + 1 => by
    show ((allR n).flatMap _).length = _
    rw [List.length_flatMap]
    have : ((allR n).map fun r => [r ++ [(0 : Int)], r ++ [1]].length) = (allR n).map fun _ => 2 := rfl
    rw [this, Nat.pow_succ, ← allR_len n]
    induction allR n with
    | nil => rfl
    | cons y r ih =>
      rw [List.map_cons, List.sum_cons, ih, List.length_cons]
      omega
theorem allR_mem : ∀ (n : Nat) (r : List Int), r.length = n → Bin r → r ∈ allR n
  | 0, r, h, _ => by
    rw [List.length_eq_zero_iff.mp h]
    exact List.mem_cons_self
  | n + 1, r, h, hb => by
    have ne : r ≠ [] := fun e => by rw [e] at h; cases h
    have e := List.dropLast_concat_getLast ne
    have hm := allR_mem n r.dropLast (by rw [List.length_dropLast]; omega) fun x hx => hb x (List.dropLast_subset _ hx)
    refine List.mem_flatMap.mpr ⟨_, hm, ?_⟩
    rcases hb _ (List.getLast_mem ne) with q | q
    · rw [q] at e; rw [← e]; simp
    · rw [q] at e; rw [← e]; simp
theorem allR_ok : ∀ n : Nat, ∀ r ∈ allR n, r.length = n ∧ Bin r
  | 0, r, h => by
    rw [List.mem_singleton.mp h]
    exact ⟨rfl, fun _ q => nomatch q⟩
  | n + 1, r, h => by
    obtain ⟨s, hs, q⟩ := List.mem_flatMap.mp h
    obtain ⟨h1, h2⟩ := allR_ok n s hs
    rcases List.mem_cons.mp q with e | q
    · rw [e, List.length_append, h1]
      refine ⟨rfl, fun x hx => ?_⟩
      rcases List.mem_append.mp hx with w | w
      · exact h2 x w
      · exact .inl (List.mem_singleton.mp w)
    · rw [List.mem_singleton.mp q, List.length_append, h1]
      refine ⟨rfl, fun x hx => ?_⟩
      rcases List.mem_append.mp hx with w | w
      · exact h2 x w
      · exact .inr (List.mem_singleton.mp w)
theorem allR_nd {n : Nat} (h : n ≤ 7) : (allR n).Nodup := by
  have : ∀ n : Nat, n ≤ 7 → (allR n).Nodup := by decide +kernel
  exact this n h
end Lw

/-! PO1: orbits, turns, rows that come back: plain mathematics. -/
namespace Lw
open PySem PySem.Spec L2 DL

/-! ### orbits and their turns -/
def orb {α : Type} (f : α → α) (x : α) : Nat → α
  | 0 => x
  | k + 1 => f (orb f x k)
structure Turn {α : Type} (f : α → α) (x : α) (i d : Nat) : Prop where
  pos : 1 ≤ d
  ne : ∀ a c, a < c → c < i + d → orb f x a ≠ orb f x c
  back : orb f x (i + d) = orb f x i
section
variable {α : Type} {f : α → α} {x : α} {i d : Nat}
theorem Turn.per (T : Turn f x i d) : ∀ k, orb f x (i + k + d) = orb f x (i + k)
  | 0 => T.back
  | k + 1 => by
    rw [show i + (k + 1) + d = (i + k + d) + 1 by omega]
    show f (orb f x (i + k + d)) = f (orb f x (i + k))
    rw [T.per k]
theorem Turn.mul (T : Turn f x i d) (k : Nat) : ∀ m, orb f x (i + k + m * d) = orb f x (i + k)
  | 0 => by rw [Nat.zero_mul]; rfl
  | m + 1 => by
    rw [Nat.succ_mul, show i + k + (m * d + d) = i + (k + m * d) + d by omega, T.per, show i + (k + m * d) = i + k + m * d by omega, T.mul k m]
theorem Turn.red (T : Turn f x i d) {a : Nat} (h : i ≤ a) : orb f x a = orb f x (i + (a - i) % d) := by
  have e := Nat.div_add_mod (a - i) d
  have q := T.mul ((a - i) % d) ((a - i) / d)
  rw [show i + (a - i) % d + (a - i) / d * d = a by rw [Nat.mul_comm]; omega] at q
  exact q
theorem Turn.eq (T : Turn f x i d) {a c : Nat} (h : a < c) (e : orb f x a = orb f x c) : i ≤ a ∧ d ∣ (c - a) := by
  have dp := T.pos
  have hc : i ≤ c := by
    rcases Nat.lt_or_ge c i with q | q
    · exact absurd e (T.ne a c h (by omega))
    · exact q
  have rc := T.red hc
  have lc : (c - i) % d < d := Nat.mod_lt _ dp
  have ha : i ≤ a := by
    rcases Nat.lt_or_ge a i with q | q
    · exact absurd (e.trans rc) (T.ne a (i + (c - i) % d) (by omega) (by omega))
    · exact q
  refine ⟨ha, ?_⟩
  have ra := T.red ha
  have la : (a - i) % d < d := Nat.mod_lt _ dp
  have me : (a - i) % d = (c - i) % d := by
    rcases Nat.lt_trichotomy ((a - i) % d) ((c - i) % d) with q | q | q
    · exact absurd (ra.symm.trans (e.trans rc)) (T.ne (i + (a - i) % d) (i + (c - i) % d) (by omega) (by omega))
    · exact q
    · exact absurd (rc.symm.trans (e.symm.trans ra)) (T.ne (i + (c - i) % d) (i + (a - i) % d) (by omega) (by omega))
  have e1 := Nat.div_add_mod (a - i) d
  have e2 := Nat.div_add_mod (c - i) d
  refine ⟨(c - i) / d - (a - i) / d, ?_⟩
  rw [Nat.mul_sub]
  omega
theorem Turn.one (T : Turn f x i d) {i' d' : Nat} (T' : Turn f x i' d') : i = i' ∧ d = d' := by
  have h1 := T.eq (a := i') (c := i' + d') (by have := T'.pos; omega) T'.back.symm
  have h2 := T'.eq (a := i) (c := i + d) (by have := T.pos; omega) T.back.symm
  rw [show i' + d' - i' = d' by omega] at h1
  rw [show i + d - i = d by omega] at h2
  exact ⟨by omega, Nat.dvd_antisymm h1.2 h2.2⟩
/-- either the first n are apart or there is a turn -/
theorem turn_or (f : α → α) (x : α) : ∀ n, (∀ a c, a < c → c < n → orb f x a ≠ orb f x c) ∨ ∃ i d, Turn f x i d ∧ i + d < n
  | 0 => .inl fun a c _ h => absurd h (Nat.not_lt_zero _)
  | n + 1 => by
    rcases turn_or f x n with h | ⟨i, d, T, h⟩
    · by_cases q : ∃ a, a < n ∧ orb f x a = orb f x n
      · obtain ⟨a, ha, e⟩ := q
        refine .inr ⟨a, n - a, ⟨by omega, fun p c hp hc => h p c hp (by omega), ?_⟩, by omega⟩
        rw [show a + (n - a) = n by omega]
        exact e.symm
      · refine .inl fun a c hac hc => ?_
        rcases Nat.lt_or_ge c n with z | z
        · exact h a c hac z
        · have : c = n := by omega
          subst this
          exact fun e => q ⟨a, hac, e⟩
    · exact .inr ⟨i, d, T, by omega⟩
theorem nodup_lenG {β : Type} [DecidableEq β] : ∀ {l m : List β}, l.Nodup → (∀ x ∈ l, x ∈ m) → l.length ≤ m.length
  | [], _, _, _ => Nat.zero_le _
  | x :: r, m, h, hs => by
    rw [List.nodup_cons] at h
    have hm := hs x List.mem_cons_self
    have h2 : ∀ y ∈ r, y ∈ m.erase x := fun y hy => (List.mem_erase_of_ne (fun e => h.1 (by rw [← e]; exact hy))).mpr (hs y (List.mem_cons_of_mem _ hy))
    have q := nodup_lenG h.2 h2
    rw [List.length_erase_of_mem hm] at q
    have := List.length_pos_of_mem hm
    rw [List.length_cons]
    omega
def orbL (f : α → α) (x : α) (n : Nat) : List α := (List.range n).map (orb f x)
theorem orbL_succ (f : α → α) (x : α) (n : Nat) : orbL f x (n + 1) = orbL f x n ++ [orb f x n] := by
  unfold orbL
  rw [List.range_succ, List.map_append]
  rfl
theorem orbL_mem {n : Nat} {y : α} : y ∈ orbL f x n ↔ ∃ k, k < n ∧ orb f x k = y := by
  unfold orbL
  rw [List.mem_map]
  exact ⟨fun ⟨k, h, e⟩ => ⟨k, List.mem_range.mp h, e⟩, fun ⟨k, h, e⟩ => ⟨k, List.mem_range.mpr h, e⟩⟩
theorem orbL_nodup {n : Nat} (h : ∀ a c, a < c → c < n → orb f x a ≠ orb f x c) : (orbL f x n).Nodup := by
  unfold orbL
  rw [List.Nodup, List.pairwise_map]
  refine (List.pairwise_lt_range (n := n)).imp_of_mem fun {a c} ha hc hac => h a c hac (List.mem_range.mp hc)
end
section
variable {b : List Row}
def Wf (b : List Row) (r : List Int) : List Int := wkO b 0 r
theorem orb_ok (B : BoxOk b) {r : List Int} (hr : Bin r) : ∀ k, (orb (Wf b) r k).length = r.length ∧ Bin (orb (Wf b) r k)
  | 0 => ⟨rfl, hr⟩
  | k + 1 => by
    have h := orb_ok B hr k
    exact ⟨(wkO_len _ _).trans h.1, B.wkO _ _ ⟨by omega, by have := B.one; omega⟩⟩
theorem turn_ex (B : BoxOk b) {r : List Int} (hr : Bin r) : ∃ i d, Turn (Wf b) r i d ∧ i + d ≤ 2 ^ r.length := by
  rcases turn_or (Wf b) r (2 ^ r.length + 1) with h | ⟨i, d, T, h⟩
  · exfalso
    have q := nodup_lenG (orbL_nodup h) (m := allR r.length) fun y hy => by
      obtain ⟨k, _, rfl⟩ := orbL_mem.mp hy
      exact allR_mem _ _ (orb_ok B hr k).1 (orb_ok B hr k).2
    unfold orbL at q
    rw [List.length_map, List.length_range, allR_len] at q
    omega
  · exact ⟨i, d, T, by omega⟩
/-- the walk of a longer row begins as that of the shorter -/
theorem orb_add (x : Int) (r : List Int) : ∀ k, ∃ z, orb (Wf b) (r ++ [x]) k = orb (Wf b) r k ++ [z]
  | 0 => ⟨x, rfl⟩
  | k + 1 => by
    obtain ⟨z, e⟩ := orb_add x r k
    refine ⟨(mv b (wkS b 0 (orb (Wf b) r k)) z).2, ?_⟩
    show Wf b (orb (Wf b) (r ++ [x]) k) = _
    rw [e]
    exact wkO_add z _ _
theorem turn_add (B : BoxOk b) {r : List Int} {x : Int} (hr : Bin (r ++ [x])) {i d i' d' : Nat} (T : Turn (Wf b) r i d) (T' : Turn (Wf b) (r ++ [x]) i' d') : i ≤ i' ∧ (d' = d ∨ d' = 2 * d) := by
  have cut : ∀ a c, orb (Wf b) (r ++ [x]) a = orb (Wf b) (r ++ [x]) c → orb (Wf b) r a = orb (Wf b) r c := fun a c e => by
    obtain ⟨z, e1⟩ := orb_add (b := b) x r a
    obtain ⟨w, e2⟩ := orb_add (b := b) x r c
    rw [e1, e2] at e
    exact (List.append_inj' e rfl).1
  have dp' := T'.pos
  have h1 := T.eq (a := i') (c := i' + d') (by omega) (cut _ _ T'.back).symm
  rw [show i' + d' - i' = d' by omega] at h1
  refine ⟨h1.1, ?_⟩
  have dp := T.pos
  -- three places a turn apart; two of them end alike
  have pre : ∀ m, orb (Wf b) r (i' + m * d) = orb (Wf b) r i' := fun m => by
    have q := T.mul (i' - i) m
    rw [show i + (i' - i) = i' by omega] at q
    exact q
  have last : ∀ m, ∃ z, (z = 0 ∨ z = 1) ∧ orb (Wf b) (r ++ [x]) (i' + m * d) = orb (Wf b) r i' ++ [z] := fun m => by
    obtain ⟨z, e⟩ := orb_add (b := b) x r (i' + m * d)
    rw [pre m] at e
    exact ⟨z, (orb_ok B hr (i' + m * d)).2 z (by rw [e]; exact List.mem_append_right _ List.mem_cons_self), e⟩
  have fin : ∀ m n, m < n → n ≤ 2 → orb (Wf b) (r ++ [x]) (i' + m * d) = orb (Wf b) (r ++ [x]) (i' + n * d) → d' ∣ (n - m) * d := fun m n hmn hn e => by
    have lt : i' + m * d < i' + n * d := by
      have := Nat.mul_lt_mul_of_pos_right hmn dp
      omega
    have q := (T'.eq lt e).2
    rw [show i' + n * d - (i' + m * d) = (n - m) * d by rw [Nat.sub_mul]; omega] at q
    exact q
  have two : d' ∣ d ∨ d' ∣ 2 * d := by
    obtain ⟨z0, h0, e0⟩ := last 0
    obtain ⟨z1, h1, e1⟩ := last 1
    obtain ⟨z2, h2, e2⟩ := last 2
    by_cases q : z0 = z1
    · left
      have := fin 0 1 (by decide) (by decide) (by rw [e0, e1, q])
      rwa [Nat.sub_zero, Nat.one_mul] at this
    · by_cases q2 : z1 = z2
      · left
        have := fin 1 2 (by decide) (by decide) (by rw [e1, e2, q2])
        rwa [show 2 - 1 = 1 from rfl, Nat.one_mul] at this
      · right
        have q3 : z0 = z2 := by omega
        have := fin 0 2 (by decide) (by decide) (by rw [e0, e2, q3])
        rwa [Nat.sub_zero] at this
  obtain ⟨t, ht⟩ := h1.2
  rcases two with q | q
  · exact .inl (Nat.dvd_antisymm q h1.2)
  · obtain ⟨u, hu⟩ := q
    have : t * u = 2 := by
      have e : d * 2 = d * (t * u) := by rw [Nat.mul_comm d 2, hu, ht, Nat.mul_assoc]
      exact (Nat.eq_of_mul_eq_mul_left dp e).symm
    have tl : t ≤ 2 := Nat.le_of_dvd (by decide) ⟨u, this.symm⟩
    rcases Nat.lt_or_ge t 1 with z | z
    · have : t = 0 := by omega
      subst this
      omega
    · rcases Nat.lt_or_ge t 2 with w | w
      · have : t = 1 := by omega
        subst this
        left; omega
      · have : t = 2 := by omega
        subst this
        right; omega
theorem turn_pow (B : BoxOk b) : ∀ (n : Nat) (r : List Int), r.length = n → Bin r → ∀ {i d : Nat}, Turn (Wf b) r i d → ∃ k, k ≤ n ∧ d = 2 ^ k
  | 0, r, h, hr, i, d, T => by
    have e := List.length_eq_zero_iff.mp h
    subst e
    have T0 : Turn (Wf b) [] 0 1 := ⟨Nat.le_refl _, fun a c h1 h2 => by omega, rfl⟩
    exact ⟨0, Nat.le_refl _, (T.one T0).2⟩
  | n + 1, r, h, hr, i, d, T => by
    have ne : r ≠ [] := fun e => by rw [e] at h; cases h
    have e := List.dropLast_concat_getLast ne
    have hr0 : Bin r.dropLast := fun x hx => hr x (List.dropLast_subset _ hx)
    obtain ⟨i0, d0, T0, _⟩ := turn_ex B hr0
    obtain ⟨k, hk, e0⟩ := turn_pow B n r.dropLast (by rw [List.length_dropLast]; omega) hr0 T0
    have q := turn_add B (x := r.getLast ne) (by rw [e]; exact hr) T0 (by rw [e]; exact T)
    rcases q.2 with z | z
    · exact ⟨k, by omega, z.trans e0⟩
    · exact ⟨k + 1, by omega, by rw [z, e0, Nat.pow_succ, Nat.mul_comm]⟩
end
section
variable {α : Type} {f : α → α} {x : α} {i d : Nat}
theorem orb_succ (f : α → α) (x : α) (k : Nat) : orb f x (k + 1) = f (orb f x k) := rfl
/-- what comes not back ahead of a turn shows two with one image -/
theorem Turn.two (T : Turn f x i d) (h : 0 < i) : ∃ a c, orb f x a ≠ orb f x c ∧ f (orb f x a) = f (orb f x c) := by
  refine ⟨i - 1, i + d - 1, T.ne _ _ (by have := T.pos; omega) (by have := T.pos; omega), ?_⟩
  have p := T.pos
  have e1 : orb f x (i - 1 + 1) = f (orb f x (i - 1)) := rfl
  have e2 : orb f x (i + d - 1 + 1) = f (orb f x (i + d - 1)) := rfl
  rw [← e1, ← e2, show i - 1 + 1 = i by omega, show i + d - 1 + 1 = i + d by omega, T.back]
/-- what comes back is an image -/
theorem Turn.image (T : Turn f x 0 d) : ∃ k, f (orb f x k) = x := by
  refine ⟨d - 1, ?_⟩
  have p := T.pos
  have e1 : orb f x (d - 1 + 1) = f (orb f x (d - 1)) := rfl
  rw [← e1, show d - 1 + 1 = 0 + d by omega, T.back]
  rfl
/-- every one of a list an image of the list: then one-to-one on it -/
theorem onto_inj {α : Type} [DecidableEq α] {f : α → α} {l : List α} (nd : l.Nodup) (on : ∀ y ∈ l, ∃ x ∈ l, f x = y) : ∀ a ∈ l, ∀ c ∈ l, f a = f c → a = c := by
  intro a ha c hc e
  refine Classical.byContradiction fun ne => ?_
  have h1 : ∀ y ∈ l, y ∈ (l.erase a).map f := fun y hy => by
    obtain ⟨x, hx, rfl⟩ := on y hy
    by_cases q : x = a
    · subst q
      rw [e]
      exact List.mem_map_of_mem (nd.mem_erase_iff.mpr ⟨fun z => ne z.symm, hc⟩)
    · exact List.mem_map_of_mem (nd.mem_erase_iff.mpr ⟨q, hx⟩)
  have h2 := nodup_lenG nd h1
  rw [List.length_map, List.length_erase_of_mem ha] at h2
  have := List.length_pos_of_mem ha
  omega
end
section
variable {b : List Row}
def Sees (b : List Row) (s : Int) : Prop := (mv b s 0).2 ≠ (mv b s 1).2
theorem wkO_inj : ∀ (r r' : List Int) (s : Int), r'.length = r.length → Bin r → Bin r' → (∀ p, Bin p → p.length < r.length → Sees b (wkS b s p)) → wkO b s r = wkO b s r' → r = r'
  | [], r', _, h, _, _, _, _ => (List.eq_nil_of_length_eq_zero h).symm
  | x :: r, [], _, h, _, _, _, _ => by cases h
  | x :: r, y :: r', s, h, hr, hr', hs, e => by
    have e' : (mv b s x).2 :: wkO b (mv b s x).1 r = (mv b s y).2 :: wkO b (mv b s y).1 r' := e
    injection e' with e1 e2
    have q : x = y := by
      have z : Sees b s := hs [] (fun _ q => nomatch q) (by rw [List.length_cons, List.length_nil]; omega)
      rcases hr x List.mem_cons_self with rfl | rfl <;> rcases hr' y List.mem_cons_self with rfl | rfl
      · rfl
      · exact absurd e1 z
      · exact absurd e1.symm z
      · rfl
    subst q
    rw [wkO_inj r r' _ (Nat.succ.inj h) (fun y hy => hr y (List.mem_cons_of_mem _ hy)) (fun y hy => hr' y (List.mem_cons_of_mem _ hy)) (fun p hp hl => hs (x :: p) (fun y hy => by
      rcases List.mem_cons.mp hy with rfl | hy
      · exact hr _ List.mem_cons_self
      · exact hp y hy) (by rw [List.length_cons, List.length_cons]; omega)) e2]
theorem blind_two {s : Int} {p : List Int} (h : ¬ Sees b (wkS b s p)) : wkO b s (p ++ [0]) = wkO b s (p ++ [1]) := by
  rw [wkO_add, wkO_add]
  have : (mv b (wkS b s p) 0).2 = (mv b (wkS b s p) 1).2 := Classical.byContradiction h
  rw [this]
/-- (A): rows come back where all states ahead of their ends see -/
theorem back_of_sees (B : BoxOk b) {r : List Int} (hr : Bin r) {i d : Nat} (T : Turn (Wf b) r i d) (hs : ∀ p, Bin p → p.length < r.length → Sees b (wkS b 0 p)) : i = 0 := by
  refine Classical.byContradiction fun ne => ?_
  obtain ⟨a, c, h1, h2⟩ := T.two (Nat.pos_of_ne_zero ne)
  obtain ⟨a1, a2⟩ := orb_ok B hr a
  obtain ⟨c1, c2⟩ := orb_ok B hr c
  exact h1 (wkO_inj _ _ 0 (by omega) a2 c2 (fun p hp hl => hs p hp (by omega)) h2)
end
section
variable {b : List Row}
/-- all rows of a length come back: then the walk is one-to-one on them -/
theorem inj_of_back (B : BoxOk b) {n : Nat} (hn : n ≤ 6) (h : ∀ r, Bin r → r.length = n → ∃ d, Turn (Wf b) r 0 d) {r r' : List Int} (hr : Bin r) (hl : r.length = n) (hr' : Bin r') (hl' : r'.length = n) (e : Wf b r = Wf b r') : r = r' := by
  refine onto_inj (l := allR n) (allR_nd (by omega)) (fun y hy => ?_) r (allR_mem n r hl hr) r' (allR_mem n r' hl' hr') e
  obtain ⟨h1, h2⟩ := allR_ok n y hy
  obtain ⟨d, T⟩ := h y h2 h1
  obtain ⟨k, q⟩ := T.image
  obtain ⟨k1, k2⟩ := orb_ok B h2 k
  exact ⟨_, allR_mem n _ (by omega) k2, q⟩
/-- (B): behind a blind state, one step on, some row does not come back -/
theorem lost_of_blind (B : BoxOk b) {p : List Int} (hp : Bin p) (hl : p.length ≤ 5) (h : ¬ Sees b (wkS b 0 p)) : ¬ ∀ r, Bin r → r.length = p.length + 1 → ∃ d, Turn (Wf b) r 0 d := by
  intro all
  have bin : ∀ x : Int, x = 0 ∨ x = 1 → Bin (p ++ [x]) := fun x hx y hy => by
    rcases List.mem_append.mp hy with q | q
    · exact hp y q
    · rw [List.mem_singleton.mp q]; exact hx
  have q := inj_of_back B (by omega) all (bin 0 (.inl rfl)) (by rw [List.length_append]; rfl) (bin 1 (.inr rfl)) (by rw [List.length_append]; rfl) (blind_two h)
  have q' := List.append_cancel_left q
  injection q' with q1 _
  exact absurd q1 (by decide)
end
end Lw

/-! TSo: sorted rows, sorted sets of rows of rows: they depend on the members alone. -/
namespace Lw
open PySem PySem.Spec L2 DL

theorem alike_intsW : ∀ a b : List Int, PySem.W.alikeAll (a.map .int) (b.map .int) = true
  | [], b => by unfold PySem.W.alikeAll; rfl
  | _ :: _, [] => by unfold PySem.W.alikeAll; rfl
  | x :: a, y :: b => by
    show (PySem.W.alike (.int x) (.int y) && PySem.W.alikeAll (a.map .int) (b.map .int)) = true
    rw [alike_intsW a b]
    rfl
theorem alike_rowW (a b : List Int) : PySem.W.alike (eT PyData.int a) (eT PyData.int b) = true := alike_intsW a b
theorem alike_rowsW : ∀ a b : List (List Int), PySem.W.alikeAll (a.map (eT PyData.int)) (b.map (eT PyData.int)) = true
  | [], b => by unfold PySem.W.alikeAll; rfl
  | _ :: _, [] => by unfold PySem.W.alikeAll; rfl
  | x :: a, y :: b => by
    show (PySem.W.alike (eT PyData.int x) (eT PyData.int y) && PySem.W.alikeAll (a.map (eT PyData.int)) (b.map (eT PyData.int))) = true
    rw [alike_rowsW a b, alike_rowW]
    rfl
theorem alike_W (a b : List (List Int)) : PySem.W.alike (eW a) (eW b) = true := alike_rowsW a b
section
variable {α : Type} {e : α → PyData}
/-- a form that sorts well -/
structure SoE (e : α → PyData) : Prop where
  al : ∀ x y, PySem.W.alike (e x) (e y) = true
  tri : ∀ x y, ltD (e x) (e y) = false → ltD (e y) (e x) = false → e x = e y
  inj : ∀ x y, e x = e y → x = y
  dep : ∀ x, (e x).depth ≤ 60
def so (e : α → PyData) (l : List α) : List α := sortB (fun x y => ltD (e x) (e y)) l
theorem so_map (l : List α) : (so e l).map e = sortD (l.map e) := (srtM (lt := fun x y => ltD (e x) (e y)) e (fun _ _ => rfl) l).symm
theorem so_perm (l : List α) : (so e l).Perm l := sortB_perm l
theorem map_inj (h : ∀ x y, e x = e y → x = y) : ∀ {l m : List α}, l.map e = m.map e → l = m
  | [], [], _ => rfl
  | [], _ :: _, q => nomatch q
  | _ :: _, [], q => nomatch q
  | x :: l, y :: m, q => by
    rw [List.map_cons, List.map_cons] at q
    injection q with q1 q2
    rw [h x y q1, map_inj h q2]
theorem so_same (S : SoE e) {l m : List α} (p : l.Perm m) : so e l = so e m := by
  refine map_inj S.inj ?_
  rw [so_map, so_map]
  refine sortD_same (fun a ha b hb => ?_) (fun a ha b hb h1 h2 => ?_) (p.map e)
  · obtain ⟨x, _, rfl⟩ := List.mem_map.mp ha
    obtain ⟨y, _, rfl⟩ := List.mem_map.mp hb
    exact S.al x y
  · obtain ⟨x, _, rfl⟩ := List.mem_map.mp ha
    obtain ⟨y, _, rfl⟩ := List.mem_map.mp hb
    exact S.tri x y h1 h2
theorem so_sorts (S : SoE e) {l : List α} (h : ∀ x ∈ l, isTup1 (e x) = true) : sorts (l.map e) = true := by
  unfold sorts
  rw [Bool.and_eq_true, Bool.and_eq_true, Bool.or_eq_true, Bool.or_eq_true]
  refine ⟨⟨List.all_eq_true.mpr fun d hd => List.all_eq_true.mpr fun f hf => ?_, .inl (.inl (List.all_eq_true.mpr fun d hd => ?_))⟩, decide_eq_true (depthAll_le _ fun d hd => ?_)⟩
  · obtain ⟨x, hx, rfl⟩ := List.mem_map.mp hd
    obtain ⟨y, hy, rfl⟩ := List.mem_map.mp hf
    exact S.al x y
  · obtain ⟨x, hx, rfl⟩ := List.mem_map.mp hd
    exact h x hx
  · obtain ⟨x, hx, rfl⟩ := List.mem_map.mp hd
    exact S.dep x
theorem so_srt (S : SoE e) {l : List α} (h : ∀ x ∈ l, isTup1 (e x) = true) : srtT e l = some (so e l) := by
  unfold srtT
  rw [if_pos (so_sorts S h)]
  rfl
end
theorem tri_of {a b : NK} {d f : PyData} (ha : a.dat = d) (hb : b.dat = f) (al : PySem.W.alike d f = true) (h1 : ltD d f = false) (h2 : ltD f d = false) : d = f := by
  subst ha hb
  exact lt_tri a b al h1 h2
theorem eq_inj {α : Type} [DecidableEq α] {e : α → PyData} {n : Nat} (h : EqE e n) {x y : α} (q : e x = e y) : x = y := by
  have z := h.eq x y
  rw [q, h.eq, decide_eq_true rfl] at z
  exact of_decide_eq_true z.symm
theorem soRow : SoE (eT PyData.int) := ⟨alike_rowW, fun x y => tri_of (toNK_dat _ _ (toNK_row x)) (toNK_dat _ _ (toNK_row y)) (alike_rowW x y), fun x y => eq_inj (eqE_T eqE_int), fun x => Nat.le_trans ((eqE_T eqE_int).dep x) (by decide)⟩
theorem soW : SoE eW := ⟨alike_W, fun x y => tri_of (dat_W x) (dat_W y) (alike_W x y), fun x y => eq_inj (eqE_T (eqE_T eqE_int)), fun x => Nat.le_trans ((eqE_T (eqE_T eqE_int)).dep x) (by decide)⟩
theorem sortSetW_ok {xs : List (List (List Int))} (hl : xs.length < 64) (h : ∀ x ∈ xs, x ≠ []) : sortSetW xs = some (so eW (dist xs)) := by
  have t : ∀ x ∈ xs, isTup1 (eW x) = true := fun x hx => by
    cases x with
    | nil => exact absurd rfl (h _ hx)
    | cons y r => rfl
  unfold sortSetW
  rw [decide_eq_true hl, so_sorts soW t, Bool.and_true, Bool.true_and, if_pos (List.all_eq_true.mpr fun d hd => by
    obtain ⟨x, hx, rfl⟩ := List.mem_map.mp hd
    exact t x hx)]
  rfl
theorem dist_perm {α : Type} [DecidableEq α] {xs ys : List α} (h : ∀ x, x ∈ xs ↔ x ∈ ys) : (dist xs).Perm (dist ys) :=
  (List.perm_ext_iff_of_nodup (dist_nodup xs) (dist_nodup ys)).mpr fun x => by rw [dist_mem, dist_mem]; exact h x
theorem sortSetW_same {xs ys : List (List (List Int))} (hx : xs.length < 64) (hy : ys.length < 64) (h : ∀ x ∈ xs, x ≠ []) (hm : ∀ x, x ∈ xs ↔ x ∈ ys) : sortSetW xs = sortSetW ys := by
  rw [sortSetW_ok hx h, sortSetW_ok hy fun y hy' => h y ((hm y).mpr hy'), so_same soW (dist_perm hm)]
end Lw

/-! T65a: rings of a map on a finite list: plain mathematics. -/
namespace Lw
open PySem PySem.Spec L2 DL

section
variable {α : Type} [DecidableEq α] {f : α → α} {U : List α}
theorem orb_in (cl : ∀ x ∈ U, f x ∈ U) {x : α} (hx : x ∈ U) : ∀ k, orb f x k ∈ U
  | 0 => hx
  | k + 1 => cl _ (orb_in cl hx k)
theorem turn_in (cl : ∀ x ∈ U, f x ∈ U) {x : α} (hx : x ∈ U) : ∃ i d, Turn f x i d ∧ i + d ≤ U.length := by
  rcases turn_or f x (U.length + 1) with h | ⟨i, d, T, h⟩
  · have q := nodup_lenG (orbL_nodup h) (m := U) fun y hy => by
      obtain ⟨k, _, rfl⟩ := orbL_mem.mp hy
      exact orb_in cl hx k
    unfold orbL at q
    rw [List.length_map, List.length_range] at q
    omega
  · exact ⟨i, d, T, by omega⟩
theorem orb_orb (f : α → α) (x : α) (k : Nat) : ∀ m, orb f (orb f x k) m = orb f x (k + m)
  | 0 => rfl
  | m + 1 => by
    show f (orb f (orb f x k) m) = f (orb f x (k + m))
    rw [orb_orb f x k m]
/-- behind the way to it one is on the ring -/
theorem Turn.on {x : α} {i d : Nat} (T : Turn f x i d) {k : Nat} (hk : i ≤ k) : Turn f (orb f x k) 0 d := by
  have dp := T.pos
  refine ⟨dp, fun a c hac hc e => ?_, ?_⟩
  · rw [orb_orb, orb_orb] at e
    obtain ⟨_, m, hm⟩ := T.eq (a := k + a) (c := k + c) (by omega) e
    have h1 : k + c - (k + a) = c - a := by omega
    rw [h1] at hm
    cases m with
    | zero => rw [Nat.mul_zero] at hm; omega
    | succ m =>
      rw [Nat.mul_succ] at hm
      have : 0 ≤ d * m := Nat.zero_le _
      omega
  · rw [orb_orb, orb_orb]
    have := T.per (k - i)
    rw [show i + (k - i) + d = k + (0 + d) by omega, show i + (k - i) = k + 0 by omega] at this
    exact this
theorem ring_mem {x : α} {d : Nat} (T : Turn f x 0 d) (k : Nat) : orb f x k ∈ orbL f x d := by
  have r := T.red (a := k) (Nat.zero_le _)
  rw [Nat.zero_add, Nat.sub_zero] at r
  rw [r]
  exact orbL_mem.mpr ⟨k % d, Nat.mod_lt _ T.pos, rfl⟩
theorem ring_nd {x : α} {d : Nat} (T : Turn f x 0 d) : (orbL f x d).Nodup := orbL_nodup fun a c h1 h2 => T.ne a c h1 (by omega)
/-- another start, the same ring -/
theorem ring_perm {x : α} {d : Nat} (T : Turn f x 0 d) {y : α} (hy : y ∈ orbL f x d) : ∃ T' : Turn f y 0 d, (orbL f y d).Perm (orbL f x d) := by
  obtain ⟨k, hk, rfl⟩ := orbL_mem.mp hy
  have T' := T.on (k := k) (Nat.zero_le _)
  refine ⟨T', (List.perm_ext_iff_of_nodup (ring_nd T') (ring_nd T)).mpr fun z => ⟨fun hz => ?_, fun hz => ?_⟩⟩
  · obtain ⟨m, _, rfl⟩ := orbL_mem.mp hz
    rw [orb_orb]
    exact ring_mem T _
  · obtain ⟨m, hm, rfl⟩ := orbL_mem.mp hz
    have e : orb f x m = orb f (orb f x k) (d - k + m) := by
      rw [orb_orb, show k + (d - k + m) = 0 + m + 1 * d by omega, T.mul m 1, Nat.zero_add]
    rw [e]
    exact ring_mem T' _
/-- it comes back -/
def Cy (f : α → α) (x : α) : Prop := ∃ d, Turn f x 0 d
noncomputable instance : DecidablePred (Cy f) := fun x => Classical.propDecidable _
theorem cy_all (nd : U.Nodup) (cl : ∀ x ∈ U, f x ∈ U) : (∀ x ∈ U, Cy f x) ↔ ∀ a ∈ U, ∀ c ∈ U, f a = f c → a = c := by
  constructor
  · intro h
    refine onto_inj nd fun y hy => ?_
    obtain ⟨d, T⟩ := h y hy
    obtain ⟨k, e⟩ := T.image
    exact ⟨_, orb_in cl hy k, e⟩
  · intro h x hx
    obtain ⟨i, d, T, _⟩ := turn_in cl hx
    rcases Nat.eq_zero_or_pos i with e | e
    · subst e; exact ⟨d, T⟩
    · obtain ⟨a, c, h1, h2⟩ := T.two e
      exact absurd (h _ (orb_in cl hx a) _ (orb_in cl hx c) h2) h1
/-- a row of rings: each is one, each one is there -/
structure Rings (f : α → α) (U : List α) (R : List (List α)) : Prop where
  is : ∀ r ∈ R, ∃ x d, x ∈ U ∧ Turn f x 0 d ∧ r.Perm (orbL f x d)
  all : ∀ x ∈ U, Cy f x → ∃ r ∈ R, x ∈ r
  nd : R.Nodup
  one : ∀ r ∈ R, ∀ q ∈ R, r.Perm q → r = q
theorem sum_len {β : Type} : ∀ R : List (List β), (R.map List.length).sum = R.flatten.length
  | [] => rfl
  | r :: R => by rw [List.map_cons, List.sum_cons, sum_len R, List.flatten_cons, List.length_append]
theorem Rings.count (nd : U.Nodup) (cl : ∀ x ∈ U, f x ∈ U) {R : List (List α)} (h : Rings f U R) : (R.map List.length).sum = (U.filter fun x => decide (Cy f x)).length := by
  rw [sum_len]
  refine List.Perm.length_eq ((List.perm_ext_iff_of_nodup ?_ (nd.filter _)).mpr fun x => ?_)
  · unfold List.Nodup
    rw [List.pairwise_flatten]
    refine ⟨fun r hr => ?_, ?_⟩
    · obtain ⟨x, d, _, T, p⟩ := h.is r hr
      exact p.nodup_iff.mpr (ring_nd T)
    · refine h.nd.imp_of_mem fun {r q} hr hq ne => ?_
      intro y hy y' hy' e
      subst e
      obtain ⟨x, d, _, T, p⟩ := h.is r hr
      obtain ⟨x', d', _, T', p'⟩ := h.is q hq
      obtain ⟨S, z⟩ := ring_perm T (p.mem_iff.mp hy)
      obtain ⟨S', z'⟩ := ring_perm T' (p'.mem_iff.mp hy')
      obtain ⟨_, e⟩ := S.one S'
      subst e
      exact ne (h.one r hr q hq (p.trans (z.symm.trans (z'.trans p'.symm))))
  · rw [List.mem_flatten, List.mem_filter]
    constructor
    · rintro ⟨r, hr, hx⟩
      obtain ⟨y, d, hy, T, p⟩ := h.is r hr
      have hx := p.mem_iff.mp hx
      obtain ⟨S, _⟩ := ring_perm T hx
      obtain ⟨k, _, e⟩ := orbL_mem.mp hx
      exact ⟨by rw [← e]; exact orb_in cl hy k, decide_eq_true ⟨d, S⟩⟩
    · rintro ⟨hx, hc⟩
      obtain ⟨r, hr, hm⟩ := h.all x hx (of_decide_eq_true hc)
      exact ⟨r, hr, hm⟩
theorem Rings.full (nd : U.Nodup) (cl : ∀ x ∈ U, f x ∈ U) {R : List (List α)} (h : Rings f U R) : (R.map List.length).sum = U.length ↔ ∀ a ∈ U, ∀ c ∈ U, f a = f c → a = c := by
  rw [h.count nd cl, ← cy_all nd cl, List.length_filter_eq_length_iff]
  exact ⟨fun q x hx => of_decide_eq_true (q x hx), fun q x hx => decide_eq_true (q x hx)⟩
end
end Lw

/-! T65b: registers: plain mathematics. -/
namespace Lw
open PySem PySem.Spec L2 DL

def plcA (a : Int) (w : List Int) : Int := w.foldl (fun l y => 2 * l + y) a
/-- the place of a word -/
def plc (w : List Int) : Int := plcA 0 w
def nxt (rule : List Int) (w : List Int) : List Int := w.drop 1 ++ [rule.getD (plc w).toNat 0]
theorem plcA_eq : ∀ (w : List Int) (a : Int), plcA a w = a * (2 : Int) ^ w.length + plc w
  | [], a => by
    show a = a * 1 + 0
    omega
  | y :: r, a => by
    show plcA (2 * a + y) r = a * (2 : Int) ^ (r.length + 1) + plcA (2 * 0 + y) r
    rw [plcA_eq r, plcA_eq r (2 * 0 + y), Int.pow_succ, Int.add_mul, Int.mul_comm 2 a, Int.mul_assoc, Int.mul_comm 2, Int.mul_zero, Int.zero_add, Int.add_assoc]
theorem plc_cons (y : Int) (r : List Int) : plc (y :: r) = y * (2 : Int) ^ r.length + plc r := by
  show plcA (2 * 0 + y) r = _
  rw [plcA_eq, Int.mul_zero, Int.zero_add]
theorem two_pow (n : Nat) : (2 : Int) ^ n = ((2 ^ n : Nat) : Int) := by
  rw [Int.natCast_pow]
  rfl
theorem plc_lt : ∀ {w : List Int}, Bin w → 0 ≤ plc w ∧ plc w < ((2 ^ w.length : Nat) : Int)
  | [], _ => by
    show (0 : Int) ≤ 0 ∧ (0 : Int) < ((2 ^ 0 : Nat) : Int)
    decide
  | y :: r, h => by
    have q := plc_lt (w := r) fun x hx => h x (List.mem_cons_of_mem _ hx)
    rw [plc_cons, two_pow, List.length_cons, Nat.pow_succ]
    rcases h y List.mem_cons_self with e | e <;> rw [e] <;> omega
theorem plc_inj : ∀ {w v : List Int}, Bin w → Bin v → w.length = v.length → plc w = plc v → w = v
  | [], [], _, _, _, _ => rfl
  | [], _ :: _, _, _, h, _ => nomatch h
  | _ :: _, [], _, _, h, _ => nomatch h
  | y :: r, z :: s, h1, h2, hl, e => by
    have hl : r.length = s.length := Nat.succ.inj hl
    have b1 : Bin r := fun x hx => h1 x (List.mem_cons_of_mem _ hx)
    have b2 : Bin s := fun x hx => h2 x (List.mem_cons_of_mem _ hx)
    have l1 := plc_lt b1
    have l2 := plc_lt b2
    rw [plc_cons, plc_cons, two_pow, two_pow, hl] at e
    rw [hl] at l1
    have k : y = z ∧ plc r = plc s := by
      rcases h1 y List.mem_cons_self with e1 | e1 <;> rcases h2 z List.mem_cons_self with e2 | e2 <;> rw [e1, e2] at e <;> rw [e1, e2] <;> omega
    rw [k.1, plc_inj b1 b2 hl k.2]
theorem plc_onto : ∀ (n k : Nat), k < 2 ^ n → ∃ w, w.length = n ∧ Bin w ∧ plc w = (k : Int)
  | 0, k, h => ⟨[], rfl, (fun _ q => nomatch q), by
    have : k = 0 := by rw [Nat.pow_zero] at h; omega
    rw [this]; rfl⟩
  | n + 1, k, h => by
    rw [Nat.pow_succ] at h
    have bc : ∀ {y : Int} {w : List Int}, (y = 0 ∨ y = 1) → Bin w → Bin (y :: w) := fun hy hw x hx => by
      rcases List.mem_cons.mp hx with e | e
      · rw [e]; exact hy
      · exact hw x e
    rcases Nat.lt_or_ge k (2 ^ n) with q | q
    · obtain ⟨w, h1, h2, h3⟩ := plc_onto n k q
      exact ⟨0 :: w, by rw [List.length_cons, h1], bc (.inl rfl) h2, by rw [plc_cons, h3, Int.zero_mul, Int.zero_add]⟩
    · obtain ⟨w, h1, h2, h3⟩ := plc_onto n (k - 2 ^ n) (by omega)
      refine ⟨1 :: w, by rw [List.length_cons, h1], bc (.inr rfl) h2, ?_⟩
      rw [plc_cons, h3, h1, two_pow, Int.one_mul]
      omega
/-- a rule: a sign for each word of n signs -/
structure RuleOk (n : Nat) (rule : List Int) : Prop where
  len : rule.length = 2 ^ n
  bin : Bin rule
theorem getD_bin {rule : List Int} (h : Bin rule) (k : Nat) : rule.getD k 0 = 0 ∨ rule.getD k 0 = 1 := by
  rw [List.getD_eq_getElem?_getD]
  cases q : rule[k]? with
  | none => exact .inl rfl
  | some x => exact h x (List.mem_of_getElem? q)
theorem nxt_ok {n : Nat} (hn : 1 ≤ n) {rule : List Int} (h : Bin rule) : ∀ w ∈ allR n, nxt rule w ∈ allR n := fun w hw => by
  obtain ⟨h1, h2⟩ := allR_ok n w hw
  refine allR_mem n _ ?_ fun x hx => ?_
  · unfold nxt
    rw [List.length_append, List.length_drop, List.length_singleton]
    omega
  · rcases List.mem_append.mp hx with q | q
    · exact h2 x (List.mem_of_mem_drop q)
    · rw [List.mem_singleton.mp q]; exact getD_bin h _
theorem inj_turn {n : Nat} {rule : List Int} (h : Bin rule) : (∀ a ∈ allR (n + 1), ∀ c ∈ allR (n + 1), nxt rule a = nxt rule c → a = c) ↔ ∀ k, k < 2 ^ n → rule.getD k 0 ≠ rule.getD (k + 2 ^ n) 0 := by
  have cons_in : ∀ {y : Int} {w : List Int}, (y = 0 ∨ y = 1) → w.length = n → Bin w → y :: w ∈ allR (n + 1) := fun {y w} hy hl hw => allR_mem _ _ (by rw [List.length_cons, hl]) fun x hx => by
    rcases List.mem_cons.mp hx with e | e
    · rw [e]; exact hy
    · exact hw x e
  have at0 : ∀ {w : List Int}, w.length = n → nxt rule (0 :: w) = w ++ [rule.getD (plc w).toNat 0] := fun {w} _ => by
    unfold nxt
    rw [plc_cons, Int.zero_mul, Int.zero_add]
    rfl
  have at1 : ∀ {w : List Int}, w.length = n → Bin w → nxt rule (1 :: w) = w ++ [rule.getD ((plc w).toNat + 2 ^ n) 0] := fun {w} hl hw => by
    have lt := plc_lt hw
    rw [hl] at lt
    have p0 : 0 < 2 ^ n := Nat.two_pow_pos n
    unfold nxt
    rw [plc_cons, Int.one_mul, two_pow, hl, show (((2 ^ n : Nat) : Int) + plc w).toNat = (plc w).toNat + 2 ^ n by omega]
    rfl
  constructor
  · intro q k hk e
    obtain ⟨w, h1, h2, h3⟩ := plc_onto n k hk
    have := q _ (cons_in (.inl rfl) h1 h2) _ (cons_in (.inr rfl) h1 h2) (by
      rw [at0 h1, at1 h1 h2, h3, show ((k : Int)).toNat = k by omega, e])
    injection this with z _
    exact absurd z (by decide)
  · intro q a ha c hc e
    obtain ⟨la, ba⟩ := allR_ok _ a ha
    obtain ⟨lc, bc⟩ := allR_ok _ c hc
    match a, c, la, lc with
    | x :: u, y :: v, la, lc =>
      have la : u.length = n := Nat.succ.inj la
      have lc : v.length = n := Nat.succ.inj lc
      have bu : Bin u := fun z hz => ba z (List.mem_cons_of_mem _ hz)
      have uv : u = v := by
        have := congrArg (List.take n) e
        unfold nxt at this
        rw [List.drop_one, List.drop_one, List.tail_cons, List.tail_cons, ← la, List.take_left, la, ← lc, List.take_left] at this
        exact this
      subst uv
      have pl := plc_lt bu
      rw [la] at pl
      have ne := q (plc u).toNat (by omega)
      rcases ba x List.mem_cons_self with e1 | e1 <;> rcases bc y List.mem_cons_self with e2 | e2
      · rw [e1, e2]
      · rw [e1, e2, at0 la, at1 la bu] at e
        exact absurd (List.append_cancel_left e) (fun z => ne (List.singleton_inj.mp z))
      · rw [e1, e2, at0 la, at1 la bu] at e
        exact absurd (List.append_cancel_left e) (fun z => ne (List.singleton_inj.mp z).symm)
      · rw [e1, e2]
end Lw

/-! T65c: words, rings, typed. -/
namespace Lw
open PySem PySem.Spec L2 DL

theorem all_words_t : ∀ n : Nat, n ≤ 4 → t_all_words (n : Int) = TM.pure (allR n)
  | 0, _ => by kernel_rfl
  | 1, _ => by kernel_rfl
  | 2, _ => by kernel_rfl
  | 3, _ => by kernel_rfl
  | 4, _ => by kernel_rfl
  | _ + 5, h => absurd h (by omega)
theorem law_rows_t : ∀ n : Nat, n ≤ 4 → t__law_rows (n : Int) = TM.pure (allR n)
  | 0, _ => by kernel_rfl
  | 1, _ => by kernel_rfl
  | 2, _ => by kernel_rfl
  | 3, _ => by kernel_rfl
  | 4, _ => by kernel_rfl
  | _ + 5, h => absurd h (by omega)
theorem rngT_w {n : Nat} (h : n ≤ 1000000) : rngT 0 (n : Int) = some ((List.range n).map fun (k : Nat) => (k : Int)) := by
  unfold rngT
  rw [if_pos (by omega)]
  simp
theorem plc_t (w : List Int) : TM.forT t_place_of_f1 w 0 = TM.pure (plc w) := (TM.forT_fold (g := fun l y => 2 * l + y) (P := fun _ => True) w 0 trivial fun l x _ _ => ⟨rfl, trivial⟩).1
theorem plc_tl (w : List Int) : TM.forT t__law_next_f1 w 0 = TM.pure (plc w) := (TM.forT_fold (g := fun l y => 2 * l + y) (P := fun _ => True) w 0 trivial fun l x _ _ => ⟨rfl, trivial⟩).1
theorem cut_one (w : List Int) : cutL w (some (1 : Int)) none = w.drop 1 := by
  cases w with
  | nil => rfl
  | cons y r =>
    unfold cutL HT.sIx
    simp
section
variable {n : Nat} {rule : List Int}
theorem rule_at (R : RuleOk n rule) {w : List Int} (hw : w ∈ allR n) : atI rule (plc w) = some (rule.getD (plc w).toNat 0) := by
  obtain ⟨hl, hb⟩ := allR_ok n w hw
  have q := plc_lt hb
  rw [hl] at q
  refine atI_nat q.1 ?_
  have hlt : (plc w).toNat < rule.length := by rw [R.len]; omega
  rw [List.getD_eq_getElem?_getD, List.getElem?_eq_getElem hlt]
  rfl
theorem next_t (hn : n ≤ 4) (R : RuleOk n rule) {w : List Int} (hw : w ∈ allR n) : t_next_word rule w = TM.pure (nxt rule w) := by
  have hl := (allR_ok n w hw).1
  unfold t_next_word t_place_of
  rw [plc_t, TM.pure_bind, TM.pure_bind, rule_at R hw, TM.lift_some, TM.pure_bind, TM.pure_bind, cut_one, catT_ok (by rw [List.length_drop]; show _ + 1 ≤ _; omega), TM.lift_some]
  rfl
theorem lnext_t (hn : n ≤ 4) (R : RuleOk n rule) {w : List Int} (hw : w ∈ allR n) : t__law_next rule w = TM.pure (nxt rule w) := by
  have hl := (allR_ok n w hw).1
  unfold t__law_next
  rw [plc_tl, TM.pure_bind, rule_at R hw, TM.lift_some, TM.pure_bind, TM.pure_bind, cut_one, catT_ok (by rw [List.length_drop]; show _ + 1 ≤ _; omega), TM.lift_some]
  rfl
theorem pow_le16 (hn : n ≤ 4) : 2 ^ n ≤ 16 := by
  have : ∀ n : Nat, n ≤ 4 → 2 ^ n ≤ 16 := by decide
  exact this n hn
/-- the ring that one is on behind the way to it -/
theorem ring_of_t (hn : n ≤ 4) (h1 : 1 ≤ n) (R : RuleOk n rule) {w : List Int} (hw : w ∈ allR n) : ∃ d, Turn (nxt rule) (orb (nxt rule) w (2 ^ n)) 0 d ∧ d ≤ 16 ∧ t_ring_of rule w = TM.pure (orbL (nxt rule) (orb (nxt rule) w (2 ^ n)) d) := by
  have cl := nxt_ok h1 R.bin
  have p16 := pow_le16 hn
  have al := allR_len n
  obtain ⟨i, d, T, hid⟩ := turn_in cl hw
  rw [al] at hid
  have T0 := T.on (k := 2 ^ n) (by omega)
  have dp := T0.pos
  generalize hp : orb (nxt rule) w (2 ^ n) = p at T0
  have hpi : p ∈ allR n := by rw [← hp]; exact orb_in cl hw _
  refine ⟨d, T0, by omega, ?_⟩
  unfold t_ring_of
  rw [R.len, rngT_w (by omega), TM.lift_some, TM.pure_bind]
  have e := TM.forT_eq (f := t_ring_of_f3 rule) (fun k => orb (nxt rule) w k) ((List.range (2 ^ n)).map fun (k : Nat) => (k : Int)) 0 fun k x _ => by
    unfold t_ring_of_f3
    rw [next_t hn R (orb_in cl hw _), TM.pure_bind]
    rfl
  rw [List.length_map, List.length_range, Nat.zero_add, hp] at e
  have e : TM.forT (t_ring_of_f3 rule) ((List.range (2 ^ n)).map fun (k : Nat) => (k : Int)) w = TM.pure p := e
  rw [e, TM.pure_bind, next_t hn R hpi, TM.pure_bind]
  obtain ⟨l, e2, hl⟩ := TM.whileT_inv (c := t_ring_of_c1 p) (b := t_ring_of_f2 rule) (I := fun l => ∃ k, 1 ≤ k ∧ k ≤ d ∧ l = (orbL (nxt rule) p k, orb (nxt rule) p k)) (Post := fun l => l.1 = orbL (nxt rule) p d) (fun l => d - l.1.length) (fun l ⟨k, k1, k2, el⟩ => by
    subst el
    have ll : ∀ m, (orbL (nxt rule) p m).length = m := fun m => by unfold orbL; rw [List.length_map, List.length_range]
    by_cases e3 : orb (nxt rule) p k = p
    · refine .inl ⟨?_, ?_⟩
      · unfold t_ring_of_c1
        rw [decide_eq_true (show ((orbL (nxt rule) p k, orb (nxt rule) p k) : List (List Int) × List Int).2 = p from e3)]
        rfl
      · rcases Nat.lt_or_ge k d with q | q
        · exact absurd e3.symm (T0.ne 0 k (by omega) (by omega))
        · rw [show k = d by omega]
    · have kd : k < d := by
        rcases Nat.lt_or_ge k d with q | q
        · exact q
        · have : k = d := by omega
          subst this
          have b := T0.back
          rw [Nat.zero_add] at b
          exact absurd b e3
      refine .inr ⟨(orbL (nxt rule) p (k + 1), orb (nxt rule) p (k + 1)), ?_, ?_, ?_, k + 1, by omega, kd, rfl⟩
      · unfold t_ring_of_c1
        rw [decide_eq_false (show ¬ ((orbL (nxt rule) p k, orb (nxt rule) p k) : List (List Int) × List Int).2 = p from e3)]
        rfl
      · unfold t_ring_of_f2
        dsimp only
        rw [appT_ok (by rw [ll]; omega), TM.lift_some, TM.pure_bind, next_t hn R (orb_in cl hpi _), TM.pure_bind, ← orbL_succ]
        rfl
      · show d - (orbL (nxt rule) p (k + 1)).length < d - (orbL (nxt rule) p k).length
        rw [ll, ll]
        omega) 1000 ([p], nxt rule p) (by show d - 1 < 1000; omega) ⟨1, Nat.le_refl _, dp, rfl⟩
  rw [e2, TM.pure_bind, hl]
end
end Lw

/-! T65d: both ways to the rings. -/
namespace Lw
open PySem PySem.Spec L2 DL

noncomputable def per {α : Type} (f : α → α) (x : α) : Nat := @dite _ (∃ d, Turn f x 0 d) (Classical.propDecidable _) (fun h => Classical.choose h) (fun _ => 0)
theorem per_eq {α : Type} {f : α → α} {x : α} {d : Nat} (T : Turn f x 0 d) : per f x = d := by
  unfold per
  rw [dif_pos ⟨d, T⟩]
  exact ((Classical.choose_spec (p := fun d => Turn f x 0 d) ⟨d, T⟩).one T).2
/-- the ring of x, sorted -/
noncomputable def ringS (f : List Int → List Int) (x : List Int) : List (List Int) := so (eT PyData.int) (orbL f x (per f x))
section
variable {n : Nat} {rule : List Int}
theorem word_ne (h1 : 1 ≤ n) {w : List Int} (hw : w ∈ allR n) : w ≠ [] := fun e => by
  have := (allR_ok n w hw).1
  rw [e] at this
  have this : 0 = n := this
  omega
theorem ring_srt (h1 : 1 ≤ n) (R : RuleOk n rule) {w : List Int} (hw : w ∈ allR n) (m : Nat) : srtT (eT PyData.int) (orbL (nxt rule) w m) = some (so (eT PyData.int) (orbL (nxt rule) w m)) := so_srt soRow fun x hx => by
  obtain ⟨k, _, rfl⟩ := orbL_mem.mp hx
  have ne := word_ne h1 (orb_in (nxt_ok h1 R.bin) hw k)
  cases e : orb (nxt rule) w k with
  | nil => exact absurd e ne
  | cons y r => rfl
theorem found_t (hn : n ≤ 4) (h1 : 1 ≤ n) (R : RuleOk n rule) : t_found_rings (n : Int) rule = TM.lift (sortSetW ((allR n).map fun w => ringS (nxt rule) (orb (nxt rule) w (2 ^ n)))) := by
  have al := allR_len n
  have p16 := pow_le16 hn
  unfold t_found_rings
  rw [all_words_t n hn, TM.pure_bind, TM.compL_map (g' := fun w => ringS (nxt rule) (orb (nxt rule) w (2 ^ n))) (by omega) fun w hw => by
    obtain ⟨d, T, _, e⟩ := ring_of_t hn h1 R hw
    rw [e, TM.pure_bind, ring_srt h1 R (orb_in (nxt_ok h1 R.bin) hw _), TM.lift_some, TM.pure_bind]
    unfold ringS
    rw [per_eq T], TM.pure_bind]
theorem law_row_t (hn : n ≤ 4) (h1 : 1 ≤ n) (R : RuleOk n rule) {w : List Int} (hw : w ∈ allR n) (acc : List (List (List Int))) (ha : acc.length ≤ 100) : t__law_rings_f2 rule acc w = TM.pure (if decide (Cy (nxt rule) w) = true then acc ++ [ringS (nxt rule) w] else acc) := by
  have cl := nxt_ok h1 R.bin
  have p16 := pow_le16 hn
  have al := allR_len n
  obtain ⟨i, d, T, hid⟩ := turn_in cl hw
  rw [al] at hid
  have dp := T.pos
  have ll : ∀ m, (orbL (nxt rule) w m).length = m := fun m => by unfold orbL; rw [List.length_map, List.length_range]
  unfold t__law_rings_f2
  rw [lnext_t hn R hw, TM.pure_bind, show rngT 0 (16 : Int) = some ((List.range 16).map fun (k : Nat) => (k : Int)) from rngT_w (n := 16) (by decide), TM.lift_some, TM.pure_bind]
  have e := TM.forT_eq (f := t__law_rings_f1 rule) (fun k => (orbL (nxt rule) w (min (k + 1) (i + d)), orb (nxt rule) w (min (k + 1) (i + d)))) ((List.range 16).map fun (k : Nat) => (k : Int)) 0 fun k x _ => by
    unfold t__law_rings_f1
    dsimp only
    rw [Nat.zero_add]
    rcases Nat.lt_or_ge (k + 1) (i + d) with q | q
    · rw [Nat.min_eq_left (by omega), Nat.min_eq_left (by omega), memT_false (fun hm => by
        obtain ⟨a, ha', e⟩ := orbL_mem.mp hm
        exact T.ne a (k + 1) ha' q e), if_pos (by decide), appT_ok (by rw [ll]; omega), TM.lift_some, TM.pure_bind, lnext_t hn R (orb_in cl hw _), TM.pure_bind, ← orbL_succ]
      rfl
    · rw [Nat.min_eq_right q, Nat.min_eq_right (by omega), memT_true (by rw [T.back]; exact orbL_mem.mpr ⟨i, by omega, rfl⟩), if_neg (by decide)]
  rw [List.length_map, List.length_range, Nat.zero_add, Nat.min_eq_left (show 0 + 1 ≤ i + d by omega), Nat.min_eq_right (show i + d ≤ 16 + 1 by omega)] at e
  have e : TM.forT (t__law_rings_f1 rule) ((List.range 16).map fun (k : Nat) => (k : Int)) ([w], nxt rule w) = TM.pure (orbL (nxt rule) w (i + d), orb (nxt rule) w (i + d)) := e
  rw [e, TM.pure_bind]
  dsimp only
  rw [T.back]
  by_cases c : i = 0
  · subst c
    have T : Turn (nxt rule) w 0 d := T
    rw [decide_eq_true (show orb (nxt rule) w 0 = w from rfl), if_pos rfl, Nat.zero_add, ring_srt h1 R hw, TM.lift_some, TM.pure_bind, TM.pure_bind, appT_ok (by omega), TM.lift_some, TM.pure_bind, decide_eq_true (show Cy (nxt rule) w from ⟨d, T⟩), if_pos rfl]
    unfold ringS
    rw [per_eq T]
  · rw [decide_eq_false (fun z : orb (nxt rule) w i = w => by
      obtain ⟨q, _⟩ := T.eq (a := 0) (c := i) (by omega) z.symm
      omega), if_neg (by decide), decide_eq_false (fun z : Cy (nxt rule) w => by
      obtain ⟨d', T'⟩ := z
      exact c (T.one T').1), if_neg (by decide)]
noncomputable def ringsB (n : Nat) (rule : List Int) : List (List (List Int)) := ((allR n).filter fun w => decide (Cy (nxt rule) w)).map (ringS (nxt rule))
theorem law_rings_t (hn : n ≤ 4) (h1 : 1 ≤ n) (R : RuleOk n rule) : t__law_rings (n : Int) rule = TM.lift (sortSetW (ringsB n rule)) := by
  have al := allR_len n
  have p16 := pow_le16 hn
  unfold t__law_rings
  rw [law_rows_t n hn, TM.pure_bind]
  have e := TM.forT_eq (f := t__law_rings_f2 rule) (fun j => (((allR n).take j).filter fun w => decide (Cy (nxt rule) w)).map (ringS (nxt rule))) (allR n) 0 fun j w hw => by
    rw [Nat.zero_add]
    rw [law_row_t hn h1 R (List.mem_of_getElem? hw) _ (by
      rw [List.length_map]
      refine Nat.le_trans (List.length_filter_le _ _) ?_
      rw [List.length_take]
      omega)]
    have tk : (allR n).take (j + 1) = (allR n).take j ++ [w] := by rw [List.take_add_one, hw]; rfl
    rw [tk, List.filter_append, List.map_append]
    by_cases c : decide (Cy (nxt rule) w) = true
    · rw [if_pos c, List.filter_cons, if_pos c]
      rfl
    · rw [if_neg c, List.filter_cons, if_neg c, List.filter_nil, List.map_nil, List.append_nil]
  rw [Nat.zero_add, List.take_length] at e
  have e : TM.forT (t__law_rings_f2 rule) (allR n) [] = TM.pure (ringsB n rule) := e
  rw [e, TM.pure_bind]
theorem ringS_mem (h1 : 1 ≤ n) {x : List Int} (hc : Cy (nxt rule) x) {y : List Int} : y ∈ ringS (nxt rule) x ↔ y ∈ orbL (nxt rule) x (per (nxt rule) x) := (so_perm _).mem_iff
theorem ringS_same {x y : List Int} {d : Nat} (T : Turn (nxt rule) x 0 d) (hy : y ∈ orbL (nxt rule) x d) : ringS (nxt rule) y = ringS (nxt rule) x := by
  obtain ⟨T', p⟩ := ring_perm T hy
  unfold ringS
  rw [per_eq T, per_eq T']
  exact so_same soRow p
theorem same_mem (hn : n ≤ 4) (h1 : 1 ≤ n) (R : RuleOk n rule) (r : List (List Int)) : r ∈ ((allR n).map fun w => ringS (nxt rule) (orb (nxt rule) w (2 ^ n))) ↔ r ∈ ringsB n rule := by
  have cl := nxt_ok h1 R.bin
  unfold ringsB
  constructor
  · intro h
    obtain ⟨w, hw, rfl⟩ := List.mem_map.mp h
    obtain ⟨d, T, _, _⟩ := ring_of_t hn h1 R hw
    exact List.mem_map.mpr ⟨_, List.mem_filter.mpr ⟨orb_in cl hw _, decide_eq_true ⟨d, T⟩⟩, rfl⟩
  · intro h
    obtain ⟨w, hw, rfl⟩ := List.mem_map.mp h
    obtain ⟨hw, hc⟩ := List.mem_filter.mp hw
    obtain ⟨d, T⟩ := of_decide_eq_true hc
    exact List.mem_map.mpr ⟨w, hw, ringS_same T (ring_mem T _)⟩
/-- the rings -/
noncomputable def RG (n : Nat) (rule : List Int) : List (List (List Int)) := so eW (dist (ringsB n rule))
theorem ringsB_ok (hn : n ≤ 4) (h1 : 1 ≤ n) (R : RuleOk n rule) : (ringsB n rule).length < 64 ∧ ∀ r ∈ ringsB n rule, r ≠ [] := by
  have al := allR_len n
  have p16 := pow_le16 hn
  unfold ringsB
  refine ⟨by rw [List.length_map]; exact Nat.lt_of_le_of_lt (List.length_filter_le _ _) (by omega), fun r hr e => ?_⟩
  obtain ⟨w, hw, rfl⟩ := List.mem_map.mp hr
  obtain ⟨d, T⟩ := of_decide_eq_true (List.mem_filter.mp hw).2
  have : w ∈ ringS (nxt rule) w := (so_perm _).mem_iff.mpr (by rw [per_eq T]; exact ring_mem T 0)
  rw [e] at this
  cases this
theorem law_RG (hn : n ≤ 4) (h1 : 1 ≤ n) (R : RuleOk n rule) : t__law_rings (n : Int) rule = TM.pure (RG n rule) := by
  obtain ⟨l1, l2⟩ := ringsB_ok hn h1 R
  rw [law_rings_t hn h1 R, sortSetW_ok l1 l2, TM.lift_some]
  rfl
theorem found_RG (hn : n ≤ 4) (h1 : 1 ≤ n) (R : RuleOk n rule) : t_found_rings (n : Int) rule = TM.pure (RG n rule) := by
  have al := allR_len n
  have p16 := pow_le16 hn
  obtain ⟨l1, l2⟩ := ringsB_ok hn h1 R
  rw [found_t hn h1 R, sortSetW_same (by rw [List.length_map]; omega) l1 (fun r hr => l2 r ((same_mem hn h1 R r).mp hr)) (same_mem hn h1 R), sortSetW_ok l1 l2, TM.lift_some]
  rfl
theorem RG_rings (h1 : 1 ≤ n) (R : RuleOk n rule) : Rings (nxt rule) (allR n) (RG n rule) := by
  have mem : ∀ r, r ∈ RG n rule ↔ r ∈ ringsB n rule := fun r => by
    unfold RG
    rw [(so_perm _).mem_iff, dist_mem]
  have isB : ∀ r ∈ RG n rule, ∃ x d, x ∈ allR n ∧ Turn (nxt rule) x 0 d ∧ r = so (eT PyData.int) (orbL (nxt rule) x d) := fun r hr => by
    obtain ⟨x, hx, rfl⟩ := List.mem_map.mp ((mem r).mp hr)
    obtain ⟨hx, hc⟩ := List.mem_filter.mp hx
    obtain ⟨d, T⟩ := of_decide_eq_true hc
    exact ⟨x, d, hx, T, by unfold ringS; rw [per_eq T]⟩
  refine ⟨fun r hr => ?_, fun x hx hc => ?_, ?_, fun r hr q hq p => ?_⟩
  · obtain ⟨x, d, hx, T, rfl⟩ := isB r hr
    exact ⟨x, d, hx, T, so_perm _⟩
  · obtain ⟨d, T⟩ := id hc
    refine ⟨ringS (nxt rule) x, (mem _).mpr (List.mem_map.mpr ⟨x, List.mem_filter.mpr ⟨hx, decide_eq_true hc⟩, rfl⟩), (so_perm _).mem_iff.mpr ?_⟩
    rw [per_eq T]
    exact ring_mem T 0
  · exact (so_perm _).nodup_iff.mpr (dist_nodup _)
  · obtain ⟨x, d, _, T, rfl⟩ := isB r hr
    obtain ⟨y, d', _, T', rfl⟩ := isB q hq
    exact so_same soRow ((so_perm _).symm.trans (p.trans (so_perm _)))
end
end Lw

/-! T65e: checks at good values. -/
namespace Lw
open PySem PySem.Spec L2 DL

section
variable {n : Nat} {rule : List Int}
theorem number_t (hn : n ≤ 4) (h1 : 1 ≤ n) : t_check_number (PyData.int (n : Int)) 4 = TM.pure () := by
  unfold t_check_number t_is_number t_is_whole
  rw [show isOf "int" (PyData.int (n : Int)) = some true from rfl, TM.lift_some, TM.pure_bind, if_pos rfl, show isOf "bool" (PyData.int (n : Int)) = some false from rfl, TM.lift_some, TM.pure_bind, TM.pure_bind]
  rw [if_pos (by decide), TM.pure_bind, show asI (PyData.int (n : Int)) = some (n : Int) from rfl, TM.lift_some, TM.pure_bind, if_pos (decide_eq_true (by omega)), TM.pure_bind, TM.pure_bind, TM.pure_bind, decide_eq_true (by omega)]
  rfl
theorem signs_t {w : List Int} (h : Bin w) (hl : w.length ≤ 16777216) : t_are_signs (eT PyData.int w) = TM.pure true := by
  unfold t_are_signs
  rw [show isOf "tuple" (eT PyData.int w) = some true from rfl, TM.lift_some, TM.pure_bind, if_pos rfl, show itemsOf (eT PyData.int w) = some (w.map PyData.int) from rfl, TM.lift_some, TM.pure_bind,
    TM.compL_map (g' := fun _ => true) (by rw [List.length_map]; exact hl) fun d hd => by
      obtain ⟨x, hx, rfl⟩ := List.mem_map.mp hd
      rcases h x hx with e | e <;> rw [e] <;> rfl, TM.pure_bind]
  congr 1
  rw [List.all_eq_true]
  intro c hc
  obtain ⟨_, _, rfl⟩ := List.mem_map.mp hc
  rfl
theorem lenA_row (p : List Int) : lenA (eT PyData.int p) = some (p.length : Int) := by
  show (some ((p.map PyData.int).length : Int)) = _
  rw [List.length_map]
theorem power_t (hn : n ≤ 4) : t_power_of_two (n : Int) = TM.pure ((2 ^ n : Nat) : Int) := by
  have : ∀ n : Nat, n ≤ 4 → shlT 1 (n : Int) = some ((2 ^ n : Nat) : Int) := fun n h => by
    match n, h with
    | 0, _ => kernel_rfl
    | 1, _ => kernel_rfl
    | 2, _ => kernel_rfl
    | 3, _ => kernel_rfl
    | 4, _ => kernel_rfl
    | k + 5, h => exact absurd h (by omega)
  unfold t_power_of_two
  rw [this n hn, TM.lift_some]
theorem is_rule_t (hn : n ≤ 4) (h1 : 1 ≤ n) (R : RuleOk n rule) : t_is_rule (PyData.int (n : Int)) (eT PyData.int rule) = TM.pure true := by
  have p16 := pow_le16 hn
  unfold t_is_rule
  rw [number_t hn h1, TM.pure_bind, signs_t R.bin (by rw [R.len]; omega), TM.pure_bind, if_pos rfl, lenA_row, TM.lift_some, TM.pure_bind, show asI (PyData.int (n : Int)) = some (n : Int) from rfl, TM.lift_some, TM.pure_bind, power_t hn, TM.pure_bind, R.len, decide_eq_true rfl]
theorem check_rule_t (hn : n ≤ 4) (h1 : 1 ≤ n) (R : RuleOk n rule) : t_check_rule (PyData.int (n : Int)) (eT PyData.int rule) = TM.pure () := by
  unfold t_check_rule
  rw [is_rule_t hn h1 R, TM.pure_bind, TM.pure_bind]
  rfl
theorem asAll_map {α : Type} {e : α → PyData} {g : PyData → Option α} (h : ∀ x, g (e x) = some x) : ∀ xs : List α, asAll g (xs.map e) = some xs
  | [] => rfl
  | x :: r => by
    show asAll g (e x :: r.map e) = _
    unfold asAll
    rw [h, asAll_map h r]
    rfl
theorem asT_row (v : List Int) : asT asI (eT PyData.int v) = some v := asAll_map (e := PyData.int) (g := asI) (fun _ => rfl) v
end
end Lw

/-! T65f: turnable. -/
namespace Lw
open PySem PySem.Spec L2 DL

/-- the formula: each pair of places differs -/
def tnB (m : Nat) (rule : List Int) : Bool := (List.range (2 ^ m)).all fun k => !decide (rule.getD k 0 = rule.getD (k + 2 ^ m) 0)
section
variable {m : Nat} {rule : List Int}
theorem at_rule (R : RuleOk (m + 1) rule) {k : Nat} (h : k < 2 ^ (m + 1)) : atI rule (k : Int) = some (rule.getD k 0) := by
  refine atI_nat (by omega) ?_
  have hlt : k < rule.length := by rw [R.len]; exact h
  rw [List.getD_eq_getElem?_getD, Int.toNat_natCast, List.getElem?_eq_getElem hlt]
  rfl
theorem pairs_t (hn : m + 1 ≤ 4) (R : RuleOk (m + 1) rule) : TM.compL (fun y2 => (TM.pure true)) (fun y2 => ((TM.lift (atI rule y2)).bind fun c3 => ((TM.lift (atI rule (y2 + ((2 ^ m : Nat) : Int)))).bind fun c4 => TM.pure (!decide (c3 = c4))))) ((List.range (2 ^ m)).map fun (k : Nat) => (k : Int)) = TM.pure ((List.range (2 ^ m)).map fun k => !decide (rule.getD k 0 = rule.getD (k + 2 ^ m) 0)) := by
  have p16 := pow_le16 (n := m) (by omega)
  rw [TM.compL_map (g' := fun x => !decide (rule.getD x.toNat 0 = rule.getD (x.toNat + 2 ^ m) 0)) (by rw [List.length_map, List.length_range]; omega) fun x hx => by
    obtain ⟨k, hk, rfl⟩ := List.mem_map.mp hx
    have hk := List.mem_range.mp hk
    have e2 : 2 ^ (m + 1) = 2 ^ m + 2 ^ m := by rw [Nat.pow_succ]; omega
    rw [at_rule R (by omega), TM.lift_some, TM.pure_bind, ← Int.natCast_add, at_rule R (by omega), TM.lift_some, TM.pure_bind, Int.toNat_natCast], List.map_map]
  rfl
theorem all_tn : ((List.range (2 ^ m)).map fun k => !decide (rule.getD k 0 = rule.getD (k + 2 ^ m) 0)).all id = tnB m rule := by
  rw [List.all_map]
  rfl
theorem pred_cast : ((m + 1 : Nat) : Int) - 1 = (m : Int) := by omega
theorem two_t (hn : m + 1 ≤ 4) : t__law_two (((m + 1 : Nat) : Int) - 1) = TM.pure ((2 ^ m : Nat) : Int) := by
  have : ∀ m : Nat, m ≤ 3 → t__law_two (m : Int) = TM.pure ((2 ^ m : Nat) : Int) := fun m h => by
    match m, h with
    | 0, _ => kernel_rfl
    | 1, _ => kernel_rfl
    | 2, _ => kernel_rfl
    | 3, _ => kernel_rfl
    | k + 4, h => exact absurd h (by omega)
  rw [pred_cast, this m (by omega)]
/-- the sum of the rings tells the same -/
theorem sum_tn (hn : m + 1 ≤ 4) (R : RuleOk (m + 1) rule) : decide ((((RG (m + 1) rule).map fun r => (r.length : Int)).sum) = 2 * ((2 ^ m : Nat) : Int)) = tnB m rule := by
  have cast : ∀ l : List (List (List Int)), (l.map fun r => (r.length : Int)).sum = (((l.map List.length).sum : Nat) : Int) := by
    intro l
    induction l with
    | nil => rfl
    | cons r l ih => rw [List.map_cons, List.sum_cons, ih, List.map_cons, List.sum_cons, Int.natCast_add]
  have full := (RG_rings (n := m + 1) (by omega) R).full (allR_nd (by omega)) (nxt_ok (by omega) R.bin)
  rw [inj_turn R.bin, allR_len] at full
  rw [cast]
  have e2 : 2 ^ (m + 1) = 2 * 2 ^ m := by rw [Nat.pow_succ]; omega
  rw [e2] at full
  have q : tnB m rule = true ↔ ∀ k, k < 2 ^ m → rule.getD k 0 ≠ rule.getD (k + 2 ^ m) 0 := by
    unfold tnB
    rw [List.all_eq_true]
    constructor
    · intro h k hk
      have := h k (List.mem_range.mpr hk)
      simpa using this
    · intro h k hk
      have := h k (List.mem_range.mp hk)
      simpa using this
  rw [Bool.eq_iff_iff, decide_eq_true_iff, q, ← full]
  omega
end
end Lw

/-! T65g: full, sums, wide. -/
namespace Lw
open PySem PySem.Spec L2 DL

section
variable {m : Nat} {rule : List Int}
theorem RG_ne (hn : m + 1 ≤ 4) (R : RuleOk (m + 1) rule) : ∃ r l, RG (m + 1) rule = r :: l := by
  have cl := nxt_ok (n := m + 1) (by omega) R.bin
  obtain ⟨w, hw⟩ : ∃ w, w ∈ allR (m + 1) := by
    cases e : allR (m + 1) with
    | nil =>
      have := allR_len (m + 1)
      rw [e] at this
      have p := Nat.two_pow_pos (m + 1)
      have this : 0 = 2 ^ (m + 1) := this
      omega
    | cons w l => exact ⟨w, List.mem_cons_self⟩
  obtain ⟨d, T, _, _⟩ := ring_of_t hn (by omega) R hw
  obtain ⟨r, hr, _⟩ := (RG_rings (n := m + 1) (by omega) R).all _ (orb_in cl hw _) ⟨d, T⟩
  cases e : RG (m + 1) rule with
  | nil => rw [e] at hr; cases hr
  | cons r l => exact ⟨r, l, rfl⟩
theorem pow_two : ((2 ^ (m + 1) : Nat) : Int) = 2 * ((2 ^ m : Nat) : Int) := by
  have : 2 ^ (m + 1) = 2 * 2 ^ m := by rw [Nat.pow_succ]; omega
  rw [this]
  omega
/-- the places -/
def plR : Nat → List (List Int)
  | 0 => [[]]
  | n + 1 => plR n ++ (plR n).map fun p => p ++ [(n : Int)]
theorem places_t : ∀ n : Nat, n ≤ 4 → t_places_of (n : Int) = TM.pure (plR n)
  | 0, _ => by kernel_rfl
  | 1, _ => by kernel_rfl
  | 2, _ => by kernel_rfl
  | 3, _ => by kernel_rfl
  | 4, _ => by kernel_rfl
  | _ + 5, h => absurd h (by omega)
theorem every_t : ∀ n : Nat, n ≤ 4 → ((TM.lift (rngT 0 (n : Int))).bind fun z87 => TM.forT t_law_f1 z87 [([] : (List Int))]) = TM.pure (plR n)
  | 0, _ => by kernel_rfl
  | 1, _ => by kernel_rfl
  | 2, _ => by kernel_rfl
  | 3, _ => by kernel_rfl
  | 4, _ => by kernel_rfl
  | _ + 5, h => absurd h (by omega)
theorem plR_in : ∀ n : Nat, n ≤ 4 → ∀ p ∈ plR n, p.length ≤ n ∧ ∀ x ∈ p, 0 ≤ x ∧ x < (n : Int) := by decide +kernel
theorem plR_len : ∀ n : Nat, n ≤ 4 → (plR n).length ≤ 16 := by decide +kernel
/-- the sum's rule -/
def smR (n : Nat) (ps : List Int) : List Int := (allR n).map fun w => ((ps.map fun y => w.getD y.toNat 0).sum) % 2
theorem sum_t {n : Nat} (hn : n ≤ 4) {ps : List Int} (hl : ps.length ≤ 4) (hp : ∀ x ∈ ps, 0 ≤ x ∧ x < (n : Int)) : t_summing (n : Int) ps = TM.pure (smR n ps) := by
  have p16 := pow_le16 hn
  have al := allR_len n
  unfold t_summing
  rw [all_words_t n hn, TM.pure_bind, TM.compL_map (g' := fun w => ((ps.map fun y => w.getD y.toNat 0).sum) % 2) (by omega) fun w hw => by
    have hwl := (allR_ok n w hw).1
    rw [TM.compL_map (g' := fun y => w.getD y.toNat 0) (by omega) fun y hy => by
      have q := hp y hy
      rw [atI_nat (x := w.getD y.toNat 0) q.1 (by
        have hlt : y.toNat < w.length := by omega
        rw [List.getD_eq_getElem?_getD, List.getElem?_eq_getElem hlt]
        rfl), TM.lift_some], TM.pure_bind, TM.pure_bind, TM.pure_bind], TM.pure_bind]
  rfl
theorem smR_ok (n : Nat) (ps : List Int) : RuleOk n (smR n ps) := by
  refine ⟨by unfold smR; rw [List.length_map, allR_len], fun x hx => ?_⟩
  obtain ⟨w, _, rfl⟩ := List.mem_map.mp hx
  omega
end
end Lw

/-! T65h: wide. -/
namespace Lw
open PySem PySem.Spec L2 DL

theorem inA_row (v : List Int) (K : List (List Int)) : inA (eT PyData.int v) (eL (eT PyData.int) K) = some (decide (v ∈ K)) := by
  have h := o_inL (e := eT PyData.int) (eqE_T eqE_int) v K
  rw [o_inA] at h
  obtain ⟨k, e1, e2⟩ := Option.map_eq_some_iff.mp h
  injection e2 with e2
  show inA (eT PyData.int v) (.list (K.map (eT PyData.int))) = _
  rw [e1, e2]
  unfold memT
  exact congrArg some (decide_eq_decide.mpr Iff.rfl)
theorem ninA_row (v : List Int) (K : List (List Int)) : ninA (eT PyData.int v) (eL (eT PyData.int) K) = some (!decide (v ∈ K)) := by
  unfold ninA
  rw [inA_row]
  rfl
theorem zeros_t : ∀ n : Nat, n + 1 ≤ 4 → repT1 [(0 : Int)] ((n + 1 : Nat) : Int) = some (List.replicate (n + 1) 0)
  | 0, _ => by kernel_rfl
  | 1, _ => by kernel_rfl
  | 2, _ => by kernel_rfl
  | 3, _ => by kernel_rfl
  | _ + 4, h => absurd h (by omega)
def wdR (m : Nat) (y : List (List Int)) : Bool := if decide ((y.length : Int) = 2 * ((2 ^ m : Nat) : Int) - 1) then !memT (List.replicate (m + 1) (0 : Int)) y else false
noncomputable def wdB (m : Nat) (rule : List Int) : Bool := if decide (rule ∈ (plR (m + 1)).map (smR (m + 1))) then ((RG (m + 1) rule).map (wdR m)).any id else false
section
variable {m : Nat} {rule : List Int}
theorem RG_len (hn : m + 1 ≤ 4) (R : RuleOk (m + 1) rule) : (RG (m + 1) rule).length < 64 := by
  have h := ringsB_ok hn (by omega) R
  refine Nat.lt_of_le_of_lt ?_ h.1
  unfold RG
  rw [(so_perm _).length_eq]
  exact dist_len _
theorem wide_t (hn : m + 1 ≤ 4) (R : RuleOk (m + 1) rule) : t_is_wide (PyData.int ((m + 1 : Nat) : Int)) (eT PyData.int rule) = TM.pure (wdB m rule) := by
  have rl := RG_len hn R
  have pl := plR_len _ hn
  unfold t_is_wide
  rw [check_rule_t hn (by omega) R, TM.pure_bind, show asI (PyData.int ((m + 1 : Nat) : Int)) = some ((m + 1 : Nat) : Int) from rfl]
  simp only [TM.lift_some, TM.pure_bind, asT_row]
  rw [places_t _ hn, TM.pure_bind, TM.compL_map (g' := smR (m + 1)) (by omega) fun p hp => by
    obtain ⟨h1, h2⟩ := plR_in _ hn p hp
    rw [sum_t hn (by omega) h2], TM.pure_bind, TM.pure_bind, ninA_row, TM.lift_some, TM.pure_bind]
  unfold wdB
  by_cases c : rule ∈ (plR (m + 1)).map (smR (m + 1))
  · rw [decide_eq_true c, if_neg (by decide), if_pos rfl, found_RG hn (by omega) R, TM.pure_bind, TM.compL_map (g' := wdR m) (by omega) fun y hy => by
      rw [power_t hn]
      simp only [TM.pure_bind]
      rw [pow_two, zeros_t _ hn]
      unfold wdR
      by_cases q : (y.length : Int) = 2 * ((2 ^ m : Nat) : Int) - 1
      · rw [decide_eq_true q, if_pos rfl, if_pos rfl, TM.lift_some, TM.pure_bind]
      · rw [decide_eq_false q, if_neg (by decide), if_neg (by decide)], TM.pure_bind]
  · rw [decide_eq_false c, if_pos (by decide), if_neg (by decide)]
end
end Lw

/-! T65i: sums by places; the rings as text. -/
namespace Lw
open PySem PySem.Spec L2 DL

/-- places that may be given -/
structure PlOk (n : Nat) (ps : List Int) : Prop where
  rng : ∀ x ∈ ps, 0 ≤ x ∧ x < (n : Int)
  inc : ps.Pairwise (· < ·)
  len : ps.length ≤ 4
section
variable {n : Nat} {ps : List Int}
theorem zip_inc : ∀ {ps : List Int}, ps.Pairwise (· < ·) → ((ps.zip (ps.drop 1)).map fun y => decide (y.1 < y.2)).all id = true
  | [], _ => rfl
  | [_], _ => rfl
  | x :: y :: r, h => by
    have h2 := zip_inc (ps := y :: r) (List.pairwise_cons.mp h).2
    have h1 : x < y := (List.pairwise_cons.mp h).1 y List.mem_cons_self
    show (decide (x < y) && (((y :: r).zip r).map fun y => decide (y.1 < y.2)).all id) = true
    rw [decide_eq_true h1, Bool.true_and]
    exact h2
theorem linear_t (hn : n ≤ 4) (h1 : 1 ≤ n) (P : PlOk n ps) : t_linear_rule (PyData.int (n : Int)) (eT PyData.int ps) = TM.pure (smR n ps) := by
  have l4 := P.len
  unfold t_linear_rule
  rw [number_t hn h1, TM.pure_bind, show isOf "tuple" (eT PyData.int ps) = some true from rfl, TM.lift_some, TM.pure_bind, TM.pure_bind, if_neg (by decide), show itemsOf (eT PyData.int ps) = some (ps.map PyData.int) from rfl, TM.lift_some, TM.pure_bind,
    TM.compL_map (g' := fun _ => true) (by rw [List.length_map]; omega) fun d hd => by
      obtain ⟨x, hx, rfl⟩ := List.mem_map.mp hd
      obtain ⟨q1, q2⟩ := P.rng x hx
      unfold t_is_whole
      rw [show isOf "int" (PyData.int x) = some true from rfl, TM.lift_some, TM.pure_bind, if_pos rfl, show isOf "bool" (PyData.int x) = some false from rfl, TM.lift_some, TM.pure_bind, TM.pure_bind]
      rw [if_pos (by decide), TM.pure_bind, show asI (PyData.int x) = some x from rfl, TM.lift_some, TM.pure_bind, if_pos (decide_eq_true q1), show asI (PyData.int (n : Int)) = some (n : Int) from rfl, TM.lift_some, TM.pure_bind, decide_eq_true q2], TM.pure_bind, TM.pure_bind]
  have a1 : ((ps.map PyData.int).map fun _ => true).all id = true := by
    rw [List.all_eq_true]
    intro c hc
    obtain ⟨_, _, rfl⟩ := List.mem_map.mp hc
    rfl
  rw [a1, TM.pure_bind, if_neg (by decide)]
  simp only [asT_row, TM.lift_some, TM.pure_bind]
  rw [TM.compV_map (by
    rw [List.length_zip]
    omega), TM.pure_bind, cut_one, zip_inc P.inc, TM.pure_bind, TM.pure_bind, if_neg (by decide), show asI (PyData.int (n : Int)) = some (n : Int) from rfl, TM.lift_some, TM.pure_bind, sum_t hn l4 P.rng]
end
end Lw

/-! T65j: the draws. -/
namespace Lw
open PySem PySem.Spec L2 DL

theorem Gives.sub {α : Type} {I : DS → Prop} {p : α → TM Bool} : ∀ (xs : List α), (∀ x ∈ xs, Gives (p x) (fun _ => True) I) → Gives (TM.compM p (fun y => TM.pure y) xs) (fun ys => ys.Sublist xs) I
  | [], _ => Gives.pure (List.Sublist.refl _)
  | x :: r, h => by
    have ih := Gives.sub r fun y hy => h y (List.mem_cons_of_mem _ hy)
    unfold TM.compM
    refine Gives.bind (DL.Gives.noex (h x List.mem_cons_self)) fun k _ => ?_
    cases k with
    | true =>
      rw [if_pos rfl, TM.noex_pure, TM.pure_bind]
      exact Gives.bind ih fun ys q => Gives.pure (q.cons₂ x)
    | false =>
      rw [if_neg (by decide)]
      exact ih.imp fun ys q => q.cons x
theorem nats_inc : ∀ n : Nat, n ≤ 4 → ((List.range n).map fun (k : Nat) => (k : Int)).Pairwise (· < ·) := by decide
theorem paired_bin {α : Type} {xs : List α} {ys : List Int} (h : Paired (fun _ (y : Int) => 0 ≤ y ∧ y < 2) xs ys) : ys.length = xs.length ∧ Bin ys := by
  induction h with
  | nil => exact ⟨rfl, fun x hx => nomatch hx⟩
  | cons h1 _ ih =>
    refine ⟨by rw [List.length_cons, List.length_cons, ih.1], fun x hx => ?_⟩
    rcases List.mem_cons.mp hx with e | e
    · rw [e]; omega
    · exact ih.2 x e
theorem bin_app {u v : List Int} (h1 : Bin u) (h2 : Bin v) : Bin (u ++ v) := fun x hx => (List.mem_append.mp hx).elim (h1 x) (h2 x)
theorem rule_gives {m : Nat} (hn : m + 1 ≤ 4) : Gives (t__law_rule ((m + 1 : Nat) : Int)) (RuleOk (m + 1)) DI := by
  have p16 := pow_le16 (n := m) (by omega)
  have e2 : 2 ^ (m + 1) = 2 ^ m + 2 ^ m := by rw [Nat.pow_succ]; omega
  unfold t__law_rule
  rw [two_t hn, TM.pure_bind, rngT_w (by omega), TM.lift_some, TM.pure_bind]
  refine Gives.bind (Gives.compL (P := fun _ (y : Int) => 0 ≤ y ∧ y < 2) (by rw [List.length_map, List.length_range]; omega) fun x _ => take_gives (by decide) (by decide)) fun xs hx => ?_
  obtain ⟨l1, b1⟩ := paired_bin hx
  rw [List.length_map, List.length_range] at l1
  refine Gives.bind (P := fun _ => True) (Gives.bind (take_gives (by decide) (by decide)) fun c _ => Gives.pure trivial) fun k _ => ?_
  cases k with
  | true =>
    rw [if_pos rfl, TM.compV_map (by omega), TM.pure_bind, catT_ok (by rw [List.length_map]; omega), TM.lift_some, TM.pure_bind]
    refine Gives.pure ⟨by rw [List.length_append, List.length_map]; omega, bin_app b1 fun y hy => ?_⟩
    obtain ⟨x, hx, rfl⟩ := List.mem_map.mp hy
    rcases b1 x hx with e | e <;> rw [e] <;> simp
  | false =>
    rw [if_neg (by decide)]
    refine Gives.bind (P := fun ys => RuleOk (m + 1) ys) (Gives.bind (Gives.compL (P := fun _ (y : Int) => 0 ≤ y ∧ y < 2) (by omega) fun x _ => take_gives (by decide) (by decide)) fun ys hy => ?_) fun ys h => Gives.pure h
    obtain ⟨l2, b2⟩ := paired_bin hy
    rw [catT_ok (by omega), TM.lift_some]
    exact Gives.pure ⟨by rw [List.length_append]; omega, bin_app b1 b2⟩
end Lw

/-! T66k: full and wide rules: plain mathematics. -/
namespace Lw
open PySem PySem.Spec L2 DL

theorem le_sumN : ∀ {l : List Nat} {a : Nat}, a ∈ l → a ≤ l.sum
  | [], _, h => nomatch h
  | x :: t, a, h => by
    rw [List.sum_cons]
    rcases List.mem_cons.mp h with e | e
    · omega
    · have := le_sumN e
      omega
theorem one_of_sum {l : List Nat} {a N : Nat} (pos : ∀ x ∈ l, 0 < x) (ha : a ∈ l) (h1 : N ≤ a) (h2 : l.sum ≤ N) : l = [N] := by
  match l with
  | [] => cases ha
  | x :: t =>
    have px := pos x List.mem_cons_self
    rw [List.sum_cons] at h2
    rcases List.mem_cons.mp ha with e | e
    · match t with
      | [] => rw [show x = N by rw [List.sum_nil] at h2; omega]
      | y :: t' =>
        have py := pos y (List.mem_cons_of_mem _ List.mem_cons_self)
        rw [List.sum_cons] at h2
        omega
    · have := le_sumN e
      omega
def zs (n : Nat) : List Int := List.replicate n 0
/-- no return to x ahead of N turns -/
def noRet (f : List Int → List Int) (x : List Int) (N : Nat) : Bool := (List.range (N - 1)).all fun k => !decide (orb f x (k + 1) = x)
def fq (m : Nat) (rule : List Int) : Bool := tnB m rule && noRet (nxt rule) (zs (m + 1)) (2 ^ (m + 1))
def w1 (m : Nat) : List Int := List.replicate m 0 ++ [1]
def wq (m : Nat) (rule : List Int) : Bool := decide (orb (nxt rule) (w1 m) (2 ^ (m + 1) - 1) = w1 m) && (noRet (nxt rule) (w1 m) (2 ^ (m + 1) - 1) && (List.range (2 ^ (m + 1) - 1)).all fun k => !decide (orb (nxt rule) (w1 m) k = zs (m + 1)))
theorem noRet_of {f : List Int → List Int} {x : List Int} {d : Nat} (T : Turn f x 0 d) : noRet f x d = true := by
  unfold noRet
  rw [List.all_eq_true]
  intro k hk
  have hk := List.mem_range.mp hk
  rw [Bool.not_eq_true', decide_eq_false_iff_not]
  intro c
  exact T.ne 0 (k + 1) (by omega) (by omega) c.symm
theorem noRet_le {f : List Int → List Int} {x : List Int} {d N : Nat} (T : Turn f x 0 d) (h : noRet f x N = true) : N ≤ d := by
  rcases Nat.lt_or_ge d N with q | q
  · unfold noRet at h
    rw [List.all_eq_true] at h
    have dp := T.pos
    have := h (d - 1) (List.mem_range.mpr (by omega))
    rw [Bool.not_eq_true', decide_eq_false_iff_not, show d - 1 + 1 = d by omega] at this
    have b := T.back
    rw [Nat.zero_add] at b
    exact absurd b this
  · exact q
theorem orbL_len {f : List Int → List Int} {x : List Int} {d : Nat} : (orbL f x d).length = d := by
  unfold orbL
  rw [List.length_map, List.length_range]
section
variable {m : Nat} {rule : List Int}
theorem sum_nat (hn : m + 1 ≤ 4) (R : RuleOk (m + 1) rule) : ((RG (m + 1) rule).map List.length).sum = 2 ^ (m + 1) ↔ tnB m rule = true := by
  have h := sum_tn hn R
  have cast : ∀ l : List (List (List Int)), (l.map fun r => (r.length : Int)).sum = (((l.map List.length).sum : Nat) : Int) := by
    intro l
    induction l with
    | nil => rfl
    | cons r l ih => rw [List.map_cons, List.sum_cons, ih, List.map_cons, List.sum_cons, Int.natCast_add]
  rw [cast] at h
  rw [← h, decide_eq_true_iff]
  have e2 : 2 ^ (m + 1) = 2 * 2 ^ m := by rw [Nat.pow_succ]; omega
  rw [e2]
  omega
theorem sum_le (hn : m + 1 ≤ 4) (R : RuleOk (m + 1) rule) : ((RG (m + 1) rule).map List.length).sum ≤ 2 ^ (m + 1) := by
  rw [(RG_rings (n := m + 1) (by omega) R).count (allR_nd (by omega)) (nxt_ok (by omega) R.bin)]
  exact Nat.le_trans (List.length_filter_le _ _) (Nat.le_of_eq (allR_len _))
theorem zs_in (n : Nat) : zs n ∈ allR n := allR_mem _ _ List.length_replicate fun x hx => .inl (List.eq_of_mem_replicate hx)
theorem w1_in (m : Nat) : w1 m ∈ allR (m + 1) := allR_mem _ _ (by unfold w1; rw [List.length_append, List.length_replicate]; rfl) fun x hx => by
  rcases List.mem_append.mp hx with q | q
  · exact .inl (List.eq_of_mem_replicate q)
  · exact .inr (List.mem_singleton.mp q)
theorem w1_ne (m : Nat) : w1 m ≠ zs (m + 1) := fun e => by
  have : (1 : Int) ∈ zs (m + 1) := by rw [← e]; exact List.mem_append.mpr (.inr List.mem_cons_self)
  exact absurd (List.eq_of_mem_replicate this) (by decide)
theorem ring_pos (R : RuleOk (m + 1) rule) : ∀ x ∈ (RG (m + 1) rule).map List.length, 0 < x := fun x hx => by
  obtain ⟨r, hr, rfl⟩ := List.mem_map.mp hx
  obtain ⟨x, d, _, T, p⟩ := (RG_rings (n := m + 1) (by omega) R).is r hr
  rw [p.length_eq, orbL_len]
  exact T.pos
/-- the ring on which x is -/
theorem ring_at (R : RuleOk (m + 1) rule) {x : List Int} (hx : x ∈ allR (m + 1)) {d : Nat} (T : Turn (nxt rule) x 0 d) : ∃ r ∈ RG (m + 1) rule, r.Perm (orbL (nxt rule) x d) := by
  have Rg := RG_rings (n := m + 1) (by omega) R
  obtain ⟨r, hr, hz⟩ := Rg.all _ hx ⟨d, T⟩
  obtain ⟨y, d', hy, T', p⟩ := Rg.is r hr
  obtain ⟨S, q⟩ := ring_perm T' (p.mem_iff.mp hz)
  obtain ⟨_, e⟩ := S.one T
  subst e
  exact ⟨r, hr, p.trans q.symm⟩
theorem ring_of_mem (R : RuleOk (m + 1) rule) {r : List (List Int)} (hr : r ∈ RG (m + 1) rule) {x : List Int} (hx : x ∈ r) : ∃ d, Turn (nxt rule) x 0 d ∧ r.Perm (orbL (nxt rule) x d) := by
  obtain ⟨y, d, hy, T, p⟩ := (RG_rings (n := m + 1) (by omega) R).is r hr
  obtain ⟨S, q⟩ := ring_perm T (p.mem_iff.mp hx)
  exact ⟨d, S, p.trans q.symm⟩
theorem full_iff (hn : m + 1 ≤ 4) (R : RuleOk (m + 1) rule) : (RG (m + 1) rule).map List.length = [2 ^ (m + 1)] ↔ fq m rule = true := by
  have cl := nxt_ok (n := m + 1) (by omega) R.bin
  have nd := allR_nd (n := m + 1) (by omega)
  have Rg := RG_rings (n := m + 1) (by omega) R
  have cyc : ((RG (m + 1) rule).map List.length).sum = 2 ^ (m + 1) → ∃ d, Turn (nxt rule) (zs (m + 1)) 0 d := fun h =>
    (cy_all nd cl).mpr ((Rg.full nd cl).mp (by rw [h, allR_len])) _ (zs_in _)
  constructor
  · intro h
    have hs : ((RG (m + 1) rule).map List.length).sum = 2 ^ (m + 1) := by rw [h, List.sum_cons, List.sum_nil, Nat.add_zero]
    have tn := (sum_nat hn R).mp hs
    obtain ⟨d, T⟩ := cyc hs
    obtain ⟨r, hr, p⟩ := ring_at R (zs_in _) T
    have lr : r.length = 2 ^ (m + 1) := by
      have : r.length ∈ (RG (m + 1) rule).map List.length := List.mem_map.mpr ⟨r, hr, rfl⟩
      rw [h] at this
      exact List.mem_singleton.mp this
    have e : d = 2 ^ (m + 1) := by rw [← lr, p.length_eq, orbL_len]
    subst e
    unfold fq
    rw [tn, noRet_of T]
    rfl
  · intro h
    unfold fq at h
    rw [Bool.and_eq_true] at h
    obtain ⟨tn, h⟩ := h
    obtain ⟨d, T⟩ := cyc ((sum_nat hn R).mpr tn)
    obtain ⟨r, hr, p⟩ := ring_at R (zs_in _) T
    have lr : r.length = d := by rw [p.length_eq, orbL_len]
    refine one_of_sum (a := r.length) (ring_pos R) (List.mem_map.mpr ⟨r, hr, rfl⟩) ?_ (sum_le hn R)
    rw [lr]
    exact noRet_le T h
/-- by the first ring -/
theorem full_head (hn : m + 1 ≤ 4) (R : RuleOk (m + 1) rule) : ∃ r l, RG (m + 1) rule = r :: l ∧ decide (r.length = 2 ^ (m + 1)) = fq m rule := by
  obtain ⟨r, l, e⟩ := RG_ne hn R
  refine ⟨r, l, e, ?_⟩
  rw [Bool.eq_iff_iff, decide_eq_true_iff, ← full_iff hn R]
  constructor
  · intro h
    refine one_of_sum (a := r.length) (ring_pos R) (List.mem_map.mpr ⟨r, by rw [e]; exact List.mem_cons_self, rfl⟩) (Nat.le_of_eq h.symm) (sum_le hn R)
  · intro h
    rw [e, List.map_cons] at h
    injection h
/-- by turnable and one ring -/
theorem full_one (hn : m + 1 ≤ 4) (R : RuleOk (m + 1) rule) : (tnB m rule && decide ((RG (m + 1) rule).length = 1)) = fq m rule := by
  rw [Bool.eq_iff_iff, Bool.and_eq_true, decide_eq_true_iff, ← full_iff hn R, ← sum_nat hn R]
  constructor
  · rintro ⟨h1, h2⟩
    match e : RG (m + 1) rule, h2 with
    | [r], _ =>
      rw [e, List.map_cons, List.map_nil, List.sum_cons, List.sum_nil, Nat.add_zero] at h1
      rw [List.map_cons, List.map_nil, h1]
  · intro h
    refine ⟨by rw [h, List.sum_cons, List.sum_nil, Nat.add_zero], ?_⟩
    have := congrArg List.length h
    rw [List.length_map] at this
    exact this
theorem wide_iff (hn : m + 1 ≤ 4) (R : RuleOk (m + 1) rule) : ((RG (m + 1) rule).map (wdR m)).any id = wq m rule := by
  have cl := nxt_ok (n := m + 1) (by omega) R.bin
  have Rg := RG_rings (n := m + 1) (by omega) R
  have e2 : 2 ^ (m + 1) = 2 * 2 ^ m := by rw [Nat.pow_succ]; omega
  have p0 := Nat.two_pow_pos m
  have wd : ∀ y : List (List Int), wdR m y = true ↔ y.length = 2 ^ (m + 1) - 1 ∧ zs (m + 1) ∉ y := fun y => by
    unfold wdR
    by_cases c : (y.length : Int) = 2 * ((2 ^ m : Nat) : Int) - 1
    · rw [decide_eq_true c, if_pos rfl]
      by_cases q : zs (m + 1) ∈ y
      · rw [memT_true (show List.replicate (m + 1) (0 : Int) ∈ y from q)]
        exact ⟨fun z => (nomatch z), fun z => absurd q z.2⟩
      · rw [memT_false (show ¬ List.replicate (m + 1) (0 : Int) ∈ y from q)]
        exact ⟨fun _ => ⟨by omega, q⟩, fun _ => rfl⟩
    · rw [decide_eq_false c, if_neg (by decide)]
      exact ⟨fun z => (nomatch z), fun z => absurd (by omega) c⟩
  rw [Bool.eq_iff_iff, List.any_map, List.any_eq_true]
  constructor
  · rintro ⟨r, hr, h⟩
    obtain ⟨lr, hz⟩ := (wd r).mp h
    have nr : r.Nodup := by
      obtain ⟨x, d, _, T, p⟩ := Rg.is r hr
      exact p.nodup_iff.mpr (ring_nd T)
    have sub : ∀ z ∈ r, z ∈ allR (m + 1) := fun z hz => by
      obtain ⟨x, d, hx, T, p⟩ := Rg.is r hr
      obtain ⟨k, _, rfl⟩ := orbL_mem.mp (p.mem_iff.mp hz)
      exact orb_in cl hx k
    have hw : w1 m ∈ r := by
      refine Classical.byContradiction fun hw => ?_
      have q := nodup_lenG (l := w1 m :: zs (m + 1) :: r) (m := allR (m + 1)) (List.nodup_cons.mpr ⟨fun z => by
        rcases List.mem_cons.mp z with e | e
        · exact w1_ne m e
        · exact hw e, List.nodup_cons.mpr ⟨hz, nr⟩⟩) fun z hz => by
        rcases List.mem_cons.mp hz with e | e
        · rw [e]; exact w1_in m
        · rcases List.mem_cons.mp e with e | e
          · rw [e]; exact zs_in _
          · exact sub z e
      rw [allR_len, List.length_cons, List.length_cons] at q
      omega
    obtain ⟨d, T, p⟩ := ring_of_mem R hr hw
    have e : d = 2 ^ (m + 1) - 1 := by rw [← lr, p.length_eq, orbL_len]
    subst e
    unfold wq
    have b := T.back
    rw [Nat.zero_add] at b
    rw [decide_eq_true (show orb (nxt rule) (w1 m) (2 ^ (m + 1) - 1) = w1 m from b), noRet_of T, Bool.true_and, Bool.true_and, List.all_eq_true]
    intro k hk
    have hk := List.mem_range.mp hk
    rw [Bool.not_eq_true', decide_eq_false_iff_not]
    intro c
    exact hz (p.mem_iff.mpr (orbL_mem.mpr ⟨k, hk, c⟩))
  · intro h
    unfold wq at h
    rw [Bool.and_eq_true, Bool.and_eq_true, decide_eq_true_iff, List.all_eq_true] at h
    obtain ⟨h1, h2, h3⟩ := h
    obtain ⟨i, d, T, _⟩ := turn_in cl (w1_in m)
    obtain ⟨hi, k, hk⟩ := T.eq (a := 0) (c := 2 ^ (m + 1) - 1) (by omega) h1.symm
    have i0 : i = 0 := by omega
    subst i0
    have ge := noRet_le T h2
    have e : d = 2 ^ (m + 1) - 1 := by
      cases k with
      | zero => rw [Nat.mul_zero] at hk; omega
      | succ k =>
        rw [Nat.mul_succ] at hk
        have : 0 ≤ d * k := Nat.zero_le _
        omega
    subst e
    obtain ⟨r, hr, p⟩ := ring_at R (w1_in m) T
    refine ⟨r, hr, (wd r).mpr ⟨by rw [p.length_eq, orbL_len], fun hz => ?_⟩⟩
    obtain ⟨k, hk, c⟩ := orbL_mem.mp (p.mem_iff.mp hz)
    have := h3 k (List.mem_range.mpr hk)
    rw [Bool.not_eq_true', decide_eq_false_iff_not] at this
    exact this c
end
end Lw

/-! T66l: full rules typed. -/
namespace Lw
open PySem PySem.Spec L2 DL

theorem twoN_t : ∀ n : Nat, n ≤ 4 → t__law_two (n : Int) = TM.pure ((2 ^ n : Nat) : Int)
  | 0, _ => by kernel_rfl
  | 1, _ => by kernel_rfl
  | 2, _ => by kernel_rfl
  | 3, _ => by kernel_rfl
  | 4, _ => by kernel_rfl
  | _ + 5, h => absurd h (by omega)
theorem rows8_t : ∀ m : Nat, m ≤ 2 → t__law_rows ((2 ^ (m + 1) : Nat) : Int) = TM.pure (allR (2 ^ (m + 1)))
  | 0, _ => law_rows_t 2 (by decide)
  | 1, _ => law_rows_t 4 (by decide)
  | 2, _ => by kernel_rfl
  | _ + 3, h => absurd h (by omega)
theorem words8_t : ∀ m : Nat, m ≤ 2 → t_all_words ((2 ^ (m + 1) : Nat) : Int) = TM.pure (allR (2 ^ (m + 1)))
  | 0, _ => all_words_t 2 (by decide)
  | 1, _ => all_words_t 4 (by decide)
  | 2, _ => by kernel_rfl
  | _ + 3, h => absurd h (by omega)
theorem rule_in {n : Nat} {rule : List Int} : rule ∈ allR (2 ^ n) ↔ RuleOk n rule :=
  ⟨fun h => ⟨(allR_ok _ _ h).1, (allR_ok _ _ h).2⟩, fun h => allR_mem _ _ h.len h.bin⟩
section
variable {m : Nat} {rule : List Int}
theorem found_tn_t (hn : m + 1 ≤ 4) (R : RuleOk (m + 1) rule) : t_found_turnable ((m + 1 : Nat) : Int) rule = TM.pure (tnB m rule) := by
  have p16 := pow_le16 (n := m) (by omega)
  unfold t_found_turnable
  rw [pred_cast, power_t (by omega), TM.pure_bind, rngT_w (by omega), TM.lift_some, TM.pure_bind, pairs_t hn R, TM.pure_bind, all_tn]
theorem full_t (hn : m + 1 ≤ 4) (R : RuleOk (m + 1) rule) : t_is_full_rule (PyData.int ((m + 1 : Nat) : Int)) ((eT PyData.int) rule) = TM.pure (fq m rule) := by
  obtain ⟨r, l, e, hf⟩ := full_head hn R
  have a : atI (RG (m + 1) rule) 0 = some r := by rw [e]; exact atI_nat (by omega) rfl
  unfold t_is_full_rule
  rw [check_rule_t hn (by omega) R, TM.pure_bind, show asI (PyData.int ((m + 1 : Nat) : Int)) = some ((m + 1 : Nat) : Int) from rfl]
  simp only [TM.lift_some, TM.pure_bind, asT_row]
  rw [found_RG hn (by omega) R]
  simp only [TM.lift_some, TM.pure_bind, a]
  rw [power_t hn]
  simp only [TM.pure_bind]
  rw [← hf]
  congr 1
  exact decide_eq_decide.mpr (by omega)
theorem num3_t : ∀ m : Nat, m ≤ 2 → t_check_number (PyData.int ((m + 1 : Nat) : Int)) 3 = TM.pure ()
  | 0, _ => by kernel_rfl
  | 1, _ => by kernel_rfl
  | 2, _ => by kernel_rfl
  | _ + 3, h => absurd h (by omega)
theorem len8 : ∀ m : Nat, m ≤ 2 → 2 ^ 2 ^ (m + 1) ≤ 256 := by decide
/-- the full rules -/
def FU (m : Nat) : List (List Int) := (allR (2 ^ (m + 1))).filter (fq m)
theorem full_rules_t (h : m ≤ 2) : t_full_rules (PyData.int ((m + 1 : Nat) : Int)) = TM.pure (FU m) := by
  have l8 := len8 m h
  have al := allR_len (2 ^ (m + 1))
  unfold t_full_rules
  rw [num3_t m h, TM.pure_bind, show asI (PyData.int ((m + 1 : Nat) : Int)) = some ((m + 1 : Nat) : Int) from rfl, TM.lift_some, TM.pure_bind, power_t (by omega), TM.pure_bind, words8_t m h, TM.pure_bind]
  have e := TM.forT_eq (f := t_full_rules_f1 (PyData.int ((m + 1 : Nat) : Int))) (fun j => ((allR (2 ^ (m + 1))).take j).filter (fq m)) (allR (2 ^ (m + 1))) 0 fun j w hw => by
    rw [Nat.zero_add]
    have R : RuleOk (m + 1) w := rule_in.mp (List.mem_of_getElem? hw)
    have tk : (allR (2 ^ (m + 1))).take (j + 1) = (allR (2 ^ (m + 1))).take j ++ [w] := by rw [List.take_add_one, hw]; rfl
    have fl := List.length_filter_le (fq m) ((allR (2 ^ (m + 1))).take j)
    rw [List.length_take] at fl
    have cnd : (if tnB m w then TM.pure (decide (((RG (m + 1) w).length : Int) = 1)) else TM.pure false) = TM.pure (fq m w) := by
      rw [← full_one (by omega) R]
      cases tnB m w with
      | false => rfl
      | true =>
        rw [if_pos rfl, Bool.true_and]
        congr 1
        exact decide_eq_decide.mpr (by omega)
    unfold t_full_rules_f1
    rw [show asI (PyData.int ((m + 1 : Nat) : Int)) = some ((m + 1 : Nat) : Int) from rfl]
    simp only [TM.lift_some, TM.pure_bind]
    rw [found_tn_t (by omega) R]
    simp only [TM.pure_bind]
    rw [found_RG (by omega) (by omega) R]
    simp only [TM.pure_bind]
    rw [cnd]
    simp only [TM.pure_bind]
    rw [tk, List.filter_append]
    cases c : fq m w with
    | true => rw [if_pos rfl, appT_ok (by omega), TM.lift_some, TM.pure_bind, List.filter_cons, if_pos c, List.filter_nil]
    | false => rw [if_neg (by decide), List.filter_cons, if_neg (by rw [c]; decide), List.filter_nil, List.append_nil]
  rw [Nat.zero_add, List.take_length] at e
  have e : TM.forT (t_full_rules_f1 (PyData.int ((m + 1 : Nat) : Int))) (allR (2 ^ (m + 1))) [] = TM.pure (FU m) := e
  rw [e, TM.pure_bind]
theorem due_t (h : m ≤ 2) : (((t__law_two ((m + 1 : Nat) : Int)).bind fun c3 => (t__law_rows c3)).bind fun z11 => TM.compL (fun y4 => (((t__law_rings ((m + 1 : Nat) : Int) y4).bind fun z6 => TM.compV (fun y5 => true) (fun y5 => (y5.length : Int)) z6).bind fun c9 => (((t__law_two ((m + 1 : Nat) : Int)).bind fun c8 => TM.pure [c8]).bind fun c10 => TM.pure (decide (c9 = c10))))) (fun y4 => (TM.pure y4)) z11) = TM.pure (FU m) := by
  have l8 := len8 m h
  have al := allR_len (2 ^ (m + 1))
  rw [twoN_t _ (by omega), TM.pure_bind, rows8_t m h, TM.pure_bind, TM.compL_pure (p' := fq m) (g' := fun y => y) (by omega) (fun w hw => by
    have R : RuleOk (m + 1) w := rule_in.mp hw
    have rl := RG_len (by omega) R
    rw [law_RG (by omega) (by omega) R, TM.pure_bind, TM.compV_map (by omega), TM.pure_bind, TM.pure_bind, TM.pure_bind]
    congr 1
    rw [Bool.eq_iff_iff, decide_eq_true_iff, ← full_iff (by omega) R]
    have cast : (RG (m + 1) w).map (fun r => (r.length : Int)) = ((RG (m + 1) w).map List.length).map fun (k : Nat) => (k : Int) := by rw [List.map_map]; rfl
    rw [cast]
    constructor
    · intro q
      have q := congrArg (List.map Int.toNat) q
      rw [List.map_map, show (Int.toNat ∘ fun (k : Nat) => (k : Int)) = id from funext fun k => Int.toNat_natCast k, List.map_id] at q
      exact q
    · intro q
      rw [q]
      rfl) (fun w _ _ => rfl), List.map_id']
  rfl
theorem FU_len : ∀ m : Nat, m ≤ 2 → atI [(1 : Int), (1 : Int), (2 : Int)] (((m + 1 : Nat) : Int) - (1 : Int)) = some ((FU m).length : Int) := by decide +kernel
theorem FU_cost : ∀ m : Nat, m ≤ 2 → cost (eT (eT PyData.int) (FU m)) ≤ 10000000 := by decide +kernel
/-- the wide ones -/
def WI (m : Nat) : List (List Int) := (plR (m + 1)).filter fun p => wq m (smR (m + 1) p)
theorem WI_len : ∀ m : Nat, m ≤ 3 → atI [(1 : Int), (1 : Int), (2 : Int), (2 : Int)] (((m + 1 : Nat) : Int) - (1 : Int)) = some ((WI m).length : Int) := by decide +kernel
theorem plR_ok : ∀ n : Nat, n ≤ 4 → ∀ p ∈ plR n, PlOk n p := fun n hn p hp => by
  have h : ∀ n : Nat, n ≤ 4 → ∀ p ∈ plR n, p.Pairwise (· < ·) := by decide +kernel
  obtain ⟨h1, h2⟩ := plR_in n hn p hp
  exact ⟨h2, h n hn p hp, by omega⟩
theorem plR_srt : ∀ n : Nat, n ≤ 4 → ∀ p ∈ plR n, srtT PyData.int p = some p := by decide +kernel
theorem wide_sum (hn : m + 1 ≤ 4) {p : List Int} (hp : p ∈ plR (m + 1)) : ((((((TM.lift (srtT PyData.int p)).bind fun c36 => TM.pure c36).bind fun x => TM.pure ((eT PyData.int) x)).bind fun c37 => (t_linear_rule (PyData.int ((m + 1 : Nat) : Int)) c37)).bind fun x => TM.pure ((eT PyData.int) x)).bind fun c38 => (t_is_wide (PyData.int ((m + 1 : Nat) : Int)) c38)) = TM.pure (wq m (smR (m + 1) p)) := by
  have R := smR_ok (m + 1) p
  rw [plR_srt _ hn p hp]
  simp only [TM.lift_some, TM.pure_bind]
  rw [linear_t hn (by omega) (plR_ok _ hn p hp)]
  simp only [TM.pure_bind]
  rw [wide_t hn R]
  unfold wdB
  rw [decide_eq_true (List.mem_map.mpr ⟨p, hp, rfl⟩), if_pos rfl, wide_iff hn R]
end
theorem repr_same {d : PyData} (h1 : isSeq d = true) (h2 : cost d ≤ 10000000) (h3 : d.depth ≤ 60) :
    (((TM.lift (reprT d)).bind fun x => TM.pure (PyData.str x)).bind fun c10 => ((TM.lift (reprT d)).bind fun x => TM.pure (PyData.str x)).bind fun c11 => TM.lift (neA c10 c11)) = TM.pure false := by
  obtain ⟨r1, r2⟩ := fRepr_ok h1 h2 h3
  rw [o_repr] at r1
  obtain ⟨s, e1, e2⟩ := Option.map_eq_some_iff.mp r1
  rw [e1]
  simp only [TM.lift_some, TM.pure_bind]
  have e2 : s = d.shown := by injection e2
  rw [e2]
  unfold neA
  rw [r2, eqv_str]
  rfl
theorem lap_gives {m : Nat} (h : m ≤ 2) (l : Unit) (y : Int) : Gives (t_law_f2 ((m + 1 : Nat) : Int) (FU m) l y) (fun o => ∃ l', o = .inl l' ∧ True) DI := by
  unfold t_law_f2
  refine Gives.bind (rule_gives (by omega)) fun rule R => ?_
  refine Gives.of_eq (t' := TM.pure (.inl ())) ?_ (Gives.pure ⟨(), rfl, trivial⟩)
  have e : memT rule (FU m) = fq m rule := by
    have hm := rule_in.mpr R
    cases c : fq m rule with
    | true => exact memT_true (List.mem_filter.mpr ⟨hm, c⟩)
    | false =>
      refine memT_false fun z => ?_
      have z2 := (List.mem_filter.mp z).2
      rw [c] at z2
      exact Bool.false_ne_true z2
  rw [full_t (by omega) R, TM.pure_bind, TM.pure_bind, e, decide_eq_true rfl]
  rfl
theorem every_f {n : Nat} (hn : n ≤ 4) : TM.forT t_law_f1 ((List.range n).map fun (k : Nat) => (k : Int)) [([] : (List Int))] = TM.pure (plR n) := by
  have h := every_t _ hn
  rw [rngT_w (by omega), TM.lift_some, TM.pure_bind] at h
  exact h
theorem law_gives : Gives t_law (fun k => k = true) DI := by
  unfold t_law
  refine Gives.bind (P := fun x => ∃ m : Nat, m ≤ 2 ∧ x = ((m + 1 : Nat) : Int)) (Gives.bind (take_gives (by decide) (by decide)) fun c hc => Gives.pure ⟨c.toNat, by omega, by omega⟩) fun x2 ⟨m, hm, e4⟩ => ?_
  subst e4
  have fl : (FU m).length ≤ 2 := by
    have : ∀ m : Nat, m ≤ 2 → (FU m).length ≤ 2 := by decide +kernel
    exact this m hm
  rw [due_t hm, TM.pure_bind, full_rules_t hm, TM.pure_bind, repr_same rfl (FU_cost m hm) (Nat.le_trans ((eqE_T (eqE_T eqE_int)).dep _) (by decide)), TM.pure_bind, if_neg (by decide), FU_len m hm, TM.lift_some, TM.pure_bind, decide_eq_true rfl, TM.pure_bind, if_neg (by decide), TM.compL_map (g' := fun _ => true) (by omega) fun w hw => by
    obtain ⟨h1, h2⟩ := List.mem_filter.mp hw
    rw [full_t (by omega) (rule_in.mp h1), h2], TM.pure_bind, TM.pure_bind]
  have a1 : ((FU m).map fun _ => true).all id = true := by
    rw [List.all_eq_true]
    intro c hc
    obtain ⟨_, _, rfl⟩ := List.mem_map.mp hc
    rfl
  rw [a1, TM.pure_bind, if_neg (by decide), show rngT 0 (6 : Int) = some ((List.range 6).map fun (k : Nat) => (k : Int)) from rngT_w (n := 6) (by decide), TM.lift_some, TM.pure_bind]
  refine Gives.bindB (P := fun _ => True) (Gives.forB (J := fun _ _ => True) _ 0 () (fun i x l _ _ => lap_gives hm l x) trivial) fun l _ => ?_
  refine Gives.bind (P := fun x => ∃ m : Nat, m ≤ 3 ∧ x = (((m + 1 : Nat) : Int), [([] : (List Int))])) (Gives.bind (P := fun x => ∃ m : Nat, m ≤ 3 ∧ x = ((m + 1 : Nat) : Int)) (Gives.bind (take_gives (by decide) (by decide)) fun c hc => Gives.pure ⟨c.toNat, by omega, by omega⟩) fun x ⟨m, hm, e⟩ => Gives.pure ⟨m, hm, by rw [e]⟩) fun x ⟨q, hq, e⟩ => ?_
  subst e
  refine Gives.of_eq (t' := TM.pure true) ?_ (Gives.pure rfl)
  dsimp only
  have pl := plR_len (q + 1) (by omega)
  rw [rngT_w (by omega), TM.lift_some, TM.pure_bind, every_f (by omega), TM.pure_bind, TM.compL_pure (p' := fun p => wq q (smR (q + 1) p)) (g' := fun y => y) (by omega) (fun p hp => wide_sum (by omega) hp) (fun p _ _ => rfl), List.map_id', TM.pure_bind]
  rw [WI_len q hq, TM.lift_some, TM.pure_bind]
  rw [decide_eq_true (show (((plR (q + 1)).filter fun p => wq q (smR (q + 1) p)).length : Int) = ((WI q).length : Int) from rfl), TM.pure_bind, if_neg (by decide)]
  kernel_rfl
theorem ans (ns : List Int) (hn : ns.length ≤ 63) : f_law [.scr ns] none = some (.ok (.bool true), none) := by
  unfold f_law
  rw [law_rest]
  exact law_fin hn (r_law ns) law_gives
end Lw

/-! Wk66: the walk. -/
namespace Lw
open PySem PySem.Spec L2 DL
open PyProof.Rows hiding St

def topS (i : Nat) : Stmt := PySem.Challenge.pw_boxkinds_k66_rules_with_one_ring.main.body.getD i (.Pass ⟨0, 0, 0, 0⟩)
abbrev s__law_draw : Stmt := topS 28
theorem sc__law_draw : FnScope ["script", "seed", "cell"] ["script"] (defScope s__law_draw) := ⟨rfl, rfl, rfl, by decide +kernel, rfl, by decide +kernel, by decide +kernel⟩
abbrev s__law_take : Stmt := topS 29
theorem sc__law_take : FnScope ["draw", "many", "found"] ["draw", "many"] (defScope s__law_take) := ⟨rfl, rfl, rfl, by decide +kernel, rfl, by decide +kernel, by decide +kernel⟩
abbrev s__law_two : Stmt := topS 32
theorem sc__law_two : FnScope ["n"] ["n"] (defScope s__law_two) := ⟨rfl, rfl, rfl, by decide +kernel, rfl, by decide +kernel, by decide +kernel⟩
abbrev s__law_rule : Stmt := topS 31
theorem sc__law_rule : FnScope ["draw", "n", "half", "k", "sign"] ["draw", "n"] (defScope s__law_rule) := ⟨rfl, rfl, rfl, by decide +kernel, rfl, by decide +kernel, by decide +kernel⟩
abbrev s__law_rows : Stmt := topS 30
theorem sc__law_rows : FnScope ["length", "found", "turn", "row"] ["length"] (defScope s__law_rows) := ⟨rfl, rfl, rfl, by decide +kernel, rfl, by decide +kernel, by decide +kernel⟩
abbrev s_is_whole : Stmt := topS 4
theorem sc_is_whole : FnScope ["value"] ["value"] (defScope s_is_whole) := ⟨rfl, rfl, rfl, by decide +kernel, rfl, by decide +kernel, by decide +kernel⟩
abbrev s_is_number : Stmt := topS 9
theorem sc_is_number : FnScope ["n", "most"] ["n", "most"] (defScope s_is_number) := ⟨rfl, rfl, rfl, by decide +kernel, rfl, by decide +kernel, by decide +kernel⟩
abbrev s_check_number : Stmt := topS 12
theorem sc_check_number : FnScope ["n", "most"] ["n", "most"] (defScope s_check_number) := ⟨rfl, rfl, rfl, by decide +kernel, rfl, by decide +kernel, by decide +kernel⟩
abbrev s_are_signs : Stmt := topS 10
theorem sc_are_signs : FnScope ["value", "sign"] ["value"] (defScope s_are_signs) := ⟨rfl, rfl, rfl, by decide +kernel, rfl, by decide +kernel, by decide +kernel⟩
abbrev s_power_of_two : Stmt := topS 11
theorem sc_power_of_two : FnScope ["n"] ["n"] (defScope s_power_of_two) := ⟨rfl, rfl, rfl, by decide +kernel, rfl, by decide +kernel, by decide +kernel⟩
abbrev s_is_rule : Stmt := topS 13
theorem sc_is_rule : FnScope ["n", "value"] ["n", "value"] (defScope s_is_rule) := ⟨rfl, rfl, rfl, by decide +kernel, rfl, by decide +kernel, by decide +kernel⟩
abbrev s_check_rule : Stmt := topS 14
theorem sc_check_rule : FnScope ["n", "rule"] ["n", "rule"] (defScope s_check_rule) := ⟨rfl, rfl, rfl, by decide +kernel, rfl, by decide +kernel, by decide +kernel⟩
abbrev s_all_words : Stmt := topS 15
theorem sc_all_words : FnScope ["n", "found", "_", "word", "sign"] ["n"] (defScope s_all_words) := ⟨rfl, rfl, rfl, by decide +kernel, rfl, by decide +kernel, by decide +kernel⟩
abbrev s_place_of : Stmt := topS 16
theorem sc_place_of : FnScope ["word", "found", "sign"] ["word"] (defScope s_place_of) := ⟨rfl, rfl, rfl, by decide +kernel, rfl, by decide +kernel, by decide +kernel⟩
abbrev s_next_word : Stmt := topS 17
theorem sc_next_word : FnScope ["rule", "word"] ["rule", "word"] (defScope s_next_word) := ⟨rfl, rfl, rfl, by decide +kernel, rfl, by decide +kernel, by decide +kernel⟩
abbrev s_ring_of : Stmt := topS 18
theorem sc_ring_of : FnScope ["rule", "word", "_", "found", "after"] ["rule", "word"] (defScope s_ring_of) := ⟨rfl, rfl, rfl, by decide +kernel, rfl, by decide +kernel, by decide +kernel⟩
abbrev s_found_rings : Stmt := topS 19
theorem sc_found_rings : FnScope ["n", "rule", "word"] ["n", "rule"] (defScope s_found_rings) := ⟨rfl, rfl, rfl, by decide +kernel, rfl, by decide +kernel, by decide +kernel⟩
abbrev s_is_full_rule : Stmt := topS 21
theorem sc_is_full_rule : FnScope ["n", "rule"] ["n", "rule"] (defScope s_is_full_rule) := ⟨rfl, rfl, rfl, by decide +kernel, rfl, by decide +kernel, by decide +kernel⟩
abbrev s_summing : Stmt := topS 22
theorem sc_summing : FnScope ["n", "places", "word", "k"] ["n", "places"] (defScope s_summing) := ⟨rfl, rfl, rfl, by decide +kernel, rfl, by decide +kernel, by decide +kernel⟩
abbrev s_places_of : Stmt := topS 23
theorem sc_places_of : FnScope ["n", "found", "k", "row"] ["n"] (defScope s_places_of) := ⟨rfl, rfl, rfl, by decide +kernel, rfl, by decide +kernel, by decide +kernel⟩
abbrev s_is_wide : Stmt := topS 24
theorem sc_is_wide : FnScope ["n", "rule", "places", "ring"] ["n", "rule"] (defScope s_is_wide) := ⟨rfl, rfl, rfl, by decide +kernel, rfl, by decide +kernel, by decide +kernel⟩
abbrev s_found_turnable : Stmt := topS 20
theorem sc_found_turnable : FnScope ["n", "rule", "half", "k"] ["n", "rule"] (defScope s_found_turnable) := ⟨rfl, rfl, rfl, by decide +kernel, rfl, by decide +kernel, by decide +kernel⟩
abbrev s_full_rules : Stmt := topS 26
theorem sc_full_rules : FnScope ["n", "found", "word"] ["n"] (defScope s_full_rules) := ⟨rfl, rfl, rfl, by decide +kernel, rfl, by decide +kernel, by decide +kernel⟩
abbrev s__law_told : Stmt := topS 35
theorem sc__law_told : FnScope ["n"] ["n"] (defScope s__law_told) := ⟨rfl, rfl, rfl, by decide +kernel, rfl, by decide +kernel, by decide +kernel⟩
abbrev s_linear_rule : Stmt := topS 25
theorem sc_linear_rule : FnScope ["n", "places", "k", "one", "two"] ["n", "places"] (defScope s_linear_rule) := ⟨rfl, rfl, rfl, by decide +kernel, rfl, by decide +kernel, by decide +kernel⟩
abbrev s__law_next : Stmt := topS 33
theorem sc__law_next : FnScope ["rule", "word", "place", "sign"] ["rule", "word"] (defScope s__law_next) := ⟨rfl, rfl, rfl, by decide +kernel, rfl, by decide +kernel, by decide +kernel⟩
abbrev s__law_rings : Stmt := topS 34
theorem sc__law_rings : FnScope ["n", "rule", "found", "word", "row", "after", "turn"] ["n", "rule"] (defScope s__law_rings) := ⟨rfl, rfl, rfl, by decide +kernel, rfl, by decide +kernel, by decide +kernel⟩
abbrev s_law : Stmt := topS 36
theorem sc_law : FnScope ["script", "draw", "n", "due", "turn", "rule", "m", "every", "k", "wide", "ring", "row", "places", "bad"] ["script"] (defScope s_law) := ⟨rfl, rfl, rfl, by decide +kernel, rfl, by decide +kernel, by decide +kernel⟩
structure Ad where
  f__law_draw : Addr
  fd__law_draw : FuncData
  f__law_take : Addr
  fd__law_take : FuncData
  f__law_two : Addr
  fd__law_two : FuncData
  f__law_rule : Addr
  fd__law_rule : FuncData
  f__law_rows : Addr
  fd__law_rows : FuncData
  f_is_whole : Addr
  fd_is_whole : FuncData
  f_is_number : Addr
  fd_is_number : FuncData
  f_check_number : Addr
  fd_check_number : FuncData
  f_are_signs : Addr
  fd_are_signs : FuncData
  f_power_of_two : Addr
  fd_power_of_two : FuncData
  f_is_rule : Addr
  fd_is_rule : FuncData
  f_check_rule : Addr
  fd_check_rule : FuncData
  f_all_words : Addr
  fd_all_words : FuncData
  f_place_of : Addr
  fd_place_of : FuncData
  f_next_word : Addr
  fd_next_word : FuncData
  f_ring_of : Addr
  fd_ring_of : FuncData
  f_found_rings : Addr
  fd_found_rings : FuncData
  f_is_full_rule : Addr
  fd_is_full_rule : FuncData
  f_summing : Addr
  fd_summing : FuncData
  f_places_of : Addr
  fd_places_of : FuncData
  f_is_wide : Addr
  fd_is_wide : FuncData
  f_found_turnable : Addr
  fd_found_turnable : FuncData
  f_full_rules : Addr
  fd_full_rules : FuncData
  f__law_told : Addr
  fd__law_told : FuncData
  f_linear_rule : Addr
  fd_linear_rule : FuncData
  f__law_next : Addr
  fd__law_next : FuncData
  f__law_rings : Addr
  fd__law_rings : FuncData
  f_law : Addr
  fd_law : FuncData
  c : Exs
structure Tx (K : PySem.W.Frag) (mg : Str → Option Value) (a : Ad) : Prop where
  d__law_draw : Dn K mg "_law_draw" s__law_draw ["script"] a.f__law_draw a.fd__law_draw
  d__law_take : Dn K mg "_law_take" s__law_take ["draw", "many"] a.f__law_take a.fd__law_take
  d__law_two : Dn K mg "_law_two" s__law_two ["n"] a.f__law_two a.fd__law_two
  d__law_rule : Dn K mg "_law_rule" s__law_rule ["draw", "n"] a.f__law_rule a.fd__law_rule
  d__law_rows : Dn K mg "_law_rows" s__law_rows ["length"] a.f__law_rows a.fd__law_rows
  d_is_whole : Dn K mg "is_whole" s_is_whole ["value"] a.f_is_whole a.fd_is_whole
  d_is_number : Dn K mg "is_number" s_is_number ["n", "most"] a.f_is_number a.fd_is_number
  d_check_number : Dn K mg "check_number" s_check_number ["n", "most"] a.f_check_number a.fd_check_number
  d_are_signs : Dn K mg "are_signs" s_are_signs ["value"] a.f_are_signs a.fd_are_signs
  d_power_of_two : Dn K mg "power_of_two" s_power_of_two ["n"] a.f_power_of_two a.fd_power_of_two
  d_is_rule : Dn K mg "is_rule" s_is_rule ["n", "value"] a.f_is_rule a.fd_is_rule
  d_check_rule : Dn K mg "check_rule" s_check_rule ["n", "rule"] a.f_check_rule a.fd_check_rule
  d_all_words : Dn K mg "all_words" s_all_words ["n"] a.f_all_words a.fd_all_words
  d_place_of : Dn K mg "place_of" s_place_of ["word"] a.f_place_of a.fd_place_of
  d_next_word : Dn K mg "next_word" s_next_word ["rule", "word"] a.f_next_word a.fd_next_word
  d_ring_of : Dn K mg "ring_of" s_ring_of ["rule", "word"] a.f_ring_of a.fd_ring_of
  d_found_rings : Dn K mg "found_rings" s_found_rings ["n", "rule"] a.f_found_rings a.fd_found_rings
  d_is_full_rule : Dn K mg "is_full_rule" s_is_full_rule ["n", "rule"] a.f_is_full_rule a.fd_is_full_rule
  d_summing : Dn K mg "summing" s_summing ["n", "places"] a.f_summing a.fd_summing
  d_places_of : Dn K mg "places_of" s_places_of ["n"] a.f_places_of a.fd_places_of
  d_is_wide : Dn K mg "is_wide" s_is_wide ["n", "rule"] a.f_is_wide a.fd_is_wide
  d_found_turnable : Dn K mg "found_turnable" s_found_turnable ["n", "rule"] a.f_found_turnable a.fd_found_turnable
  d_full_rules : Dn K mg "full_rules" s_full_rules ["n"] a.f_full_rules a.fd_full_rules
  d__law_told : Dn K mg "_law_told" s__law_told ["n"] a.f__law_told a.fd__law_told
  d_linear_rule : Dn K mg "linear_rule" s_linear_rule ["n", "places"] a.f_linear_rule a.fd_linear_rule
  d__law_next : Dn K mg "_law_next" s__law_next ["rule", "word"] a.f__law_next a.fd__law_next
  d__law_rings : Dn K mg "_law_rings" s__law_rings ["n", "rule"] a.f__law_rings a.fd__law_rings
  d_law : Dn K mg "law" s_law ["script"] a.f_law a.fd_law
  n_abs : mg "abs" = none
  n_all : mg "all" = none
  n_any : mg "any" = none
  n_bool : mg "bool" = none
  n_int : mg "int" = none
  n_isinstance : mg "isinstance" = none
  n_len : mg "len" = none
  n_range : mg "range" = none
  n_repr : mg "repr" = none
  n_set : mg "set" = none
  n_sorted : mg "sorted" = none
  n_sum : mg "sum" = none
  n_tuple : mg "tuple" = none
  n_zip : mg "zip" = none
  g_MOST_SIGNS : ∃ u v, mg "MOST_SIGNS" = some u ∧ RelV v u ∧ ∀ (H : Hp) (g : Addr → Prop), Df K H g v k_MOST_SIGNS
  g_INPUTS : ∃ u c, mg "INPUTS" = some u ∧ RelV (.ref c) u ∧ ∀ H : Hp, SqT K H c (([0, 1] : List Int).map V.int)
  g_MOST_FULL : ∃ u v, mg "MOST_FULL" = some u ∧ RelV v u ∧ ∀ (H : Hp) (g : Addr → Prop), Df K H g v k_MOST_FULL
  x_m : Xn K mg "Malformed" a.c
section
variable {P : Program} {w : World} {K : PySem.W.Frag} {mg : Str → Option Value} {base : Heap} {a : Ad}
set_option maxHeartbeats 4000000 in
theorem ok__law_draw (T : Tx K mg a) : FnOk P w K mg base (L2.CX P w) 1 a.f__law_draw a.fd__law_draw ["script"] (spD K a.c true 1 f__law_draw) := by
  refine DL.okD2 (m := m__law_draw) (n := 3) (p := 1) rfl rfl rfl T.d__law_draw.fn sc__law_draw (fun cdv A outer s H E hr => ?_)
  have tk : Takes (cxOf (L2.CX P w) P w K mg base ["script", "seed", "cell"] "_law_draw" (defScope s__law_draw) a.f__law_draw cdv A outer s H E) (fun cls d _ H' => E cls d H') := takes_of (E := E) rfl rfl rfl rfl
  have hu : (A.deeper (envOfC "_law_draw" (defScope s__law_draw) s.heap.objs.size a.f__law_draw cdv)).units + 65 < cLine := by have := hr.un; omega
  have hu4 := hr.units
  exact (sss_cons (ss_set 1 sc__law_draw.nd se_int (hx := by first | exact .inl rfl | exact .inr rfl))
  (sss_cons (ss_for (passes_of rfl) rfl (si_scr 0) (sg_name 2 sc__law_draw.nd (hx := by first | exact .inl rfl | exact .inr rfl)) (sss_one (ss_set 1 sc__law_draw.nd (se_op op_mod bin_mod persD persD (se_callTy call_int1 un_int persD T.n_int rfl (se_op op_addA bin_add persD persD (se_op op_addA bin_add persD persD (se_op op_mulA bin_mul persD persD (se_var 1) se_int) (se_op op_mod bin_mod persD persD (se_callB call_abs un_abs persD T.n_abs rfl (se_callTy call_int1 un_int persD T.n_int rfl (se_var 2))) se_int)) se_int)) se_int) (hx := by first | exact .inl rfl | exact .inr rfl))))
  (sss_one (ss_retF (sf_lst (sa_cons (SF.se (sf_comp (own := [("cell", 2)]) (is := [2]) rfl sc__law_draw.nd (si_scr 0) (blkOk_by (by kernel_rfl)) (by decide) (fun _ _ _ _ _ => (sg_name 2 sc__law_draw.nd (hx := by first | exact .inl rfl | exact .inr rfl))) (fun _ _ _ _ _ => sts_nil) (fun _ _ _ _ _ => (se_callB call_abs un_abs persD T.n_abs rfl (se_callTy call_int1 un_int persD T.n_int rfl (se_var 2)))))) (sa_cons (se_neg se_int) (sa_cons se_int (sa_cons (se_var 1) sa_nil)))))))))
set_option maxHeartbeats 4000000 in
theorem ok__law_take (T : Tx K mg a) : FnOk P w K mg base (L2.CX P w) 1 a.f__law_take a.fd__law_take ["draw", "many"] (spD K a.c false 2 f__law_take) := by
  refine DL.okD2 (m := m__law_take) (n := 3) (p := 2) rfl rfl rfl T.d__law_take.fn sc__law_take (fun cdv A outer s H E hr => ?_)
  have tk : Takes (cxOf (L2.CX P w) P w K mg base ["draw", "many", "found"] "_law_take" (defScope s__law_take) a.f__law_take cdv A outer s H E) (fun cls d _ H' => E cls d H') := takes_of (E := E) rfl rfl rfl rfl
  have hu : (A.deeper (envOfC "_law_take" (defScope s__law_take) s.heap.objs.size a.f__law_take cdv)).units + 65 < cLine := by have := hr.un; omega
  have hu4 := hr.units
  exact (sss_cons (ss_if (st_cmp (op_eqD hu4) bin_eq persD persD (se_drw 0 2) se_int (by rfl)) (sss_cons (ss_drwSet 0 1 (se_op op_addA bin_add persD persD (se_drw 0 1) se_int))
  (sss_cons (ss_if (st_cmp op_ltA bin_lt persD persD (se_drw 0 1) (se_callB call_lenA un_len persD T.n_len rfl (se_drw 0 0)) (by rfl)) (sss_one (ss_drwSet 0 2 (se_ix persD persD (se_drw 0 0) (se_drw 0 1)))) sss_nil)
  (sss_one (ss_if (st_cmp (op_eqD hu4) bin_eq persD persD (se_drw 0 2) se_int (by rfl)) (sss_cons (ss_drwSet 0 3 (se_op op_mod bin_mod persD persD (se_callTy call_int1 un_int persD T.n_int rfl (se_op op_addA bin_add persD persD (se_op op_mulA bin_mul persD persD (se_drw 0 3) se_int) se_int)) se_int))
  (sss_one (ss_drwSet 0 2 (se_drw 0 3)))) sss_nil)))) sss_nil)
  (sss_cons (ss_set 2 sc__law_take.nd (se_op op_mod bin_mod persD persD (se_callTy call_int1 un_int persD T.n_int rfl (se_drw 0 2)) (se_var 1)) (hx := by first | exact .inl rfl | exact .inr rfl))
  (sss_cons (ss_drwSet 0 2 (se_op op_fdiv bin_fdiv persD persD (se_drw 0 2) (se_var 1)))
  (sss_one (ss_ret (se_var 2))))))
set_option maxHeartbeats 4000000 in
theorem ok__law_two (T : Tx K mg a) : FnOk P w K mg base (L2.CX P w) 1 a.f__law_two a.fd__law_two ["n"] (spD K a.c false 1 f__law_two) := by
  refine DL.okD2 (m := m__law_two) (n := 1) (p := 1) rfl rfl rfl T.d__law_two.fn sc__law_two (fun cdv A outer s H E hr => ?_)
  have tk : Takes (cxOf (L2.CX P w) P w K mg base ["n"] "_law_two" (defScope s__law_two) a.f__law_two cdv A outer s H E) (fun cls d _ H' => E cls d H') := takes_of (E := E) rfl rfl rfl rfl
  have hu : (A.deeper (envOfC "_law_two" (defScope s__law_two) s.heap.objs.size a.f__law_two cdv)).units + 65 < cLine := by have := hr.un; omega
  have hu4 := hr.units
  exact (sss_one (ss_ret (se_ix persD persD (SF.se (sf_lst (sa_cons se_int (sa_cons se_int (sa_cons se_int (sa_cons se_int (sa_cons se_int sa_nil))))))) (se_var 0))))
set_option maxHeartbeats 4000000 in
theorem ok__law_rule (T : Tx K mg a) : FnOk P w K mg base (L2.CX P w) 2 a.f__law_rule a.fd__law_rule ["draw", "n"] (spD K a.c false 2 f__law_rule) := by
  refine DL.okD2 (m := m__law_rule) (n := 5) (p := 2) rfl rfl rfl T.d__law_rule.fn sc__law_rule (fun cdv A outer s H E hr => ?_)
  have tk : Takes (cxOf (L2.CX P w) P w K mg base ["draw", "n", "half", "k", "sign"] "_law_rule" (defScope s__law_rule) a.f__law_rule cdv A outer s H E) (fun cls d _ H' => E cls d H') := takes_of (E := E) rfl rfl rfl rfl
  have hu : (A.deeper (envOfC "_law_rule" (defScope s__law_rule) s.heap.objs.size a.f__law_rule cdv)).units + 65 < cLine := by have := hr.un; omega
  have hu4 := hr.units
  exact (sss_cons (ss_setLc 2 (own := [("k", 3)]) (is := [3]) rfl sc__law_rule.nd (sw_true rfl rfl rfl (by decide +kernel)) (si_rng1 T.n_range (se_call (ok__law_two T) (hr.mono (by decide)) T.d__law_two.mg T.d__law_two.kp T.d__law_two.bd tk (sax_d (se_op op_sub bin_sub persD persD (se_var 1) se_int) sax_nil))) (blkOk_by (by kernel_rfl)) (by decide) (fun _ _ _ _ _ => (sg_name 3 sc__law_rule.nd (hx := by first | exact .inl rfl | exact .inr rfl))) (fun _ _ _ _ _ => sts_nil) (fun _ _ _ _ _ => (se_call (ok__law_take T) (hr.mono (by decide)) T.d__law_take.mg T.d__law_take.kp T.d__law_take.bd takes0 (sax_v 0 (sax_d se_int sax_nil)))))
  (sss_cons (ss_if (st_cmp (op_eqD hu4) bin_eq persD persD (se_call (ok__law_take T) (hr.mono (by decide)) T.d__law_take.mg T.d__law_take.kp T.d__law_take.bd tk (sax_v 0 (sax_d se_int sax_nil))) se_int (by rfl)) (sss_one (ss_ret (se_callTy call_tuple_of un_tuple persD T.n_tuple rfl (se_op op_addA bin_add persD persD (se_var 2) (SF.se (sf_comp (own := [("sign", 4)]) (is := [4]) rfl sc__law_rule.nd (si_seq (se_var 2)) (blkOk_by (by kernel_rfl)) (by decide) (fun _ _ _ _ _ => (sg_name 4 sc__law_rule.nd (hx := by first | exact .inl rfl | exact .inr rfl))) (fun _ _ _ _ _ => sts_nil) (fun _ _ _ _ _ => (se_op op_sub bin_sub persD persD se_int (se_var 4))))))))) sss_nil)
  (sss_one (ss_ret (se_callTy call_tuple_of un_tuple persD T.n_tuple rfl (se_op op_addA bin_add persD persD (se_var 2) (SF.se (sf_comp (own := [("sign", 4)]) (is := [4]) rfl sc__law_rule.nd (si_seq (se_var 2)) (blkOk_by (by kernel_rfl)) (by decide) (fun _ _ _ _ _ => (sg_name 4 sc__law_rule.nd (hx := by first | exact .inl rfl | exact .inr rfl))) (fun _ _ _ _ _ => sts_nil) (fun _ _ _ _ _ => (se_call (ok__law_take T) (hr.mono (by decide)) T.d__law_take.mg T.d__law_take.kp T.d__law_take.bd takes0 (sax_v 0 (sax_d se_int sax_nil))))))))))))
set_option maxHeartbeats 4000000 in
theorem ok__law_rows (T : Tx K mg a) : FnOk P w K mg base (L2.CX P w) 1 a.f__law_rows a.fd__law_rows ["length"] (spD K a.c false 1 f__law_rows) := by
  refine DL.okD2 (m := m__law_rows) (n := 4) (p := 1) rfl rfl rfl T.d__law_rows.fn sc__law_rows (fun cdv A outer s H E hr => ?_)
  have tk : Takes (cxOf (L2.CX P w) P w K mg base ["length", "found", "turn", "row"] "_law_rows" (defScope s__law_rows) a.f__law_rows cdv A outer s H E) (fun cls d _ H' => E cls d H') := takes_of (E := E) rfl rfl rfl rfl
  have hu : (A.deeper (envOfC "_law_rows" (defScope s__law_rows) s.heap.objs.size a.f__law_rows cdv)).units + 65 < cLine := by have := hr.un; omega
  have hu4 := hr.units
  exact (sss_cons (ss_set 1 sc__law_rows.nd (SF.se (sf_lst (sa_cons (se_tup sa_nil) sa_nil))) (hx := by first | exact .inl rfl | exact .inr rfl))
  (sss_cons (ss_for (passes_of rfl) rfl (si_rng1 T.n_range (se_var 0)) (sg_name 2 sc__law_rows.nd (hx := by first | exact .inl rfl | exact .inr rfl)) (sss_one (ss_set 1 sc__law_rows.nd (se_op op_addA bin_add persD persD (SF.se (sf_comp (own := [("row", 3)]) (is := [3]) rfl sc__law_rows.nd (si_seq (se_var 1)) (blkOk_by (by kernel_rfl)) (by decide) (fun _ _ _ _ _ => (sg_name 3 sc__law_rows.nd (hx := by first | exact .inl rfl | exact .inr rfl))) (fun _ _ _ _ _ => sts_nil) (fun _ _ _ _ _ => (se_op op_addA bin_add persD persD (se_var 3) (se_tup (sa_cons se_int sa_nil)))))) (SF.se (sf_comp (own := [("row", 3)]) (is := [3]) rfl sc__law_rows.nd (si_seq (se_var 1)) (blkOk_by (by kernel_rfl)) (by decide) (fun _ _ _ _ _ => (sg_name 3 sc__law_rows.nd (hx := by first | exact .inl rfl | exact .inr rfl))) (fun _ _ _ _ _ => sts_nil) (fun _ _ _ _ _ => (se_op op_addA bin_add persD persD (se_var 3) (se_tup (sa_cons se_int sa_nil))))))) (hx := by first | exact .inl rfl | exact .inr rfl))))
  (sss_one (ss_ret (SF.se (sf_callB (cr_sortD hu) un_sort persD T.n_sorted rfl (se_var 1)))))))
set_option maxHeartbeats 4000000 in
theorem ok_is_whole (T : Tx K mg a) : FnOk P w K mg base (L2.CX P w) 1 a.f_is_whole a.fd_is_whole ["value"] (spD K a.c false 1 f_is_whole) := by
  refine DL.okD2 (m := m_is_whole) (n := 1) (p := 1) rfl rfl rfl T.d_is_whole.fn sc_is_whole (fun cdv A outer s H E hr => ?_)
  have tk : Takes (cxOf (L2.CX P w) P w K mg base ["value"] "is_whole" (defScope s_is_whole) a.f_is_whole cdv A outer s H E) (fun cls d _ H' => E cls d H') := takes_of (E := E) rfl rfl rfl rfl
  have hu : (A.deeper (envOfC "is_whole" (defScope s_is_whole) s.heap.objs.size a.f_is_whole cdv)).units + 65 < cLine := by have := hr.un; omega
  have hu4 := hr.units
  exact (sss_one (ss_ret (se_and (se_isi (n := 0) persD (se_var 0) T.n_isinstance T.n_int rfl (by decide)) (se_one (se_not (se_isi (n := 1) persD (se_var 0) T.n_isinstance T.n_bool rfl (by decide)))))))
set_option maxHeartbeats 4000000 in
theorem ok_is_number (T : Tx K mg a) : FnOk P w K mg base (L2.CX P w) 2 a.f_is_number a.fd_is_number ["n", "most"] (spD K a.c false 2 f_is_number) := by
  refine DL.okD2 (m := m_is_number) (n := 2) (p := 2) rfl rfl rfl T.d_is_number.fn sc_is_number (fun cdv A outer s H E hr => ?_)
  have tk : Takes (cxOf (L2.CX P w) P w K mg base ["n", "most"] "is_number" (defScope s_is_number) a.f_is_number cdv A outer s H E) (fun cls d _ H' => E cls d H') := takes_of (E := E) rfl rfl rfl rfl
  have hu : (A.deeper (envOfC "is_number" (defScope s_is_number) s.heap.objs.size a.f_is_number cdv)).units + 65 < cLine := by have := hr.un; omega
  have hu4 := hr.units
  exact (sss_one (ss_ret (se_and (se_call (ok_is_whole T) (hr.mono (by decide)) T.d_is_whole.mg T.d_is_whole.kp T.d_is_whole.bd tk (sax_d (se_var 0) sax_nil)) (se_one (se_chain op_leA op_leA bin_le bin_le se_int (se_var 0) (se_var 1))))))
set_option maxHeartbeats 4000000 in
theorem ok_check_number (T : Tx K mg a) : FnOk P w K mg base (L2.CX P w) 3 a.f_check_number a.fd_check_number ["n", "most"] (spD K a.c false 2 f_check_number) := by
  refine DL.okD2 (m := m_check_number) (n := 2) (p := 2) rfl rfl rfl T.d_check_number.fn sc_check_number (fun cdv A outer s H E hr => ?_)
  have tk : Takes (cxOf (L2.CX P w) P w K mg base ["n", "most"] "check_number" (defScope s_check_number) a.f_check_number cdv A outer s H E) (fun cls d _ H' => E cls d H') := takes_of (E := E) rfl rfl rfl rfl
  have hu : (A.deeper (envOfC "check_number" (defScope s_check_number) s.heap.objs.size a.f_check_number cdv)).units + 65 < cLine := by have := hr.un; omega
  have hu4 := hr.units
  exact (sss_one (ss_if (st_not (st_val (se_call (ok_is_number T) (hr.mono (by decide)) T.d_is_number.mg T.d_is_number.kp T.d_is_number.bd tk (sax_d (se_var 0) (sax_d (se_var 1) sax_nil))))) (sss_one (ss_raise rfl tk rfl T.x_m.q T.x_m.g T.x_m.kp (T.x_m.r rfl) rfl)) sss_nil))
set_option maxHeartbeats 4000000 in
theorem ok_are_signs (T : Tx K mg a) : FnOk P w K mg base (L2.CX P w) 2 a.f_are_signs a.fd_are_signs ["value"] (spD K a.c false 1 f_are_signs) := by
  refine DL.okD2 (m := m_are_signs) (n := 2) (p := 1) rfl rfl rfl T.d_are_signs.fn sc_are_signs (fun cdv A outer s H E hr => ?_)
  have tk : Takes (cxOf (L2.CX P w) P w K mg base ["value", "sign"] "are_signs" (defScope s_are_signs) a.f_are_signs cdv A outer s H E) (fun cls d _ H' => E cls d H') := takes_of (E := E) rfl rfl rfl rfl
  have hu : (A.deeper (envOfC "are_signs" (defScope s_are_signs) s.heap.objs.size a.f_are_signs cdv)).units + 65 < cLine := by have := hr.un; omega
  have hu4 := hr.units
  exact (sss_one (ss_ret (se_and (se_isi (n := 2) persD (se_var 0) T.n_isinstance T.n_tuple rfl (by decide)) (se_one (se_callB (cr_all rfl) un_all persD T.n_all rfl (SF.se (sf_comp (own := [("sign", 1)]) (is := [1]) rfl sc_are_signs.nd (si_seq (se_var 0)) (blkOk_by (by kernel_rfl)) (by decide) (fun _ _ _ _ _ => (sg_name 1 sc_are_signs.nd (hx := by first | exact .inl rfl | exact .inr rfl))) (fun _ _ _ _ _ => sts_nil) (fun _ _ _ _ _ => (se_and (se_call (ok_is_whole T) (hr.mono (by decide)) T.d_is_whole.mg T.d_is_whole.kp T.d_is_whole.bd takes0 (sax_d (se_var 1) sax_nil)) (se_one (se_chain op_leA op_leA bin_le bin_le se_int (se_var 1) se_int)))))))))))
set_option maxHeartbeats 4000000 in
theorem ok_power_of_two (T : Tx K mg a) : FnOk P w K mg base (L2.CX P w) 1 a.f_power_of_two a.fd_power_of_two ["n"] (spD K a.c false 1 f_power_of_two) := by
  refine DL.okD2 (m := m_power_of_two) (n := 1) (p := 1) rfl rfl rfl T.d_power_of_two.fn sc_power_of_two (fun cdv A outer s H E hr => ?_)
  have tk : Takes (cxOf (L2.CX P w) P w K mg base ["n"] "power_of_two" (defScope s_power_of_two) a.f_power_of_two cdv A outer s H E) (fun cls d _ H' => E cls d H') := takes_of (E := E) rfl rfl rfl rfl
  have hu : (A.deeper (envOfC "power_of_two" (defScope s_power_of_two) s.heap.objs.size a.f_power_of_two cdv)).units + 65 < cLine := by have := hr.un; omega
  have hu4 := hr.units
  exact (sss_one (ss_ret (se_op op_shl bin_shl persD persD se_int (se_var 0))))
set_option maxHeartbeats 4000000 in
theorem ok_is_rule (T : Tx K mg a) : FnOk P w K mg base (L2.CX P w) 4 a.f_is_rule a.fd_is_rule ["n", "value"] (spD K a.c false 2 f_is_rule) := by
  refine DL.okD2 (m := m_is_rule) (n := 2) (p := 2) rfl rfl rfl T.d_is_rule.fn sc_is_rule (fun cdv A outer s H E hr => ?_)
  have tk : Takes (cxOf (L2.CX P w) P w K mg base ["n", "value"] "is_rule" (defScope s_is_rule) a.f_is_rule cdv A outer s H E) (fun cls d _ H' => E cls d H') := takes_of (E := E) rfl rfl rfl rfl
  have hu : (A.deeper (envOfC "is_rule" (defScope s_is_rule) s.heap.objs.size a.f_is_rule cdv)).units + 65 < cLine := by have := hr.un; omega
  have hu4 := hr.units
  obtain ⟨u_MOST_SIGNS, v_MOST_SIGNS, g1_MOST_SIGNS, g2_MOST_SIGNS, g3_MOST_SIGNS⟩ := T.g_MOST_SIGNS
  exact (sss_cons (ss_expr (se_call (ok_check_number T) (hr.mono (by decide)) T.d_check_number.mg T.d_check_number.kp T.d_check_number.bd tk (sax_d (se_var 0) (sax_d (se_glob g1_MOST_SIGNS g2_MOST_SIGNS g3_MOST_SIGNS) sax_nil))))
  (sss_one (ss_ret (se_and (se_call (ok_are_signs T) (hr.mono (by decide)) T.d_are_signs.mg T.d_are_signs.kp T.d_are_signs.bd tk (sax_d (se_var 1) sax_nil)) (se_one (se_cmp (op_eqD hu4) bin_eq persD persD (se_callB call_lenA un_len persD T.n_len rfl (se_var 1)) (se_call (ok_power_of_two T) (hr.mono (by decide)) T.d_power_of_two.mg T.d_power_of_two.kp T.d_power_of_two.bd tk (sax_d (se_var 0) sax_nil)) (by rfl)))))))
set_option maxHeartbeats 4000000 in
theorem ok_check_rule (T : Tx K mg a) : FnOk P w K mg base (L2.CX P w) 5 a.f_check_rule a.fd_check_rule ["n", "rule"] (spD K a.c false 2 f_check_rule) := by
  refine DL.okD2 (m := m_check_rule) (n := 2) (p := 2) rfl rfl rfl T.d_check_rule.fn sc_check_rule (fun cdv A outer s H E hr => ?_)
  have tk : Takes (cxOf (L2.CX P w) P w K mg base ["n", "rule"] "check_rule" (defScope s_check_rule) a.f_check_rule cdv A outer s H E) (fun cls d _ H' => E cls d H') := takes_of (E := E) rfl rfl rfl rfl
  have hu : (A.deeper (envOfC "check_rule" (defScope s_check_rule) s.heap.objs.size a.f_check_rule cdv)).units + 65 < cLine := by have := hr.un; omega
  have hu4 := hr.units
  exact (sss_one (ss_if (st_not (st_val (se_call (ok_is_rule T) (hr.mono (by decide)) T.d_is_rule.mg T.d_is_rule.kp T.d_is_rule.bd tk (sax_d (se_var 0) (sax_d (se_var 1) sax_nil))))) (sss_one (ss_raise rfl tk rfl T.x_m.q T.x_m.g T.x_m.kp (T.x_m.r rfl) rfl)) sss_nil))
set_option maxHeartbeats 4000000 in
theorem ok_all_words (T : Tx K mg a) : FnOk P w K mg base (L2.CX P w) 1 a.f_all_words a.fd_all_words ["n"] (spD K a.c false 1 f_all_words) := by
  refine DL.okD2 (m := m_all_words) (n := 5) (p := 1) rfl rfl rfl T.d_all_words.fn sc_all_words (fun cdv A outer s H E hr => ?_)
  have tk : Takes (cxOf (L2.CX P w) P w K mg base ["n", "found", "_", "word", "sign"] "all_words" (defScope s_all_words) a.f_all_words cdv A outer s H E) (fun cls d _ H' => E cls d H') := takes_of (E := E) rfl rfl rfl rfl
  have hu : (A.deeper (envOfC "all_words" (defScope s_all_words) s.heap.objs.size a.f_all_words cdv)).units + 65 < cLine := by have := hr.un; omega
  have hu4 := hr.units
  obtain ⟨u_INPUTS, v_INPUTS, g1_INPUTS, g2_INPUTS, g3_INPUTS⟩ := T.g_INPUTS
  exact (sss_cons (ss_set 1 sc_all_words.nd (SF.se (sf_lst (sa_cons (se_tup sa_nil) sa_nil))) (hx := by first | exact .inl rfl | exact .inr rfl))
  (sss_cons (ss_for (passes_of rfl) rfl (si_rng1 T.n_range (se_var 0)) (sg_name 2 sc_all_words.nd (hx := by first | exact .inl rfl | exact .inr rfl)) (sss_one (ss_setLc2 1 (own := [("word", 3), ("sign", 4)]) (vs1 := [4]) (is := [3]) (is1 := [4]) rfl sc_all_words.nd (sw_true rfl rfl rfl (by decide +kernel)) (si_seq (se_var 1)) (blkOk_by (by kernel_rfl)) (by decide) (by decide) (by decide) (fun _ _ _ _ _ => (sg_name 3 sc_all_words.nd (hx := by first | exact .inl rfl | exact .inr rfl))) (fun _ _ _ _ _ => sts_nil) (fun _ _ _ _ _ => (si_glob (ns := [0, 1]) g1_INPUTS g2_INPUTS g3_INPUTS)) (fun _ _ _ _ _ => (sg_name 4 sc_all_words.nd (hx := by first | exact .inl rfl | exact .inr rfl))) (fun _ _ _ _ _ => sts_nil) (fun _ _ _ _ _ => (se_op op_addA bin_add persD persD (se_var 3) (se_tup (sa_cons (se_var 4) sa_nil)))))))
  (sss_one (ss_ret (se_var 1)))))
set_option maxHeartbeats 4000000 in
theorem ok_place_of (T : Tx K mg a) : FnOk P w K mg base (L2.CX P w) 1 a.f_place_of a.fd_place_of ["word"] (spD K a.c false 1 f_place_of) := by
  refine DL.okD2 (m := m_place_of) (n := 3) (p := 1) rfl rfl rfl T.d_place_of.fn sc_place_of (fun cdv A outer s H E hr => ?_)
  have tk : Takes (cxOf (L2.CX P w) P w K mg base ["word", "found", "sign"] "place_of" (defScope s_place_of) a.f_place_of cdv A outer s H E) (fun cls d _ H' => E cls d H') := takes_of (E := E) rfl rfl rfl rfl
  have hu : (A.deeper (envOfC "place_of" (defScope s_place_of) s.heap.objs.size a.f_place_of cdv)).units + 65 < cLine := by have := hr.un; omega
  have hu4 := hr.units
  exact (sss_cons (ss_set 1 sc_place_of.nd se_int (hx := by first | exact .inl rfl | exact .inr rfl))
  (sss_cons (ss_for (passes_of rfl) rfl (si_seq (se_var 0)) (sg_name 2 sc_place_of.nd (hx := by first | exact .inl rfl | exact .inr rfl)) (sss_one (ss_set 1 sc_place_of.nd (se_op op_addA bin_add persD persD (se_op op_mulA bin_mul persD persD se_int (se_var 1)) (se_var 2)) (hx := by first | exact .inl rfl | exact .inr rfl))))
  (sss_one (ss_ret (se_var 1)))))
set_option maxHeartbeats 4000000 in
theorem ok_next_word (T : Tx K mg a) : FnOk P w K mg base (L2.CX P w) 2 a.f_next_word a.fd_next_word ["rule", "word"] (spD K a.c false 2 f_next_word) := by
  refine DL.okD2 (m := m_next_word) (n := 2) (p := 2) rfl rfl rfl T.d_next_word.fn sc_next_word (fun cdv A outer s H E hr => ?_)
  have tk : Takes (cxOf (L2.CX P w) P w K mg base ["rule", "word"] "next_word" (defScope s_next_word) a.f_next_word cdv A outer s H E) (fun cls d _ H' => E cls d H') := takes_of (E := E) rfl rfl rfl rfl
  have hu : (A.deeper (envOfC "next_word" (defScope s_next_word) s.heap.objs.size a.f_next_word cdv)).units + 65 < cLine := by have := hr.un; omega
  have hu4 := hr.units
  exact (sss_one (ss_ret (se_op op_addA bin_add persD persD (se_slice persD (se_var 1) (so_some se_int) so_none) (se_tup (sa_cons (se_ix persD persD (se_var 0) (se_call (ok_place_of T) (hr.mono (by decide)) T.d_place_of.mg T.d_place_of.kp T.d_place_of.bd tk (sax_d (se_var 1) sax_nil))) sa_nil)))))
set_option maxHeartbeats 4000000 in
theorem ok_ring_of (T : Tx K mg a) : FnOk P w K mg base (L2.CX P w) 3 a.f_ring_of a.fd_ring_of ["rule", "word"] (spD K a.c false 2 f_ring_of) := by
  refine DL.okD2 (m := m_ring_of) (n := 5) (p := 2) rfl rfl rfl T.d_ring_of.fn sc_ring_of (fun cdv A outer s H E hr => ?_)
  have tk : Takes (cxOf (L2.CX P w) P w K mg base ["rule", "word", "_", "found", "after"] "ring_of" (defScope s_ring_of) a.f_ring_of cdv A outer s H E) (fun cls d _ H' => E cls d H') := takes_of (E := E) rfl rfl rfl rfl
  have hu : (A.deeper (envOfC "ring_of" (defScope s_ring_of) s.heap.objs.size a.f_ring_of cdv)).units + 65 < cLine := by have := hr.un; omega
  have hu4 := hr.units
  exact (sss_cons (ss_for (passes_of rfl) rfl (si_rng1 T.n_range (se_callB call_lenA un_len persD T.n_len rfl (se_var 0))) (sg_name 2 sc_ring_of.nd (hx := by first | exact .inl rfl | exact .inr rfl)) (sss_one (ss_set 1 sc_ring_of.nd (se_call (ok_next_word T) (hr.mono (by decide)) T.d_next_word.mg T.d_next_word.kp T.d_next_word.bd tk (sax_d (se_var 0) (sax_d (se_var 1) sax_nil))) (hx := by first | exact .inl rfl | exact .inr rfl))))
  (sss_cons (ss_setL 3 sc_ring_of.nd (sf_lst (sa_cons (se_var 1) sa_nil)) (hx := by first | exact .inl rfl | exact .inr rfl))
  (sss_cons (ss_set 4 sc_ring_of.nd (se_call (ok_next_word T) (hr.mono (by decide)) T.d_next_word.mg T.d_next_word.kp T.d_next_word.bd tk (sax_d (se_var 0) (sax_d (se_var 1) sax_nil))) (hx := by first | exact .inl rfl | exact .inr rfl))
  (sss_cons (ss_while 1000 (passes_of rfl) (st_cmp (op_neD hu4) bin_ne persD persD (se_var 4) (se_var 1) (by rfl)) (sss_cons (ss_app 3 (se_var 4))
  (sss_one (ss_set 4 sc_ring_of.nd (se_call (ok_next_word T) (hr.mono (by decide)) T.d_next_word.mg T.d_next_word.kp T.d_next_word.bd tk (sax_d (se_var 0) (sax_d (se_var 4) sax_nil))) (hx := by first | exact .inl rfl | exact .inr rfl)))))
  (sss_one (ss_retL 3 (fr := false)))))))
set_option maxHeartbeats 4000000 in
theorem ok_found_rings (T : Tx K mg a) : FnOk P w K mg base (L2.CX P w) 4 a.f_found_rings a.fd_found_rings ["n", "rule"] (spD K a.c false 2 f_found_rings) := by
  refine DL.okD2 (m := m_found_rings) (n := 3) (p := 2) rfl rfl rfl T.d_found_rings.fn sc_found_rings (fun cdv A outer s H E hr => ?_)
  have tk : Takes (cxOf (L2.CX P w) P w K mg base ["n", "rule", "word"] "found_rings" (defScope s_found_rings) a.f_found_rings cdv A outer s H E) (fun cls d _ H' => E cls d H') := takes_of (E := E) rfl rfl rfl rfl
  have hu : (A.deeper (envOfC "found_rings" (defScope s_found_rings) s.heap.objs.size a.f_found_rings cdv)).units + 65 < cLine := by have := hr.un; omega
  have hu4 := hr.units
  exact (sss_one (ss_ret (SF.se (sf_sortSetN rfl hu persD T.n_sorted T.n_set (SF.se (sf_comp (own := [("word", 2)]) (is := [2]) rfl sc_found_rings.nd (si_seq (se_call (ok_all_words T) (hr.mono (by decide)) T.d_all_words.mg T.d_all_words.kp T.d_all_words.bd tk (sax_d (se_var 0) sax_nil))) (blkOk_by (by kernel_rfl)) (by decide) (fun _ _ _ _ _ => (sg_name 2 sc_found_rings.nd (hx := by first | exact .inl rfl | exact .inr rfl))) (fun _ _ _ _ _ => sts_nil) (fun _ _ _ _ _ => (se_callTy call_tuple_of un_tuple persD T.n_tuple rfl (SF.se (sf_callB (cr_sortD hu) un_sort persD T.n_sorted rfl (se_call (ok_ring_of T) (hr.mono (by decide)) T.d_ring_of.mg T.d_ring_of.kp T.d_ring_of.bd takes0 (sax_d (se_var 1) (sax_d (se_var 2) sax_nil)))))))))))))
set_option maxHeartbeats 4000000 in
theorem ok_is_full_rule (T : Tx K mg a) : FnOk P w K mg base (L2.CX P w) 6 a.f_is_full_rule a.fd_is_full_rule ["n", "rule"] (spD K a.c false 2 f_is_full_rule) := by
  refine DL.okD2 (m := m_is_full_rule) (n := 2) (p := 2) rfl rfl rfl T.d_is_full_rule.fn sc_is_full_rule (fun cdv A outer s H E hr => ?_)
  have tk : Takes (cxOf (L2.CX P w) P w K mg base ["n", "rule"] "is_full_rule" (defScope s_is_full_rule) a.f_is_full_rule cdv A outer s H E) (fun cls d _ H' => E cls d H') := takes_of (E := E) rfl rfl rfl rfl
  have hu : (A.deeper (envOfC "is_full_rule" (defScope s_is_full_rule) s.heap.objs.size a.f_is_full_rule cdv)).units + 65 < cLine := by have := hr.un; omega
  have hu4 := hr.units
  exact (sss_cons (ss_expr (se_call (ok_check_rule T) (hr.mono (by decide)) T.d_check_rule.mg T.d_check_rule.kp T.d_check_rule.bd tk (sax_d (se_var 0) (sax_d (se_var 1) sax_nil))))
  (sss_one (ss_ret (se_cmp (op_eqD hu4) bin_eq persD persD (se_callB call_lenA un_len persD T.n_len rfl (se_ix persD persD (se_call (ok_found_rings T) (hr.mono (by decide)) T.d_found_rings.mg T.d_found_rings.kp T.d_found_rings.bd tk (sax_d (se_var 0) (sax_d (se_var 1) sax_nil))) se_int)) (se_call (ok_power_of_two T) (hr.mono (by decide)) T.d_power_of_two.mg T.d_power_of_two.kp T.d_power_of_two.bd tk (sax_d (se_var 0) sax_nil)) (by rfl)))))
set_option maxHeartbeats 4000000 in
theorem ok_summing (T : Tx K mg a) : FnOk P w K mg base (L2.CX P w) 2 a.f_summing a.fd_summing ["n", "places"] (spD K a.c false 2 f_summing) := by
  refine DL.okD2 (m := m_summing) (n := 4) (p := 2) rfl rfl rfl T.d_summing.fn sc_summing (fun cdv A outer s H E hr => ?_)
  have tk : Takes (cxOf (L2.CX P w) P w K mg base ["n", "places", "word", "k"] "summing" (defScope s_summing) a.f_summing cdv A outer s H E) (fun cls d _ H' => E cls d H') := takes_of (E := E) rfl rfl rfl rfl
  have hu : (A.deeper (envOfC "summing" (defScope s_summing) s.heap.objs.size a.f_summing cdv)).units + 65 < cLine := by have := hr.un; omega
  have hu4 := hr.units
  exact (sss_one (ss_ret (se_callTy call_tuple_of un_tuple persD T.n_tuple rfl (SF.se (sf_comp (own := [("word", 2)]) (is := [2]) rfl sc_summing.nd (si_seq (se_call (ok_all_words T) (hr.mono (by decide)) T.d_all_words.mg T.d_all_words.kp T.d_all_words.bd tk (sax_d (se_var 0) sax_nil))) (blkOk_by (by kernel_rfl)) (by decide) (fun _ _ _ _ _ => (sg_name 2 sc_summing.nd (hx := by first | exact .inl rfl | exact .inr rfl))) (fun _ _ _ _ _ => sts_nil) (fun _ _ _ _ _ => (se_op op_mod bin_mod persD persD (se_callTy call_int1 un_int persD T.n_int rfl (se_callB (cr_sum rfl) un_sum persD T.n_sum rfl (SF.se (sf_comp (own := [("k", 3)]) (is := [3]) rfl sc_summing.nd (si_seq (se_var 1)) (blkOk_by (by kernel_rfl)) (by decide) (fun _ _ _ _ _ => (sg_name 3 sc_summing.nd (hx := by first | exact .inl rfl | exact .inr rfl))) (fun _ _ _ _ _ => sts_nil) (fun _ _ _ _ _ => (se_ix persD persD (se_var 2) (se_var 3))))))) se_int)))))))
set_option maxHeartbeats 4000000 in
theorem ok_places_of (T : Tx K mg a) : FnOk P w K mg base (L2.CX P w) 1 a.f_places_of a.fd_places_of ["n"] (spD K a.c false 1 f_places_of) := by
  refine DL.okD2 (m := m_places_of) (n := 4) (p := 1) rfl rfl rfl T.d_places_of.fn sc_places_of (fun cdv A outer s H E hr => ?_)
  have tk : Takes (cxOf (L2.CX P w) P w K mg base ["n", "found", "k", "row"] "places_of" (defScope s_places_of) a.f_places_of cdv A outer s H E) (fun cls d _ H' => E cls d H') := takes_of (E := E) rfl rfl rfl rfl
  have hu : (A.deeper (envOfC "places_of" (defScope s_places_of) s.heap.objs.size a.f_places_of cdv)).units + 65 < cLine := by have := hr.un; omega
  have hu4 := hr.units
  exact (sss_cons (ss_set 1 sc_places_of.nd (SF.se (sf_lst (sa_cons (se_tup sa_nil) sa_nil))) (hx := by first | exact .inl rfl | exact .inr rfl))
  (sss_cons (ss_for (passes_of rfl) rfl (si_rng1 T.n_range (se_var 0)) (sg_name 2 sc_places_of.nd (hx := by first | exact .inl rfl | exact .inr rfl)) (sss_one (ss_set 1 sc_places_of.nd (se_op op_addA bin_add persD persD (se_var 1) (SF.se (sf_comp (own := [("row", 3)]) (is := [3]) rfl sc_places_of.nd (si_seq (se_var 1)) (blkOk_by (by kernel_rfl)) (by decide) (fun _ _ _ _ _ => (sg_name 3 sc_places_of.nd (hx := by first | exact .inl rfl | exact .inr rfl))) (fun _ _ _ _ _ => sts_nil) (fun _ _ _ _ _ => (se_op op_addA bin_add persD persD (se_var 3) (se_tup (sa_cons (se_var 2) sa_nil))))))) (hx := by first | exact .inl rfl | exact .inr rfl))))
  (sss_one (ss_ret (se_var 1)))))
set_option maxHeartbeats 4000000 in
theorem ok_is_wide (T : Tx K mg a) : FnOk P w K mg base (L2.CX P w) 6 a.f_is_wide a.fd_is_wide ["n", "rule"] (spD K a.c false 2 f_is_wide) := by
  refine DL.okD2 (m := m_is_wide) (n := 4) (p := 2) rfl rfl rfl T.d_is_wide.fn sc_is_wide (fun cdv A outer s H E hr => ?_)
  have tk : Takes (cxOf (L2.CX P w) P w K mg base ["n", "rule", "places", "ring"] "is_wide" (defScope s_is_wide) a.f_is_wide cdv A outer s H E) (fun cls d _ H' => E cls d H') := takes_of (E := E) rfl rfl rfl rfl
  have hu : (A.deeper (envOfC "is_wide" (defScope s_is_wide) s.heap.objs.size a.f_is_wide cdv)).units + 65 < cLine := by have := hr.un; omega
  have hu4 := hr.units
  exact (sss_cons (ss_expr (se_call (ok_check_rule T) (hr.mono (by decide)) T.d_check_rule.mg T.d_check_rule.kp T.d_check_rule.bd tk (sax_d (se_var 0) (sax_d (se_var 1) sax_nil))))
  (sss_cons (ss_if (st_cmp (op_notInA hu) bin_notIn persD persD (se_var 1) (SF.se (sf_comp (own := [("places", 2)]) (is := [2]) rfl sc_is_wide.nd (si_seq (se_call (ok_places_of T) (hr.mono (by decide)) T.d_places_of.mg T.d_places_of.kp T.d_places_of.bd tk (sax_d (se_var 0) sax_nil))) (blkOk_by (by kernel_rfl)) (by decide) (fun _ _ _ _ _ => (sg_name 2 sc_is_wide.nd (hx := by first | exact .inl rfl | exact .inr rfl))) (fun _ _ _ _ _ => sts_nil) (fun _ _ _ _ _ => (se_call (ok_summing T) (hr.mono (by decide)) T.d_summing.mg T.d_summing.kp T.d_summing.bd takes0 (sax_d (se_var 0) (sax_d (se_var 2) sax_nil)))))) (by rfl)) (sss_one (ss_ret se_bl)) sss_nil)
  (sss_one (ss_ret (se_callB (cr_any rfl) un_any persD T.n_any rfl (SF.se (sf_comp (own := [("ring", 3)]) (is := [3]) rfl sc_is_wide.nd (si_seq (se_call (ok_found_rings T) (hr.mono (by decide)) T.d_found_rings.mg T.d_found_rings.kp T.d_found_rings.bd tk (sax_d (se_var 0) (sax_d (se_var 1) sax_nil)))) (blkOk_by (by kernel_rfl)) (by decide) (fun _ _ _ _ _ => (sg_name 3 sc_is_wide.nd (hx := by first | exact .inl rfl | exact .inr rfl))) (fun _ _ _ _ _ => sts_nil) (fun _ _ _ _ _ => (se_and (se_cmp (op_eqD hu4) bin_eq persD persD (se_callB call_lenA un_len persD T.n_len rfl (se_var 3)) (se_op op_sub bin_sub persD persD (se_call (ok_power_of_two T) (hr.mono (by decide)) T.d_power_of_two.mg T.d_power_of_two.kp T.d_power_of_two.bd takes0 (sax_d (se_var 0) sax_nil)) se_int) (by rfl)) (se_one (se_cmp (op_notInA hu) bin_notIn persD persD (se_op op_mulB bin_mulB persD persD (se_tup (sa_cons se_int sa_nil)) (se_var 0)) (se_var 3) (by rfl))))))))))))
set_option maxHeartbeats 4000000 in
theorem ok_found_turnable (T : Tx K mg a) : FnOk P w K mg base (L2.CX P w) 2 a.f_found_turnable a.fd_found_turnable ["n", "rule"] (spD K a.c false 2 f_found_turnable) := by
  refine DL.okD2 (m := m_found_turnable) (n := 4) (p := 2) rfl rfl rfl T.d_found_turnable.fn sc_found_turnable (fun cdv A outer s H E hr => ?_)
  have tk : Takes (cxOf (L2.CX P w) P w K mg base ["n", "rule", "half", "k"] "found_turnable" (defScope s_found_turnable) a.f_found_turnable cdv A outer s H E) (fun cls d _ H' => E cls d H') := takes_of (E := E) rfl rfl rfl rfl
  have hu : (A.deeper (envOfC "found_turnable" (defScope s_found_turnable) s.heap.objs.size a.f_found_turnable cdv)).units + 65 < cLine := by have := hr.un; omega
  have hu4 := hr.units
  exact (sss_cons (ss_set 2 sc_found_turnable.nd (se_call (ok_power_of_two T) (hr.mono (by decide)) T.d_power_of_two.mg T.d_power_of_two.kp T.d_power_of_two.bd tk (sax_d (se_op op_sub bin_sub persD persD (se_var 0) se_int) sax_nil)) (hx := by first | exact .inl rfl | exact .inr rfl))
  (sss_one (ss_ret (se_callB (cr_all rfl) un_all persD T.n_all rfl (SF.se (sf_comp (own := [("k", 3)]) (is := [3]) rfl sc_found_turnable.nd (si_rng1 T.n_range (se_var 2)) (blkOk_by (by kernel_rfl)) (by decide) (fun _ _ _ _ _ => (sg_name 3 sc_found_turnable.nd (hx := by first | exact .inl rfl | exact .inr rfl))) (fun _ _ _ _ _ => sts_nil) (fun _ _ _ _ _ => (se_cmp (op_neD hu4) bin_ne persD persD (se_ix persD persD (se_var 1) (se_var 3)) (se_ix persD persD (se_var 1) (se_op op_addA bin_add persD persD (se_var 3) (se_var 2))) (by rfl)))))))))
set_option maxHeartbeats 4000000 in
theorem ok_full_rules (T : Tx K mg a) : FnOk P w K mg base (L2.CX P w) 5 a.f_full_rules a.fd_full_rules ["n"] (spD K a.c false 1 f_full_rules) := by
  refine DL.okD2 (m := m_full_rules) (n := 3) (p := 1) rfl rfl rfl T.d_full_rules.fn sc_full_rules (fun cdv A outer s H E hr => ?_)
  have tk : Takes (cxOf (L2.CX P w) P w K mg base ["n", "found", "word"] "full_rules" (defScope s_full_rules) a.f_full_rules cdv A outer s H E) (fun cls d _ H' => E cls d H') := takes_of (E := E) rfl rfl rfl rfl
  have hu : (A.deeper (envOfC "full_rules" (defScope s_full_rules) s.heap.objs.size a.f_full_rules cdv)).units + 65 < cLine := by have := hr.un; omega
  have hu4 := hr.units
  obtain ⟨u_MOST_FULL, v_MOST_FULL, g1_MOST_FULL, g2_MOST_FULL, g3_MOST_FULL⟩ := T.g_MOST_FULL
  exact (sss_cons (ss_expr (se_call (ok_check_number T) (hr.mono (by decide)) T.d_check_number.mg T.d_check_number.kp T.d_check_number.bd tk (sax_d (se_var 0) (sax_d (se_glob g1_MOST_FULL g2_MOST_FULL g3_MOST_FULL) sax_nil))))
  (sss_cons (ss_setL 1 sc_full_rules.nd (sf_lst sa_nil) (hx := by first | exact .inl rfl | exact .inr rfl))
  (sss_cons (ss_for (passes_of rfl) rfl (si_seq (se_call (ok_all_words T) (hr.mono (by decide)) T.d_all_words.mg T.d_all_words.kp T.d_all_words.bd tk (sax_d (se_call (ok_power_of_two T) (hr.mono (by decide)) T.d_power_of_two.mg T.d_power_of_two.kp T.d_power_of_two.bd tk (sax_d (se_var 0) sax_nil)) sax_nil))) (sg_name 2 sc_full_rules.nd (hx := by first | exact .inl rfl | exact .inr rfl)) (sss_one (ss_if (PW.pt (sw_and (st_val (se_call (ok_found_turnable T) (hr.mono (by decide)) T.d_found_turnable.mg T.d_found_turnable.kp T.d_found_turnable.bd tk (sax_d (se_var 0) (sax_d (se_var 2) sax_nil)))) (sw_and1 (st_cmp (op_eqD hu4) bin_eq persD persD (se_callB call_lenA un_len persD T.n_len rfl (se_call (ok_found_rings T) (hr.mono (by decide)) T.d_found_rings.mg T.d_found_rings.kp T.d_found_rings.bd tk (sax_d (se_var 0) (sax_d (se_var 2) sax_nil)))) se_int (by rfl))))) (sss_one (ss_app 1 (se_var 2))) sss_nil)))
  (sss_one (ss_ret (se_callTy call_tuple_of un_tuple persP T.n_tuple rfl (sp_var 1)))))))
set_option maxHeartbeats 4000000 in
theorem ok__law_told (T : Tx K mg a) : FnOk P w K mg base (L2.CX P w) 6 a.f__law_told a.fd__law_told ["n"] (spD K a.c false 1 f__law_told) := by
  refine DL.okD2 (m := m__law_told) (n := 1) (p := 1) rfl rfl rfl T.d__law_told.fn sc__law_told (fun cdv A outer s H E hr => ?_)
  have tk : Takes (cxOf (L2.CX P w) P w K mg base ["n"] "_law_told" (defScope s__law_told) a.f__law_told cdv A outer s H E) (fun cls d _ H' => E cls d H') := takes_of (E := E) rfl rfl rfl rfl
  have hu : (A.deeper (envOfC "_law_told" (defScope s__law_told) s.heap.objs.size a.f__law_told cdv)).units + 65 < cLine := by have := hr.un; omega
  have hu4 := hr.units
  exact (sss_one (ss_try (k := fun _ => true) rfl rfl T.x_m.g tk T.x_m.ex (fun W2 pn xe tk2 hp2 => (sss_one (ss_ret (se_call (ok_full_rules T) (hr.mono (by decide)) T.d_full_rules.mg T.d_full_rules.kp T.d_full_rules.bd tk2 (sax_d (se_var 0) sax_nil))))) (fun _ _ => (sss_one (ss_ret se_str)))))
set_option maxHeartbeats 4000000 in
theorem ok_linear_rule (T : Tx K mg a) : FnOk P w K mg base (L2.CX P w) 4 a.f_linear_rule a.fd_linear_rule ["n", "places"] (spD K a.c false 2 f_linear_rule) := by
  refine DL.okD2 (m := m_linear_rule) (n := 5) (p := 2) rfl rfl rfl T.d_linear_rule.fn sc_linear_rule (fun cdv A outer s H E hr => ?_)
  have tk : Takes (cxOf (L2.CX P w) P w K mg base ["n", "places", "k", "one", "two"] "linear_rule" (defScope s_linear_rule) a.f_linear_rule cdv A outer s H E) (fun cls d _ H' => E cls d H') := takes_of (E := E) rfl rfl rfl rfl
  have hu : (A.deeper (envOfC "linear_rule" (defScope s_linear_rule) s.heap.objs.size a.f_linear_rule cdv)).units + 65 < cLine := by have := hr.un; omega
  have hu4 := hr.units
  obtain ⟨u_MOST_SIGNS, v_MOST_SIGNS, g1_MOST_SIGNS, g2_MOST_SIGNS, g3_MOST_SIGNS⟩ := T.g_MOST_SIGNS
  exact (sss_cons (ss_expr (se_call (ok_check_number T) (hr.mono (by decide)) T.d_check_number.mg T.d_check_number.kp T.d_check_number.bd tk (sax_d (se_var 0) (sax_d (se_glob g1_MOST_SIGNS g2_MOST_SIGNS g3_MOST_SIGNS) sax_nil))))
  (sss_cons (ss_if (PW.pt (sw_or (st_not (st_val (se_isi (n := 2) persD (se_var 1) T.n_isinstance T.n_tuple rfl (by decide)))) (sw_or1 (st_not (st_val (se_callB (cr_all rfl) un_all persD T.n_all rfl (SF.se (sf_comp (own := [("k", 2)]) (is := [2]) rfl sc_linear_rule.nd (si_seq (se_var 1)) (blkOk_by (by kernel_rfl)) (by decide) (fun _ _ _ _ _ => (sg_name 2 sc_linear_rule.nd (hx := by first | exact .inl rfl | exact .inr rfl))) (fun _ _ _ _ _ => sts_nil) (fun _ _ _ _ _ => (se_and (se_call (ok_is_whole T) (hr.mono (by decide)) T.d_is_whole.mg T.d_is_whole.kp T.d_is_whole.bd takes0 (sax_d (se_var 2) sax_nil)) (se_one (se_chain op_leA op_ltA bin_le bin_lt se_int (se_var 2) (se_var 0))))))))))))) (sss_one (ss_raise rfl tk rfl T.x_m.q T.x_m.g T.x_m.kp (T.x_m.r rfl) rfl)) sss_nil)
  (sss_cons (ss_if (st_not (st_val (se_callB (cr_all rfl) un_all persD T.n_all rfl (SF.se (sf_comp (own := [("one", 3), ("two", 4)]) (is := [3, 4]) rfl sc_linear_rule.nd (si_zip T.n_zip (se_var 1) (se_slice persD (se_var 1) (so_some se_int) so_none)) (blkOk_by (by kernel_rfl)) (by decide) (fun _ _ _ _ _ => (sg_tup rfl (sgs_cons (sg_name 3 sc_linear_rule.nd (hx := by first | exact .inl rfl | exact .inr rfl)) (sgs_cons (sg_name 4 sc_linear_rule.nd (hx := by first | exact .inl rfl | exact .inr rfl)) sgs_nil)))) (fun _ _ _ _ _ => sts_nil) (fun _ _ _ _ _ => (se_cmp (op_ltB hu) bin_ltB persD persD (se_var 3) (se_var 4) (by rfl)))))))) (sss_one (ss_raise rfl tk rfl T.x_m.q T.x_m.g T.x_m.kp (T.x_m.r rfl) rfl)) sss_nil)
  (sss_one (ss_ret (se_call (ok_summing T) (hr.mono (by decide)) T.d_summing.mg T.d_summing.kp T.d_summing.bd tk (sax_d (se_var 0) (sax_d (se_var 1) sax_nil))))))))
set_option maxHeartbeats 4000000 in
theorem ok__law_next (T : Tx K mg a) : FnOk P w K mg base (L2.CX P w) 1 a.f__law_next a.fd__law_next ["rule", "word"] (spD K a.c false 2 f__law_next) := by
  refine DL.okD2 (m := m__law_next) (n := 4) (p := 2) rfl rfl rfl T.d__law_next.fn sc__law_next (fun cdv A outer s H E hr => ?_)
  have tk : Takes (cxOf (L2.CX P w) P w K mg base ["rule", "word", "place", "sign"] "_law_next" (defScope s__law_next) a.f__law_next cdv A outer s H E) (fun cls d _ H' => E cls d H') := takes_of (E := E) rfl rfl rfl rfl
  have hu : (A.deeper (envOfC "_law_next" (defScope s__law_next) s.heap.objs.size a.f__law_next cdv)).units + 65 < cLine := by have := hr.un; omega
  have hu4 := hr.units
  exact (sss_cons (ss_set 2 sc__law_next.nd se_int (hx := by first | exact .inl rfl | exact .inr rfl))
  (sss_cons (ss_for (passes_of rfl) rfl (si_seq (se_var 1)) (sg_name 3 sc__law_next.nd (hx := by first | exact .inl rfl | exact .inr rfl)) (sss_one (ss_set 2 sc__law_next.nd (se_op op_addA bin_add persD persD (se_op op_mulA bin_mul persD persD se_int (se_var 2)) (se_var 3)) (hx := by first | exact .inl rfl | exact .inr rfl))))
  (sss_one (ss_ret (se_op op_addA bin_add persD persD (se_slice persD (se_var 1) (so_some se_int) so_none) (se_tup (sa_cons (se_ix persD persD (se_var 0) (se_var 2)) sa_nil)))))))
set_option maxHeartbeats 4000000 in
theorem ok__law_rings (T : Tx K mg a) : FnOk P w K mg base (L2.CX P w) 2 a.f__law_rings a.fd__law_rings ["n", "rule"] (spD K a.c false 2 f__law_rings) := by
  refine DL.okD2 (m := m__law_rings) (n := 7) (p := 2) rfl rfl rfl T.d__law_rings.fn sc__law_rings (fun cdv A outer s H E hr => ?_)
  have tk : Takes (cxOf (L2.CX P w) P w K mg base ["n", "rule", "found", "word", "row", "after", "turn"] "_law_rings" (defScope s__law_rings) a.f__law_rings cdv A outer s H E) (fun cls d _ H' => E cls d H') := takes_of (E := E) rfl rfl rfl rfl
  have hu : (A.deeper (envOfC "_law_rings" (defScope s__law_rings) s.heap.objs.size a.f__law_rings cdv)).units + 65 < cLine := by have := hr.un; omega
  have hu4 := hr.units
  exact (sss_cons (ss_setL 2 sc__law_rings.nd (sf_lst sa_nil) (hx := by first | exact .inl rfl | exact .inr rfl))
  (sss_cons (ss_for (passes_of rfl) rfl (si_seq (se_call (ok__law_rows T) (hr.mono (by decide)) T.d__law_rows.mg T.d__law_rows.kp T.d__law_rows.bd tk (sax_d (se_var 0) sax_nil))) (sg_name 3 sc__law_rings.nd (hx := by first | exact .inl rfl | exact .inr rfl)) (sss_cons (ss_parLD 4 5 sc__law_rings.nd (sf_lst (sa_cons (se_var 3) sa_nil)) (se_call (ok__law_next T) (hr.mono (by decide)) T.d__law_next.mg T.d__law_next.kp T.d__law_next.bd tk (sax_d (se_var 1) (sax_d (se_var 3) sax_nil))))
  (sss_cons (ss_for (passes_of rfl) rfl (si_rng1 T.n_range se_int) (sg_name 6 sc__law_rings.nd (hx := by first | exact .inl rfl | exact .inr rfl)) (sss_one (ss_if (st_cmp (op_notInA hu) bin_notIn persD persP (se_var 5) (sp_var 4) (by rfl)) (sss_cons (ss_app 4 (se_var 5))
  (sss_one (ss_set 5 sc__law_rings.nd (se_call (ok__law_next T) (hr.mono (by decide)) T.d__law_next.mg T.d__law_next.kp T.d__law_next.bd tk (sax_d (se_var 1) (sax_d (se_var 5) sax_nil))) (hx := by first | exact .inl rfl | exact .inr rfl)))) sss_nil)))
  (sss_one (ss_if (st_cmp (op_eqD hu4) bin_eq persD persD (se_var 5) (se_var 3) (by rfl)) (sss_one (ss_app 2 (se_callTy call_tuple_of un_tuple persD T.n_tuple rfl (SF.se (sf_callB (cr_sortD hu) un_sort persP T.n_sorted rfl (sp_var 4)))))) sss_nil)))))
  (sss_one (ss_ret (SF.se (sf_sortSetN rfl hu persP T.n_sorted T.n_set (sp_var 2)))))))
set_option maxHeartbeats 4000000 in
theorem body_law (T : Tx K mg a) : LawBody P w K mg 7 s_law ["script", "draw", "n", "due", "turn", "rule", "m", "every", "k", "wide", "ring", "row", "places", "bad"] a.f_law a.c m_law := by
  intro base cdv s H hK hns hr
  have tk : Takes (cxOf (L2.CX P w) P w K mg base ["script", "draw", "n", "due", "turn", "rule", "m", "every", "k", "wide", "ring", "row", "places", "bad"] "law" (defScope s_law) a.f_law cdv callerA [] s H noX) W0 := takes_of (E := noX) rfl rfl rfl rfl
  have hgd : (callerA.deeper (envOfC "law" (defScope s_law) s.heap.objs.size a.f_law cdv)).guards = some [] := rfl
  have hu : (callerA.deeper (envOfC "law" (defScope s_law) s.heap.objs.size a.f_law cdv)).units + 65 < cLine := by have := hr.un; omega
  have hu4 := hr.units
  exact (sss_draw 1 sc_law.nd (sf_call (ok__law_draw T) (hr.mono (by decide)) T.d__law_draw.mg T.d__law_draw.kp T.d__law_draw.bd tk (sax_v 0 sax_nil)) (sss_cons (ss_set 2 sc_law.nd (se_op op_addA bin_add persD persD se_int (se_call (ok__law_take T) (hr.mono (by decide)) T.d__law_take.mg T.d__law_take.kp T.d__law_take.bd tk (sax_v 1 (sax_d se_int sax_nil)))) (hx := by first | exact .inl rfl | exact .inr rfl))
  (sss_cons (ss_setLc 3 (own := [("rule", 5)]) (is := [5]) rfl sc_law.nd (sw_true rfl rfl rfl (by decide +kernel)) (si_seq (se_call (ok__law_rows T) (hr.mono (by decide)) T.d__law_rows.mg T.d__law_rows.kp T.d__law_rows.bd tk (sax_d (se_call (ok__law_two T) (hr.mono (by decide)) T.d__law_two.mg T.d__law_two.kp T.d__law_two.bd tk (sax_d (se_var 2) sax_nil)) sax_nil))) (blkOk_by (by kernel_rfl)) (by decide) (fun _ _ _ _ _ => (sg_name 5 sc_law.nd (hx := by first | exact .inl rfl | exact .inr rfl))) (fun _ _ _ _ _ => (sts_one (st_cmp (op_eqD hu4) bin_eq persD persD (SF.se (sf_comp (own := [("ring", 10)]) (is := [10]) rfl sc_law.nd (si_seq (se_call (ok__law_rings T) (hr.mono (by decide)) T.d__law_rings.mg T.d__law_rings.kp T.d__law_rings.bd takes0 (sax_d (se_var 2) (sax_d (se_var 5) sax_nil)))) (blkOk_by (by kernel_rfl)) (by decide) (fun _ _ _ _ _ => (sg_name 10 sc_law.nd (hx := by first | exact .inl rfl | exact .inr rfl))) (fun _ _ _ _ _ => sts_nil) (fun _ _ _ _ _ => (se_callB call_lenA un_len persD T.n_len rfl (se_var 10))))) (SF.se (sf_lst (sa_cons (se_call (ok__law_two T) (hr.mono (by decide)) T.d__law_two.mg T.d__law_two.kp T.d__law_two.bd takes0 (sax_d (se_var 2) sax_nil)) sa_nil))) (by rfl)))) (fun _ _ _ _ _ => (se_var 5)))
  (sss_cons (ss_if (PW.pt (sw_or (st_cmp (op_neD hu4) bin_ne persD persD (se_callB (cr_repr hu hgd) un_repr persD T.n_repr rfl (se_call (ok_full_rules T) (hr.mono (by decide)) T.d_full_rules.mg T.d_full_rules.kp T.d_full_rules.bd tk (sax_d (se_var 2) sax_nil))) (se_callB (cr_repr hu hgd) un_repr persD T.n_repr rfl (se_callTy call_tuple_of un_tuple persD T.n_tuple rfl (se_var 3))) (by rfl)) (sw_or (st_cmp (op_neD hu4) bin_ne persD persD (se_callB call_lenA un_len persD T.n_len rfl (se_var 3)) (se_ix persD persD (SF.se (sf_lst (sa_cons se_int (sa_cons se_int (sa_cons se_int sa_nil))))) (se_op op_sub bin_sub persD persD (se_var 2) se_int)) (by rfl)) (sw_or1 (st_not (st_val (se_callB (cr_all rfl) un_all persD T.n_all rfl (SF.se (sf_comp (own := [("rule", 5)]) (is := [5]) rfl sc_law.nd (si_seq (se_var 3)) (blkOk_by (by kernel_rfl)) (by decide) (fun _ _ _ _ _ => (sg_name 5 sc_law.nd (hx := by first | exact .inl rfl | exact .inr rfl))) (fun _ _ _ _ _ => sts_nil) (fun _ _ _ _ _ => (se_call (ok_is_full_rule T) (hr.mono (by decide)) T.d_is_full_rule.mg T.d_is_full_rule.kp T.d_is_full_rule.bd takes0 (sax_d (se_var 2) (sax_d (se_var 5) sax_nil))))))))))))) (sss_one (ss_ret se_bl)) sss_nil)
  (sss_cons (ss_for (passes_of rfl) rfl (si_rng1 T.n_range se_int) (sg_name 4 sc_law.nd (hx := by first | exact .inl rfl | exact .inr rfl)) (sss_cons (ss_set 5 sc_law.nd (se_call (ok__law_rule T) (hr.mono (by decide)) T.d__law_rule.mg T.d__law_rule.kp T.d__law_rule.bd tk (sax_v 1 (sax_d (se_var 2) sax_nil))) (hx := by first | exact .inl rfl | exact .inr rfl))
  (sss_one (ss_if (st_cmp (op_neD hu4) bin_ne persD persD (se_call (ok_is_full_rule T) (hr.mono (by decide)) T.d_is_full_rule.mg T.d_is_full_rule.kp T.d_is_full_rule.bd tk (sax_d (se_var 2) (sax_d (se_var 5) sax_nil))) (se_cmp (op_inA hu) bin_in persD persD (se_var 5) (se_var 3) (by rfl)) (by rfl)) (sss_one (ss_ret se_bl)) sss_nil))))
  (sss_cons (ss_asg (se_tup (sa_cons (se_op op_addA bin_add persD persD se_int (se_call (ok__law_take T) (hr.mono (by decide)) T.d__law_take.mg T.d__law_take.kp T.d__law_take.bd tk (sax_v 1 (sax_d se_int sax_nil)))) (sa_cons (SF.se (sf_lst (sa_cons (se_tup sa_nil) sa_nil))) sa_nil))) (sg_tup rfl (sgs_cons (sg_name 6 sc_law.nd (hx := by first | exact .inl rfl | exact .inr rfl)) (sgs_cons (sg_name 7 sc_law.nd (hx := by first | exact .inl rfl | exact .inr rfl)) sgs_nil))))
  (sss_cons (ss_for (passes_of rfl) rfl (si_rng1 T.n_range (se_var 6)) (sg_name 8 sc_law.nd (hx := by first | exact .inl rfl | exact .inr rfl)) (sss_one (ss_set 7 sc_law.nd (se_op op_addA bin_add persD persD (se_var 7) (SF.se (sf_comp (own := [("row", 11)]) (is := [11]) rfl sc_law.nd (si_seq (se_var 7)) (blkOk_by (by kernel_rfl)) (by decide) (fun _ _ _ _ _ => (sg_name 11 sc_law.nd (hx := by first | exact .inl rfl | exact .inr rfl))) (fun _ _ _ _ _ => sts_nil) (fun _ _ _ _ _ => (se_op op_addA bin_add persD persD (se_var 11) (se_tup (sa_cons (se_var 8) sa_nil))))))) (hx := by first | exact .inl rfl | exact .inr rfl))))
  (sss_cons (ss_setLc 9 (own := [("places", 12)]) (is := [12]) rfl sc_law.nd (sw_true rfl rfl rfl (by decide +kernel)) (si_seq (se_var 7)) (blkOk_by (by kernel_rfl)) (by decide) (fun _ _ _ _ _ => (sg_name 12 sc_law.nd (hx := by first | exact .inl rfl | exact .inr rfl))) (fun _ _ _ _ _ => (sts_one (st_val (se_call (ok_is_wide T) (hr.mono (by decide)) T.d_is_wide.mg T.d_is_wide.kp T.d_is_wide.bd takes0 (sax_d (se_var 6) (sax_d (se_call (ok_linear_rule T) (hr.mono (by decide)) T.d_linear_rule.mg T.d_linear_rule.kp T.d_linear_rule.bd takes0 (sax_d (se_var 6) (sax_d (se_callTy call_tuple_of un_tuple persD T.n_tuple rfl (SF.se (sf_callB (cr_sortA hu) un_sortA persD T.n_sorted rfl (se_var 12)))) sax_nil))) sax_nil)))))) (fun _ _ _ _ _ => (se_var 12)))
  (sss_cons (ss_if (st_cmp (op_neD hu4) bin_ne persD persD (se_callB call_lenA un_len persD T.n_len rfl (se_var 9)) (se_ix persD persD (SF.se (sf_lst (sa_cons se_int (sa_cons se_int (sa_cons se_int (sa_cons se_int sa_nil)))))) (se_op op_sub bin_sub persD persD (se_var 6) se_int)) (by rfl)) (sss_one (ss_ret se_bl)) sss_nil)
  (sss_one (ss_ret (se_cmp (op_eqD hu4) bin_eq persD persD (SF.se (sf_comp (own := [("bad", 13)]) (is := [13]) rfl sc_law.nd (si_seq (SF.se (sf_lst (sa_cons se_non (sa_cons se_int (sa_cons se_int (sa_cons se_bl (sa_cons se_str sa_nil)))))))) (blkOk_by (by kernel_rfl)) (by decide) (fun _ _ _ _ _ => (sg_name 13 sc_law.nd (hx := by first | exact .inl rfl | exact .inr rfl))) (fun _ _ _ _ _ => sts_nil) (fun _ _ _ _ _ => (se_call (ok__law_told T) (hr.mono (by decide)) T.d__law_told.mg T.d__law_told.kp T.d__law_told.bd takes0 (sax_d (se_var 13) sax_nil))))) (se_op op_mulA bin_mul persD persD (SF.se (sf_lst (sa_cons se_str sa_nil))) se_int) (by rfl)))))))))))) (hx := by first | exact .inl rfl | exact .inr rfl))
end
set_option maxHeartbeats 4000000 in
theorem all_mk {P : Program} {w : World} {K : PySem.W.Frag} {h : Heap} {mg : Str → Option Value} {fa : Addr} (ans : ∀ ns : List Int, ns.length ≤ 63 → runB 14 1 false m_law [.scr ns] none = some (.ok (.bool true), none)) (X : K.In h) (G : h.Ns mainGlobals mg) (hfa : mg "law" = some (.ref fa))
    {f0 : Addr} {od0 an0 : Option Addr} {sl0 : Array (Option Value)} {oc0 kV0 dc0 pm0 cd0 ct0 : Value} {f1 : Addr} {od1 an1 : Option Addr} {sl1 : Array (Option Value)} {oc1 kV1 dc1 pm1 cd1 ct1 : Value} {f2 : Addr} {od2 an2 : Option Addr} {sl2 : Array (Option Value)} {oc2 kV2 dc2 pm2 cd2 ct2 : Value} {f3 : Addr} {od3 an3 : Option Addr} {sl3 : Array (Option Value)} {oc3 kV3 dc3 pm3 cd3 ct3 : Value} {f4 : Addr} {od4 an4 : Option Addr} {sl4 : Array (Option Value)} {oc4 kV4 dc4 pm4 cd4 ct4 : Value} {f5 : Addr} {od5 an5 : Option Addr} {sl5 : Array (Option Value)} {oc5 kV5 dc5 pm5 cd5 ct5 : Value} {f6 : Addr} {od6 an6 : Option Addr} {sl6 : Array (Option Value)} {oc6 kV6 dc6 pm6 cd6 ct6 : Value} {f7 : Addr} {od7 an7 : Option Addr} {sl7 : Array (Option Value)} {oc7 kV7 dc7 pm7 cd7 ct7 : Value} {f8 : Addr} {od8 an8 : Option Addr} {sl8 : Array (Option Value)} {oc8 kV8 dc8 pm8 cd8 ct8 : Value} {f9 : Addr} {od9 an9 : Option Addr} {sl9 : Array (Option Value)} {oc9 kV9 dc9 pm9 cd9 ct9 : Value} {f10 : Addr} {od10 an10 : Option Addr} {sl10 : Array (Option Value)} {oc10 kV10 dc10 pm10 cd10 ct10 : Value} {f11 : Addr} {od11 an11 : Option Addr} {sl11 : Array (Option Value)} {oc11 kV11 dc11 pm11 cd11 ct11 : Value} {f12 : Addr} {od12 an12 : Option Addr} {sl12 : Array (Option Value)} {oc12 kV12 dc12 pm12 cd12 ct12 : Value} {f13 : Addr} {od13 an13 : Option Addr} {sl13 : Array (Option Value)} {oc13 kV13 dc13 pm13 cd13 ct13 : Value} {f14 : Addr} {od14 an14 : Option Addr} {sl14 : Array (Option Value)} {oc14 kV14 dc14 pm14 cd14 ct14 : Value} {f15 : Addr} {od15 an15 : Option Addr} {sl15 : Array (Option Value)} {oc15 kV15 dc15 pm15 cd15 ct15 : Value} {f16 : Addr} {od16 an16 : Option Addr} {sl16 : Array (Option Value)} {oc16 kV16 dc16 pm16 cd16 ct16 : Value} {f17 : Addr} {od17 an17 : Option Addr} {sl17 : Array (Option Value)} {oc17 kV17 dc17 pm17 cd17 ct17 : Value} {f18 : Addr} {od18 an18 : Option Addr} {sl18 : Array (Option Value)} {oc18 kV18 dc18 pm18 cd18 ct18 : Value} {f19 : Addr} {od19 an19 : Option Addr} {sl19 : Array (Option Value)} {oc19 kV19 dc19 pm19 cd19 ct19 : Value} {f20 : Addr} {od20 an20 : Option Addr} {sl20 : Array (Option Value)} {oc20 kV20 dc20 pm20 cd20 ct20 : Value} {f21 : Addr} {od21 an21 : Option Addr} {sl21 : Array (Option Value)} {oc21 kV21 dc21 pm21 cd21 ct21 : Value} {f22 : Addr} {od22 an22 : Option Addr} {sl22 : Array (Option Value)} {oc22 kV22 dc22 pm22 cd22 ct22 : Value} {f23 : Addr} {od23 an23 : Option Addr} {sl23 : Array (Option Value)} {oc23 kV23 dc23 pm23 cd23 ct23 : Value} {f24 : Addr} {od24 an24 : Option Addr} {sl24 : Array (Option Value)} {oc24 kV24 dc24 pm24 cd24 ct24 : Value} {f25 : Addr} {od25 an25 : Option Addr} {sl25 : Array (Option Value)} {oc25 kV25 dc25 pm25 cd25 ct25 : Value} {f26 : Addr} {od26 an26 : Option Addr} {sl26 : Array (Option Value)} {oc26 kV26 dc26 pm26 cd26 ct26 : Value} {f27 : Addr} {od27 an27 : Option Addr} {sl27 : Array (Option Value)} {oc27 kV27 dc27 pm27 cd27 ct27 : Value} {t0 : Tok} {q1 : Addr} {t1_0 t1_1 : Tok} {n1 : Nat} {s1 : Array (Option Value)} {t2 : Tok} {cm : Addr}
    (a0 : PySem.W.nsIn K mainGlobals "_law_draw" = some (some (.ref f0))) (l0 : K.lookup f0 = some ⟨oc0, od0, .func (PySem.W.fnOf "_law_draw" "_law_draw" (defArgs s__law_draw) (defBody s__law_draw) (defScope s__law_draw) .none kV0 dc0 pm0 an0 cd0 ct0), sl0⟩) (c0 : PySem.W.codeIn K cd0 "_law_draw" = true) (k0 : PySem.W.keepIn K (.ref f0) = true)
    (a1 : PySem.W.nsIn K mainGlobals "_law_take" = some (some (.ref f1))) (l1 : K.lookup f1 = some ⟨oc1, od1, .func (PySem.W.fnOf "_law_take" "_law_take" (defArgs s__law_take) (defBody s__law_take) (defScope s__law_take) .none kV1 dc1 pm1 an1 cd1 ct1), sl1⟩) (c1 : PySem.W.codeIn K cd1 "_law_take" = true) (k1 : PySem.W.keepIn K (.ref f1) = true)
    (a2 : PySem.W.nsIn K mainGlobals "_law_two" = some (some (.ref f2))) (l2 : K.lookup f2 = some ⟨oc2, od2, .func (PySem.W.fnOf "_law_two" "_law_two" (defArgs s__law_two) (defBody s__law_two) (defScope s__law_two) .none kV2 dc2 pm2 an2 cd2 ct2), sl2⟩) (c2 : PySem.W.codeIn K cd2 "_law_two" = true) (k2 : PySem.W.keepIn K (.ref f2) = true)
    (a3 : PySem.W.nsIn K mainGlobals "_law_rule" = some (some (.ref f3))) (l3 : K.lookup f3 = some ⟨oc3, od3, .func (PySem.W.fnOf "_law_rule" "_law_rule" (defArgs s__law_rule) (defBody s__law_rule) (defScope s__law_rule) .none kV3 dc3 pm3 an3 cd3 ct3), sl3⟩) (c3 : PySem.W.codeIn K cd3 "_law_rule" = true) (k3 : PySem.W.keepIn K (.ref f3) = true)
    (a4 : PySem.W.nsIn K mainGlobals "_law_rows" = some (some (.ref f4))) (l4 : K.lookup f4 = some ⟨oc4, od4, .func (PySem.W.fnOf "_law_rows" "_law_rows" (defArgs s__law_rows) (defBody s__law_rows) (defScope s__law_rows) .none kV4 dc4 pm4 an4 cd4 ct4), sl4⟩) (c4 : PySem.W.codeIn K cd4 "_law_rows" = true) (k4 : PySem.W.keepIn K (.ref f4) = true)
    (a5 : PySem.W.nsIn K mainGlobals "is_whole" = some (some (.ref f5))) (l5 : K.lookup f5 = some ⟨oc5, od5, .func (PySem.W.fnOf "is_whole" "is_whole" (defArgs s_is_whole) (defBody s_is_whole) (defScope s_is_whole) .none kV5 dc5 pm5 an5 cd5 ct5), sl5⟩) (c5 : PySem.W.codeIn K cd5 "is_whole" = true) (k5 : PySem.W.keepIn K (.ref f5) = true)
    (a6 : PySem.W.nsIn K mainGlobals "is_number" = some (some (.ref f6))) (l6 : K.lookup f6 = some ⟨oc6, od6, .func (PySem.W.fnOf "is_number" "is_number" (defArgs s_is_number) (defBody s_is_number) (defScope s_is_number) .none kV6 dc6 pm6 an6 cd6 ct6), sl6⟩) (c6 : PySem.W.codeIn K cd6 "is_number" = true) (k6 : PySem.W.keepIn K (.ref f6) = true)
    (a7 : PySem.W.nsIn K mainGlobals "check_number" = some (some (.ref f7))) (l7 : K.lookup f7 = some ⟨oc7, od7, .func (PySem.W.fnOf "check_number" "check_number" (defArgs s_check_number) (defBody s_check_number) (defScope s_check_number) .none kV7 dc7 pm7 an7 cd7 ct7), sl7⟩) (c7 : PySem.W.codeIn K cd7 "check_number" = true) (k7 : PySem.W.keepIn K (.ref f7) = true)
    (a8 : PySem.W.nsIn K mainGlobals "are_signs" = some (some (.ref f8))) (l8 : K.lookup f8 = some ⟨oc8, od8, .func (PySem.W.fnOf "are_signs" "are_signs" (defArgs s_are_signs) (defBody s_are_signs) (defScope s_are_signs) .none kV8 dc8 pm8 an8 cd8 ct8), sl8⟩) (c8 : PySem.W.codeIn K cd8 "are_signs" = true) (k8 : PySem.W.keepIn K (.ref f8) = true)
    (a9 : PySem.W.nsIn K mainGlobals "power_of_two" = some (some (.ref f9))) (l9 : K.lookup f9 = some ⟨oc9, od9, .func (PySem.W.fnOf "power_of_two" "power_of_two" (defArgs s_power_of_two) (defBody s_power_of_two) (defScope s_power_of_two) .none kV9 dc9 pm9 an9 cd9 ct9), sl9⟩) (c9 : PySem.W.codeIn K cd9 "power_of_two" = true) (k9 : PySem.W.keepIn K (.ref f9) = true)
    (a10 : PySem.W.nsIn K mainGlobals "is_rule" = some (some (.ref f10))) (l10 : K.lookup f10 = some ⟨oc10, od10, .func (PySem.W.fnOf "is_rule" "is_rule" (defArgs s_is_rule) (defBody s_is_rule) (defScope s_is_rule) .none kV10 dc10 pm10 an10 cd10 ct10), sl10⟩) (c10 : PySem.W.codeIn K cd10 "is_rule" = true) (k10 : PySem.W.keepIn K (.ref f10) = true)
    (a11 : PySem.W.nsIn K mainGlobals "check_rule" = some (some (.ref f11))) (l11 : K.lookup f11 = some ⟨oc11, od11, .func (PySem.W.fnOf "check_rule" "check_rule" (defArgs s_check_rule) (defBody s_check_rule) (defScope s_check_rule) .none kV11 dc11 pm11 an11 cd11 ct11), sl11⟩) (c11 : PySem.W.codeIn K cd11 "check_rule" = true) (k11 : PySem.W.keepIn K (.ref f11) = true)
    (a12 : PySem.W.nsIn K mainGlobals "all_words" = some (some (.ref f12))) (l12 : K.lookup f12 = some ⟨oc12, od12, .func (PySem.W.fnOf "all_words" "all_words" (defArgs s_all_words) (defBody s_all_words) (defScope s_all_words) .none kV12 dc12 pm12 an12 cd12 ct12), sl12⟩) (c12 : PySem.W.codeIn K cd12 "all_words" = true) (k12 : PySem.W.keepIn K (.ref f12) = true)
    (a13 : PySem.W.nsIn K mainGlobals "place_of" = some (some (.ref f13))) (l13 : K.lookup f13 = some ⟨oc13, od13, .func (PySem.W.fnOf "place_of" "place_of" (defArgs s_place_of) (defBody s_place_of) (defScope s_place_of) .none kV13 dc13 pm13 an13 cd13 ct13), sl13⟩) (c13 : PySem.W.codeIn K cd13 "place_of" = true) (k13 : PySem.W.keepIn K (.ref f13) = true)
    (a14 : PySem.W.nsIn K mainGlobals "next_word" = some (some (.ref f14))) (l14 : K.lookup f14 = some ⟨oc14, od14, .func (PySem.W.fnOf "next_word" "next_word" (defArgs s_next_word) (defBody s_next_word) (defScope s_next_word) .none kV14 dc14 pm14 an14 cd14 ct14), sl14⟩) (c14 : PySem.W.codeIn K cd14 "next_word" = true) (k14 : PySem.W.keepIn K (.ref f14) = true)
    (a15 : PySem.W.nsIn K mainGlobals "ring_of" = some (some (.ref f15))) (l15 : K.lookup f15 = some ⟨oc15, od15, .func (PySem.W.fnOf "ring_of" "ring_of" (defArgs s_ring_of) (defBody s_ring_of) (defScope s_ring_of) .none kV15 dc15 pm15 an15 cd15 ct15), sl15⟩) (c15 : PySem.W.codeIn K cd15 "ring_of" = true) (k15 : PySem.W.keepIn K (.ref f15) = true)
    (a16 : PySem.W.nsIn K mainGlobals "found_rings" = some (some (.ref f16))) (l16 : K.lookup f16 = some ⟨oc16, od16, .func (PySem.W.fnOf "found_rings" "found_rings" (defArgs s_found_rings) (defBody s_found_rings) (defScope s_found_rings) .none kV16 dc16 pm16 an16 cd16 ct16), sl16⟩) (c16 : PySem.W.codeIn K cd16 "found_rings" = true) (k16 : PySem.W.keepIn K (.ref f16) = true)
    (a17 : PySem.W.nsIn K mainGlobals "is_full_rule" = some (some (.ref f17))) (l17 : K.lookup f17 = some ⟨oc17, od17, .func (PySem.W.fnOf "is_full_rule" "is_full_rule" (defArgs s_is_full_rule) (defBody s_is_full_rule) (defScope s_is_full_rule) .none kV17 dc17 pm17 an17 cd17 ct17), sl17⟩) (c17 : PySem.W.codeIn K cd17 "is_full_rule" = true) (k17 : PySem.W.keepIn K (.ref f17) = true)
    (a18 : PySem.W.nsIn K mainGlobals "summing" = some (some (.ref f18))) (l18 : K.lookup f18 = some ⟨oc18, od18, .func (PySem.W.fnOf "summing" "summing" (defArgs s_summing) (defBody s_summing) (defScope s_summing) .none kV18 dc18 pm18 an18 cd18 ct18), sl18⟩) (c18 : PySem.W.codeIn K cd18 "summing" = true) (k18 : PySem.W.keepIn K (.ref f18) = true)
    (a19 : PySem.W.nsIn K mainGlobals "places_of" = some (some (.ref f19))) (l19 : K.lookup f19 = some ⟨oc19, od19, .func (PySem.W.fnOf "places_of" "places_of" (defArgs s_places_of) (defBody s_places_of) (defScope s_places_of) .none kV19 dc19 pm19 an19 cd19 ct19), sl19⟩) (c19 : PySem.W.codeIn K cd19 "places_of" = true) (k19 : PySem.W.keepIn K (.ref f19) = true)
    (a20 : PySem.W.nsIn K mainGlobals "is_wide" = some (some (.ref f20))) (l20 : K.lookup f20 = some ⟨oc20, od20, .func (PySem.W.fnOf "is_wide" "is_wide" (defArgs s_is_wide) (defBody s_is_wide) (defScope s_is_wide) .none kV20 dc20 pm20 an20 cd20 ct20), sl20⟩) (c20 : PySem.W.codeIn K cd20 "is_wide" = true) (k20 : PySem.W.keepIn K (.ref f20) = true)
    (a21 : PySem.W.nsIn K mainGlobals "found_turnable" = some (some (.ref f21))) (l21 : K.lookup f21 = some ⟨oc21, od21, .func (PySem.W.fnOf "found_turnable" "found_turnable" (defArgs s_found_turnable) (defBody s_found_turnable) (defScope s_found_turnable) .none kV21 dc21 pm21 an21 cd21 ct21), sl21⟩) (c21 : PySem.W.codeIn K cd21 "found_turnable" = true) (k21 : PySem.W.keepIn K (.ref f21) = true)
    (a22 : PySem.W.nsIn K mainGlobals "full_rules" = some (some (.ref f22))) (l22 : K.lookup f22 = some ⟨oc22, od22, .func (PySem.W.fnOf "full_rules" "full_rules" (defArgs s_full_rules) (defBody s_full_rules) (defScope s_full_rules) .none kV22 dc22 pm22 an22 cd22 ct22), sl22⟩) (c22 : PySem.W.codeIn K cd22 "full_rules" = true) (k22 : PySem.W.keepIn K (.ref f22) = true)
    (a23 : PySem.W.nsIn K mainGlobals "_law_told" = some (some (.ref f23))) (l23 : K.lookup f23 = some ⟨oc23, od23, .func (PySem.W.fnOf "_law_told" "_law_told" (defArgs s__law_told) (defBody s__law_told) (defScope s__law_told) .none kV23 dc23 pm23 an23 cd23 ct23), sl23⟩) (c23 : PySem.W.codeIn K cd23 "_law_told" = true) (k23 : PySem.W.keepIn K (.ref f23) = true)
    (a24 : PySem.W.nsIn K mainGlobals "linear_rule" = some (some (.ref f24))) (l24 : K.lookup f24 = some ⟨oc24, od24, .func (PySem.W.fnOf "linear_rule" "linear_rule" (defArgs s_linear_rule) (defBody s_linear_rule) (defScope s_linear_rule) .none kV24 dc24 pm24 an24 cd24 ct24), sl24⟩) (c24 : PySem.W.codeIn K cd24 "linear_rule" = true) (k24 : PySem.W.keepIn K (.ref f24) = true)
    (a25 : PySem.W.nsIn K mainGlobals "_law_next" = some (some (.ref f25))) (l25 : K.lookup f25 = some ⟨oc25, od25, .func (PySem.W.fnOf "_law_next" "_law_next" (defArgs s__law_next) (defBody s__law_next) (defScope s__law_next) .none kV25 dc25 pm25 an25 cd25 ct25), sl25⟩) (c25 : PySem.W.codeIn K cd25 "_law_next" = true) (k25 : PySem.W.keepIn K (.ref f25) = true)
    (a26 : PySem.W.nsIn K mainGlobals "_law_rings" = some (some (.ref f26))) (l26 : K.lookup f26 = some ⟨oc26, od26, .func (PySem.W.fnOf "_law_rings" "_law_rings" (defArgs s__law_rings) (defBody s__law_rings) (defScope s__law_rings) .none kV26 dc26 pm26 an26 cd26 ct26), sl26⟩) (c26 : PySem.W.codeIn K cd26 "_law_rings" = true) (k26 : PySem.W.keepIn K (.ref f26) = true)
    (a27 : PySem.W.nsIn K mainGlobals "law" = some (some (.ref f27))) (l27 : K.lookup f27 = some ⟨oc27, od27, .func (PySem.W.fnOf "law" "law" (defArgs s_law) (defBody s_law) (defScope s_law) .none kV27 dc27 pm27 an27 cd27 ct27), sl27⟩) (c27 : PySem.W.codeIn K cd27 "law" = true) (k27 : PySem.W.keepIn K (.ref f27) = true)
    (z0 : PySem.W.nsIn K mainGlobals "abs" = some none)
    (z1 : PySem.W.nsIn K mainGlobals "all" = some none)
    (z2 : PySem.W.nsIn K mainGlobals "any" = some none)
    (z3 : PySem.W.nsIn K mainGlobals "bool" = some none)
    (z4 : PySem.W.nsIn K mainGlobals "int" = some none)
    (z5 : PySem.W.nsIn K mainGlobals "isinstance" = some none)
    (z6 : PySem.W.nsIn K mainGlobals "len" = some none)
    (z7 : PySem.W.nsIn K mainGlobals "range" = some none)
    (z8 : PySem.W.nsIn K mainGlobals "repr" = some none)
    (z9 : PySem.W.nsIn K mainGlobals "set" = some none)
    (z10 : PySem.W.nsIn K mainGlobals "sorted" = some none)
    (z11 : PySem.W.nsIn K mainGlobals "sum" = some none)
    (z12 : PySem.W.nsIn K mainGlobals "tuple" = some none)
    (z13 : PySem.W.nsIn K mainGlobals "zip" = some none)
    (g0 : PySem.W.nsIn K mainGlobals "MOST_SIGNS" = some (some (.int 4 t0)))
    (g1 : PySem.W.nsIn K mainGlobals "INPUTS" = some (some (.ref q1))) (h1 : K.lookup q1 = some ⟨.type "tuple", none, .seq #[.int 0 t1_0, .int 1 t1_1] n1, s1⟩)
    (g2 : PySem.W.nsIn K mainGlobals "MOST_FULL" = some (some (.int 3 t2)))
    (xg : PySem.W.nsIn K mainGlobals "Malformed" = some (some (.ref cm))) (xq : PySem.W.excIn K cm [.type "ValueError", .type "Exception", .type "BaseException", .type "object"] "ValueError.__new__" = true) (xk : PySem.W.keepIn K (.ref cm) = true) (xb : PySem.W.subIn K (.ref cm) (.type "BaseException") = some true) (xt : PySem.W.typeIn K (.ref cm) = some (.type "type")) (xi : PySem.W.isClsIn K cm = true) (xs : PySem.W.subIn K (.ref cm) (.ref cm) = some true)
    : ∃ C st N fd m, LawTxt P w K mg fa 7 C st N fd m := by
  have e := hfa.symm.trans (PySem.W.mg_of X G a27)
  cases e
  have F0 := fun_mk (st := s__law_draw) l0 c0 k0
  have F1 := fun_mk (st := s__law_take) l1 c1 k1
  have F2 := fun_mk (st := s__law_two) l2 c2 k2
  have F3 := fun_mk (st := s__law_rule) l3 c3 k3
  have F4 := fun_mk (st := s__law_rows) l4 c4 k4
  have F5 := fun_mk (st := s_is_whole) l5 c5 k5
  have F6 := fun_mk (st := s_is_number) l6 c6 k6
  have F7 := fun_mk (st := s_check_number) l7 c7 k7
  have F8 := fun_mk (st := s_are_signs) l8 c8 k8
  have F9 := fun_mk (st := s_power_of_two) l9 c9 k9
  have F10 := fun_mk (st := s_is_rule) l10 c10 k10
  have F11 := fun_mk (st := s_check_rule) l11 c11 k11
  have F12 := fun_mk (st := s_all_words) l12 c12 k12
  have F13 := fun_mk (st := s_place_of) l13 c13 k13
  have F14 := fun_mk (st := s_next_word) l14 c14 k14
  have F15 := fun_mk (st := s_ring_of) l15 c15 k15
  have F16 := fun_mk (st := s_found_rings) l16 c16 k16
  have F17 := fun_mk (st := s_is_full_rule) l17 c17 k17
  have F18 := fun_mk (st := s_summing) l18 c18 k18
  have F19 := fun_mk (st := s_places_of) l19 c19 k19
  have F20 := fun_mk (st := s_is_wide) l20 c20 k20
  have F21 := fun_mk (st := s_found_turnable) l21 c21 k21
  have F22 := fun_mk (st := s_full_rules) l22 c22 k22
  have F23 := fun_mk (st := s__law_told) l23 c23 k23
  have F24 := fun_mk (st := s_linear_rule) l24 c24 k24
  have F25 := fun_mk (st := s__law_next) l25 c25 k25
  have F26 := fun_mk (st := s__law_rings) l26 c26 k26
  have F27 := fun_mk (st := s_law) l27 c27 k27
  have T : Tx K mg { f__law_draw := f0, fd__law_draw := _, f__law_take := f1, fd__law_take := _, f__law_two := f2, fd__law_two := _, f__law_rule := f3, fd__law_rule := _, f__law_rows := f4, fd__law_rows := _, f_is_whole := f5, fd_is_whole := _, f_is_number := f6, fd_is_number := _, f_check_number := f7, fd_check_number := _, f_are_signs := f8, fd_are_signs := _, f_power_of_two := f9, fd_power_of_two := _, f_is_rule := f10, fd_is_rule := _, f_check_rule := f11, fd_check_rule := _, f_all_words := f12, fd_all_words := _, f_place_of := f13, fd_place_of := _, f_next_word := f14, fd_next_word := _, f_ring_of := f15, fd_ring_of := _, f_found_rings := f16, fd_found_rings := _, f_is_full_rule := f17, fd_is_full_rule := _, f_summing := f18, fd_summing := _, f_places_of := f19, fd_places_of := _, f_is_wide := f20, fd_is_wide := _, f_found_turnable := f21, fd_found_turnable := _, f_full_rules := f22, fd_full_rules := _, f__law_told := f23, fd__law_told := _, f_linear_rule := f24, fd_linear_rule := _, f__law_next := f25, fd__law_next := _, f__law_rings := f26, fd__law_rings := _, f_law := fa, fd_law := _, c := ⟨cm, cm, cm⟩ } := {
    d__law_draw := ⟨F0, PySem.W.mg_of X G a0, k0, F0.binds (ps := ["script"]) fun _ _ _ _ _ _ us hl => match us, hl with | [_], _ => rfl⟩
    d__law_take := ⟨F1, PySem.W.mg_of X G a1, k1, F1.binds (ps := ["draw", "many"]) fun _ _ _ _ _ _ us hl => match us, hl with | [_, _], _ => rfl⟩
    d__law_two := ⟨F2, PySem.W.mg_of X G a2, k2, F2.binds (ps := ["n"]) fun _ _ _ _ _ _ us hl => match us, hl with | [_], _ => rfl⟩
    d__law_rule := ⟨F3, PySem.W.mg_of X G a3, k3, F3.binds (ps := ["draw", "n"]) fun _ _ _ _ _ _ us hl => match us, hl with | [_, _], _ => rfl⟩
    d__law_rows := ⟨F4, PySem.W.mg_of X G a4, k4, F4.binds (ps := ["length"]) fun _ _ _ _ _ _ us hl => match us, hl with | [_], _ => rfl⟩
    d_is_whole := ⟨F5, PySem.W.mg_of X G a5, k5, F5.binds (ps := ["value"]) fun _ _ _ _ _ _ us hl => match us, hl with | [_], _ => rfl⟩
    d_is_number := ⟨F6, PySem.W.mg_of X G a6, k6, F6.binds (ps := ["n", "most"]) fun _ _ _ _ _ _ us hl => match us, hl with | [_, _], _ => rfl⟩
    d_check_number := ⟨F7, PySem.W.mg_of X G a7, k7, F7.binds (ps := ["n", "most"]) fun _ _ _ _ _ _ us hl => match us, hl with | [_, _], _ => rfl⟩
    d_are_signs := ⟨F8, PySem.W.mg_of X G a8, k8, F8.binds (ps := ["value"]) fun _ _ _ _ _ _ us hl => match us, hl with | [_], _ => rfl⟩
    d_power_of_two := ⟨F9, PySem.W.mg_of X G a9, k9, F9.binds (ps := ["n"]) fun _ _ _ _ _ _ us hl => match us, hl with | [_], _ => rfl⟩
    d_is_rule := ⟨F10, PySem.W.mg_of X G a10, k10, F10.binds (ps := ["n", "value"]) fun _ _ _ _ _ _ us hl => match us, hl with | [_, _], _ => rfl⟩
    d_check_rule := ⟨F11, PySem.W.mg_of X G a11, k11, F11.binds (ps := ["n", "rule"]) fun _ _ _ _ _ _ us hl => match us, hl with | [_, _], _ => rfl⟩
    d_all_words := ⟨F12, PySem.W.mg_of X G a12, k12, F12.binds (ps := ["n"]) fun _ _ _ _ _ _ us hl => match us, hl with | [_], _ => rfl⟩
    d_place_of := ⟨F13, PySem.W.mg_of X G a13, k13, F13.binds (ps := ["word"]) fun _ _ _ _ _ _ us hl => match us, hl with | [_], _ => rfl⟩
    d_next_word := ⟨F14, PySem.W.mg_of X G a14, k14, F14.binds (ps := ["rule", "word"]) fun _ _ _ _ _ _ us hl => match us, hl with | [_, _], _ => rfl⟩
    d_ring_of := ⟨F15, PySem.W.mg_of X G a15, k15, F15.binds (ps := ["rule", "word"]) fun _ _ _ _ _ _ us hl => match us, hl with | [_, _], _ => rfl⟩
    d_found_rings := ⟨F16, PySem.W.mg_of X G a16, k16, F16.binds (ps := ["n", "rule"]) fun _ _ _ _ _ _ us hl => match us, hl with | [_, _], _ => rfl⟩
    d_is_full_rule := ⟨F17, PySem.W.mg_of X G a17, k17, F17.binds (ps := ["n", "rule"]) fun _ _ _ _ _ _ us hl => match us, hl with | [_, _], _ => rfl⟩
    d_summing := ⟨F18, PySem.W.mg_of X G a18, k18, F18.binds (ps := ["n", "places"]) fun _ _ _ _ _ _ us hl => match us, hl with | [_, _], _ => rfl⟩
    d_places_of := ⟨F19, PySem.W.mg_of X G a19, k19, F19.binds (ps := ["n"]) fun _ _ _ _ _ _ us hl => match us, hl with | [_], _ => rfl⟩
    d_is_wide := ⟨F20, PySem.W.mg_of X G a20, k20, F20.binds (ps := ["n", "rule"]) fun _ _ _ _ _ _ us hl => match us, hl with | [_, _], _ => rfl⟩
    d_found_turnable := ⟨F21, PySem.W.mg_of X G a21, k21, F21.binds (ps := ["n", "rule"]) fun _ _ _ _ _ _ us hl => match us, hl with | [_, _], _ => rfl⟩
    d_full_rules := ⟨F22, PySem.W.mg_of X G a22, k22, F22.binds (ps := ["n"]) fun _ _ _ _ _ _ us hl => match us, hl with | [_], _ => rfl⟩
    d__law_told := ⟨F23, PySem.W.mg_of X G a23, k23, F23.binds (ps := ["n"]) fun _ _ _ _ _ _ us hl => match us, hl with | [_], _ => rfl⟩
    d_linear_rule := ⟨F24, PySem.W.mg_of X G a24, k24, F24.binds (ps := ["n", "places"]) fun _ _ _ _ _ _ us hl => match us, hl with | [_, _], _ => rfl⟩
    d__law_next := ⟨F25, PySem.W.mg_of X G a25, k25, F25.binds (ps := ["rule", "word"]) fun _ _ _ _ _ _ us hl => match us, hl with | [_, _], _ => rfl⟩
    d__law_rings := ⟨F26, PySem.W.mg_of X G a26, k26, F26.binds (ps := ["n", "rule"]) fun _ _ _ _ _ _ us hl => match us, hl with | [_, _], _ => rfl⟩
    d_law := ⟨F27, PySem.W.mg_of X G a27, k27, F27.binds (ps := ["script"]) fun _ _ _ _ _ _ us hl => match us, hl with | [_], _ => rfl⟩
    n_abs := PySem.W.mg_none_of X G z0
    n_all := PySem.W.mg_none_of X G z1
    n_any := PySem.W.mg_none_of X G z2
    n_bool := PySem.W.mg_none_of X G z3
    n_int := PySem.W.mg_none_of X G z4
    n_isinstance := PySem.W.mg_none_of X G z5
    n_len := PySem.W.mg_none_of X G z6
    n_range := PySem.W.mg_none_of X G z7
    n_repr := PySem.W.mg_none_of X G z8
    n_set := PySem.W.mg_none_of X G z9
    n_sorted := PySem.W.mg_none_of X G z10
    n_sum := PySem.W.mg_none_of X G z11
    n_tuple := PySem.W.mg_none_of X G z12
    n_zip := PySem.W.mg_none_of X G z13
    g_MOST_SIGNS := ⟨_, .int 4, PySem.W.mg_of X G g0, ⟨_, rfl⟩, fun _ _ => .int _⟩
    g_INPUTS := ⟨_, q1, PySem.W.mg_of X G g1, rfl, fun _ => .inr ⟨_, _, _, h1, rfl, rfl, Nat.le_trans (show 2 ≤ 16777216 by decide) (Nat.le_of_eq sizeLine_eq.symm), (.cons ⟨_, rfl⟩ (.cons ⟨_, rfl⟩ .nil))⟩⟩
    g_MOST_FULL := ⟨_, .int 3, PySem.W.mg_of X G g2, ⟨_, rfl⟩, fun _ _ => .int _⟩
    x_m := ⟨PySem.W.mg_of X G xg, xq, xk, fun {Y} e => raises_own (by rw [e]; exact xb) (by rw [e]; exact xt), fun y cls d H q => by cases y <;> (obtain ⟨rfl, _⟩ := q; exact exm_own xb xi xt xs)⟩
  }
  exact ⟨_, s_law, _, _, m_law, T.d_law.fn, sc_law, fun s v => .of_eq rfl, body_law T, ans⟩
end Lw

open PySem PySem.W PyProof.Rows
set_option maxRecDepth 100000 in
set_option maxHeartbeats 0 in
theorem PySem.Challenge.cw_boxkinds_k66_rules_with_one_ring_holds : PySem.Challenge.rw_boxkinds_k66_rules_with_one_ring.Holds := by
  w_on; o_law; k_head; (case hw => w_witness2)
  k_fill
  refine DL.walk_law (l := PySem.Challenge.rw_boxkinds_k66_rules_with_one_ring) (k := 7) rfl rfl ⟨rfl, by decide, by decide⟩ (fun w h Y => PySem.W.kIn_of Y) ?F
  case F =>
    intro w mg fa h KX G hmg
    refine' Lw.all_mk Lw.ans KX G hmg ?va0 ?vl0 ?vc0 ?vk0 ?va1 ?vl1 ?vc1 ?vk1 ?va2 ?vl2 ?vc2 ?vk2 ?va3 ?vl3 ?vc3 ?vk3 ?va4 ?vl4 ?vc4 ?vk4 ?va5 ?vl5 ?vc5 ?vk5 ?va6 ?vl6 ?vc6 ?vk6 ?va7 ?vl7 ?vc7 ?vk7 ?va8 ?vl8 ?vc8 ?vk8 ?va9 ?vl9 ?vc9 ?vk9 ?va10 ?vl10 ?vc10 ?vk10 ?va11 ?vl11 ?vc11 ?vk11 ?va12 ?vl12 ?vc12 ?vk12 ?va13 ?vl13 ?vc13 ?vk13 ?va14 ?vl14 ?vc14 ?vk14 ?va15 ?vl15 ?vc15 ?vk15 ?va16 ?vl16 ?vc16 ?vk16 ?va17 ?vl17 ?vc17 ?vk17 ?va18 ?vl18 ?vc18 ?vk18 ?va19 ?vl19 ?vc19 ?vk19 ?va20 ?vl20 ?vc20 ?vk20 ?va21 ?vl21 ?vc21 ?vk21 ?va22 ?vl22 ?vc22 ?vk22 ?va23 ?vl23 ?vc23 ?vk23 ?va24 ?vl24 ?vc24 ?vk24 ?va25 ?vl25 ?vc25 ?vk25 ?va26 ?vl26 ?vc26 ?vk26 ?va27 ?vl27 ?vc27 ?vk27 ?vz0 ?vz1 ?vz2 ?vz3 ?vz4 ?vz5 ?vz6 ?vz7 ?vz8 ?vz9 ?vz10 ?vz11 ?vz12 ?vz13 ?vg0 ?vg1 ?vh1 ?vg2 ?vxg ?vxq ?vxk ?vxb ?vxt ?vxi ?vxs
    (case va0 => k_is)
    (case vl0 => k_is)
    (case vc0 => k_is)
    (case vk0 => k_is)
    (case va1 => k_is)
    (case vl1 => k_is)
    (case vc1 => k_is)
    (case vk1 => k_is)
    (case va2 => k_is)
    (case vl2 => k_is)
    (case vc2 => k_is)
    (case vk2 => k_is)
    (case va3 => k_is)
    (case vl3 => k_is)
    (case vc3 => k_is)
    (case vk3 => k_is)
    (case va4 => k_is)
    (case vl4 => k_is)
    (case vc4 => k_is)
    (case vk4 => k_is)
    (case va5 => k_is)
    (case vl5 => k_is)
    (case vc5 => k_is)
    (case vk5 => k_is)
    (case va6 => k_is)
    (case vl6 => k_is)
    (case vc6 => k_is)
    (case vk6 => k_is)
    (case va7 => k_is)
    (case vl7 => k_is)
    (case vc7 => k_is)
    (case vk7 => k_is)
    (case va8 => k_is)
    (case vl8 => k_is)
    (case vc8 => k_is)
    (case vk8 => k_is)
    (case va9 => k_is)
    (case vl9 => k_is)
    (case vc9 => k_is)
    (case vk9 => k_is)
    (case va10 => k_is)
    (case vl10 => k_is)
    (case vc10 => k_is)
    (case vk10 => k_is)
    (case va11 => k_is)
    (case vl11 => k_is)
    (case vc11 => k_is)
    (case vk11 => k_is)
    (case va12 => k_is)
    (case vl12 => k_is)
    (case vc12 => k_is)
    (case vk12 => k_is)
    (case va13 => k_is)
    (case vl13 => k_is)
    (case vc13 => k_is)
    (case vk13 => k_is)
    (case va14 => k_is)
    (case vl14 => k_is)
    (case vc14 => k_is)
    (case vk14 => k_is)
    (case va15 => k_is)
    (case vl15 => k_is)
    (case vc15 => k_is)
    (case vk15 => k_is)
    (case va16 => k_is)
    (case vl16 => k_is)
    (case vc16 => k_is)
    (case vk16 => k_is)
    (case va17 => k_is)
    (case vl17 => k_is)
    (case vc17 => k_is)
    (case vk17 => k_is)
    (case va18 => k_is)
    (case vl18 => k_is)
    (case vc18 => k_is)
    (case vk18 => k_is)
    (case va19 => k_is)
    (case vl19 => k_is)
    (case vc19 => k_is)
    (case vk19 => k_is)
    (case va20 => k_is)
    (case vl20 => k_is)
    (case vc20 => k_is)
    (case vk20 => k_is)
    (case va21 => k_is)
    (case vl21 => k_is)
    (case vc21 => k_is)
    (case vk21 => k_is)
    (case va22 => k_is)
    (case vl22 => k_is)
    (case vc22 => k_is)
    (case vk22 => k_is)
    (case va23 => k_is)
    (case vl23 => k_is)
    (case vc23 => k_is)
    (case vk23 => k_is)
    (case va24 => k_is)
    (case vl24 => k_is)
    (case vc24 => k_is)
    (case vk24 => k_is)
    (case va25 => k_is)
    (case vl25 => k_is)
    (case vc25 => k_is)
    (case vk25 => k_is)
    (case va26 => k_is)
    (case vl26 => k_is)
    (case vc26 => k_is)
    (case vk26 => k_is)
    (case va27 => k_is)
    (case vl27 => k_is)
    (case vc27 => k_is)
    (case vk27 => k_is)
    (case vz0 => k_is)
    (case vz1 => k_is)
    (case vz2 => k_is)
    (case vz3 => k_is)
    (case vz4 => k_is)
    (case vz5 => k_is)
    (case vz6 => k_is)
    (case vz7 => k_is)
    (case vz8 => k_is)
    (case vz9 => k_is)
    (case vz10 => k_is)
    (case vz11 => k_is)
    (case vz12 => k_is)
    (case vz13 => k_is)
    (case vg0 => k_is)
    (case vg1 => k_is)
    (case vh1 => k_is)
    (case vg2 => k_is)
    (case vxg => k_is)
    (case vxq => k_exc)
    (case vxk => k_is)
    (case vxb => k_is)
    (case vxt => k_is)
    (case vxi => k_is)
    (case vxs => k_is)
