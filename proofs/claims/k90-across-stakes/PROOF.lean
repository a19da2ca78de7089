import PyProof.Rows.All
import Wide.All
import OpenK.AllK
import Wide.FinOn
import HandS.ForMost
import HandS.Walk
import HandS.Zip
import HandS.Wide
import HandS.TupAny
import HandS.Style
import HandS.IsInst
import KE.KTupSum
import HandS.TupSets
import HandS.TupMul
import KE.KDictCopyH
import HandS.Conv
import PyProof.P3Eq
import PySem.Challenge.RW_toldnoless_k90_whole_across_stakes
set_option Elab.async false
set_option linter.all false
set_option maxRecDepth 100000
/-! J1: data D, what stands for it in the heap, the regime R, slots, the transformers E (expressions) and their rules. -/
namespace J
open PySem PySem.Spec L2

/-! ### data -/
inductive D where
  | non | bl (b : Bool) | int (i : Int) | str (x : Str) | tup (xs : List D) | lst (xs : List D) | hdl (a : Addr) | scr (ns : List Int)

def D.items : D → Option (List D)
  | .tup ds => some ds
  | .lst ds => some ds
  | _ => none
def D.isT : D → Bool
  | .tup _ => true
  | _ => false
/-- a list that will not change any more -/
def LF (_K : PySem.W.Frag) (H : Hp) (a : Addr) (xs : List V) : Prop := ∃ o, H a = some (.frz o (.lst xs))
theorem LF.sq {K : PySem.W.Frag} {H : Hp} {a : Addr} {xs : List V} (h : LF K H a xs) : SqL K H a xs := by
  obtain ⟨o, h⟩ := h
  exact .inl (.inr ⟨o, h⟩)
theorem LF.rd {K : PySem.W.Frag} {H : Hp} {a : Addr} {xs : List V} (h : LF K H a xs) : Rd H a (.lst xs) := .inr h

/-- a list that will not change any more, of the heap or of what is kept -/
def LK (K : PySem.W.Frag) (H : Hp) (a : Addr) (xs : List V) : Prop := LF K H a xs ∨ ∃ (o : Obj) (its : Array Value) (n : Nat), K.lookup a = some o ∧ o.cls = .type "list" ∧ o.dict = none ∧ o.data = .seq its n ∧ its.size ≤ sizeLine ∧ Vals xs its.toList
theorem LK.sq {K : PySem.W.Frag} {H : Hp} {a : Addr} {xs : List V} (h : LK K H a xs) : SqL K H a xs := by
  rcases h with h | h
  · exact h.sq
  · exact .inr h
mutual
inductive Den (K : PySem.W.Frag) (H : Hp) : D → V → Prop
  | non : Den K H .non .non
  | bl (b : Bool) : Den K H (.bl b) (.bl b)
  | int (i : Int) : Den K H (.int i) (.int i)
  | str (x : Str) : Den K H (.str x) (.str x)
  | tup {a : Addr} {xs : List V} {ds : List D} : H a = some (.tup xs) → Dens K H ds xs → Den K H (.tup ds) (.ref a)
  | lst {a : Addr} {xs : List V} {ds : List D} : LF K H a xs → Dens K H ds xs → Den K H (.lst ds) (.ref a)
  | hdl (a : Addr) : Den K H (.hdl a) (.ref a)
  | scr {a : Addr} {ns : List Int} : LK K H a (ns.map V.int) → Den K H (.scr ns) (.ref a)
inductive Dens (K : PySem.W.Frag) (H : Hp) : List D → List V → Prop
  | nil : Dens K H [] []
  | cons {d : D} {v : V} {ds : List D} {vs : List V} : Den K H d v → Dens K H ds vs → Dens K H (d :: ds) (v :: vs)
end

/-- what never changes is as it was -/
structure Ext (H H' : Hp) : Prop where
  tup : ∀ a xs, H a = some (.tup xs) → H' a = some (.tup xs)
  frz : ∀ a o u, H a = some (.frz o u) → H' a = some (.frz o u)
theorem Ext.refl {H : Hp} : Ext H H := ⟨fun _ _ h => h, fun _ _ _ h => h⟩
theorem Ext.trans {H H1 H2 : Hp} (a : Ext H H1) (b : Ext H1 H2) : Ext H H2 := ⟨fun c xs h => b.tup c xs (a.tup c xs h), fun c o u h => b.frz c o u (a.frz c o u h)⟩
theorem Ext.sqT {K : PySem.W.Frag} {H H' : Hp} (e : Ext H H') {a : Addr} {xs : List V} (h : SqT K H a xs) : SqT K H' a xs := by
  rcases h with (h | ⟨o, h⟩) | h
  · exact .inl (.inl (e.tup _ _ h))
  · exact .inl (.inr ⟨o, e.frz _ _ _ h⟩)
  · exact .inr h
theorem Ext.lf {K : PySem.W.Frag} {H H' : Hp} (e : Ext H H') {a : Addr} {xs : List V} (h : LF K H a xs) : LF K H' a xs := by
  obtain ⟨o, h⟩ := h
  exact ⟨o, e.frz _ _ _ h⟩
theorem Ext.lk {K : PySem.W.Frag} {H H' : Hp} (e : Ext H H') {a : Addr} {xs : List V} (h : LK K H a xs) : LK K H' a xs := by
  rcases h with h | h
  · exact .inl (e.lf h)
  · exact .inr h
section
variable {K : PySem.W.Frag} {H H' : Hp}
mutual
theorem Den.ext (e : Ext H H') : ∀ {d : D} {v : V}, Den K H d v → Den K H' d v
  | _, _, .non => .non
  | _, _, .bl b => .bl b
  | _, _, .int i => .int i
  | _, _, .str x => .str x
  | _, _, .tup h hs => .tup (e.tup _ _ h) (Dens.ext e hs)
  | _, _, .lst h hs => .lst (e.lf h) (Dens.ext e hs)
  | _, _, .hdl a => .hdl a
  | _, _, .scr h => .scr (e.lk h)
theorem Dens.ext (e : Ext H H') : ∀ {ds : List D} {vs : List V}, Dens K H ds vs → Dens K H' ds vs
  | _, _, .nil => .nil
  | _, _, .cons h hs => .cons (Den.ext e h) (Dens.ext e hs)
end
theorem Dens.len : ∀ {ds : List D} {vs : List V}, Dens K H ds vs → ds.length = vs.length
  | _, _, .nil => rfl
  | _, _, .cons _ hs => by rw [List.length_cons, List.length_cons, hs.len]
theorem Dens.get : ∀ {ds : List D} {vs : List V} {i : Nat} {d : D}, Dens K H ds vs → ds[i]? = some d → ∃ v, vs[i]? = some v ∧ Den K H d v
  | _, _, _, _, .nil, e => by simp at e
  | _, _, 0, _, .cons h _, e => by simp at e; subst e; exact ⟨_, rfl, h⟩
  | _, _, i + 1, d, .cons _ hs, e => by
    obtain ⟨v, h1, h2⟩ := Dens.get (i := i) (d := d) hs (by simpa using e)
    exact ⟨v, by simpa using h1, h2⟩
theorem Dens.getV : ∀ {ds : List D} {vs : List V} {i : Nat} {v : V}, Dens K H ds vs → vs[i]? = some v → ∃ d, ds[i]? = some d ∧ Den K H d v
  | _, _, _, _, .nil, e => by simp at e
  | _, _, 0, _, .cons h _, e => by simp at e; subst e; exact ⟨_, rfl, h⟩
  | _, _, i + 1, v, .cons _ hs, e => by
    obtain ⟨d, h1, h2⟩ := Dens.getV (i := i) (v := v) hs (by simpa using e)
    exact ⟨d, by simpa using h1, h2⟩
theorem Dens.app : ∀ {ds es : List D} {vs us : List V}, Dens K H ds vs → Dens K H es us → Dens K H (ds ++ es) (vs ++ us)
  | _, _, _, _, .nil, h => h
  | _, _, _, _, .cons h hs, h' => .cons h (hs.app h')
theorem Dens.take : ∀ {ds : List D} {vs : List V} (n : Nat), Dens K H ds vs → Dens K H (ds.take n) (vs.take n)
  | _, _, 0, _ => .nil
  | _, _, _ + 1, .nil => .nil
  | _, _, n + 1, .cons h hs => .cons h (hs.take n)
theorem Dens.drop : ∀ {ds : List D} {vs : List V} (n : Nat), Dens K H ds vs → Dens K H (ds.drop n) (vs.drop n)
  | _, _, 0, h => h
  | _, _, _ + 1, .nil => .nil
  | _, _, n + 1, .cons _ hs => hs.drop n
theorem Dens.setD : ∀ {ds : List D} {vs : List V} (i : Nat) {d : D} {v : V}, Dens K H ds vs → Den K H d v → Dens K H (ds.set i d) (vs.set i v)
  | _, _, _, _, _, .nil, _ => .nil
  | _, _, 0, _, _, .cons _ hs, h' => .cons h' hs
  | _, _, i + 1, _, _, .cons h hs, h' => .cons h (hs.setD i h')
theorem Dens.erase : ∀ {ds : List D} {vs : List V} (i : Nat), Dens K H ds vs → Dens K H (ds.eraseIdx i) (vs.eraseIdx i)
  | _, _, _, .nil => .nil
  | _, _, 0, .cons _ hs => hs
  | _, _, i + 1, .cons h hs => .cons h (hs.erase i)
theorem Dens.rep : ∀ {ds : List D} {vs : List V} (k : Nat), Dens K H ds vs → Dens K H (List.replicate k ds).flatten (List.replicate k vs).flatten
  | _, _, 0, _ => .nil
  | ds, vs, k + 1, h => by
    rw [List.replicate_succ, List.replicate_succ, List.flatten_cons, List.flatten_cons]
    exact h.app (h.rep k)
theorem Dens.rev : ∀ {ds : List D} {vs : List V}, Dens K H ds vs → Dens K H ds.reverse vs.reverse
  | _, _, .nil => .nil
  | _, _, .cons h hs => by
    rw [List.reverse_cons, List.reverse_cons]
    exact hs.rev.app (.cons h .nil)
theorem Dens.ints : ∀ {ns : List Int} {vs : List V}, Dens K H (ns.map D.int) vs → vs = ns.map V.int
  | [], _, .nil => rfl
  | _ :: _, _, .cons (.int _) hs => by rw [List.map_cons, hs.ints]
theorem Dens.bls : ∀ {ns : List Bool} {vs : List V}, Dens K H (ns.map D.bl) vs → vs = ns.map V.bl
  | [], _, .nil => rfl
  | _ :: _, _, .cons (.bl _) hs => by rw [List.map_cons, hs.bls]
theorem Dens.strs : ∀ {ns : List Str} {vs : List V}, Dens K H (ns.map D.str) vs → vs = ns.map V.str
  | [], _, .nil => rfl
  | _ :: _, _, .cons (.str _) hs => by rw [List.map_cons, hs.strs]
end

/-! ### the regime: which objects may change (a draw's dict), what holds of them -/
def Mu : HO → Prop
  | .tup _ => False
  | .frz _ _ => False
  | _ => True
structure Rg (T : Type) where
  K : PySem.W.Frag
  H0 : Hp
  t0 : T
  Vol : T → Addr → Prop
  Gd : T → Hp → Prop
  kind : ∀ t H a, Gd t H → Vol t a → ∃ o, H a = some o ∧ Mu o
  dep : ∀ t H H', Gd t H → Ext H H' → (∀ a, Vol t a → H' a = H a) → Gd t H'
/-- nothing but what may change is touched -/
structure Rg.Step {T : Type} (R : Rg T) (t : T) (H : Hp) (t' : T) (H' : Hp) : Prop where
  st : ∀ a o, H a = some o → ¬ R.Vol t a → H' a = some o
  up : ∀ a, R.Vol t a → R.Vol t' a
  dn : ∀ a, R.Vol t' a → R.Vol t a ∨ H a = none
structure Rg.Go {T : Type} (R : Rg T) (t : T) (H : Hp) (t' : T) (H' : Hp) : Prop where
  st : R.Step t H t' H'
  gd : R.Gd t' H'
def Rg.pure (K : PySem.W.Frag) (H : Hp) : Rg Unit := ⟨K, H, (), fun _ _ => False, fun _ _ => True, fun _ _ _ _ h => h.elim, fun _ _ _ _ _ _ => trivial⟩
theorem Rg.pure_same {K : PySem.W.Frag} {H0 H H' : Hp} {t t' : Unit} (h : (Rg.pure K H0).Step t H t' H') : Same H H' := fun a o e => h.st a o e fun z => z
section
variable {T : Type} {R : Rg T} {t t' t1 t2 : T} {H H' H1 H2 : Hp} {p : Addr} {o : HO}
theorem Rg.Step.refl : R.Step t H t H := ⟨fun _ _ h _ => h, fun _ h => h, fun _ h => .inl h⟩
theorem Rg.Step.trans (a : R.Step t H t1 H1) (b : R.Step t1 H1 t2 H2) : R.Step t H t2 H2 := by
  refine ⟨fun c o h n => b.st c o (a.st c o h n) fun v => ?_, fun c h => b.up c (a.up c h), fun c h => ?_⟩
  · rcases a.dn c v with v | v
    · exact n v
    · rw [h] at v; cases v
  · rcases b.dn c h with h | h
    · exact a.dn c h
    · by_cases v : R.Vol t c
      · exact .inl v
      · refine .inr ?_
        cases q : H c with
        | none => rfl
        | some o => rw [a.st c o q v] at h; cases h
theorem Rg.Step.ext (gd : R.Gd t H) (h : R.Step t H t' H') : Ext H H' := by
  refine ⟨fun a xs e => h.st a _ e fun v => ?_, fun a o u e => h.st a _ e fun v => ?_⟩
  · obtain ⟨o, e', m⟩ := R.kind t H a gd v
    rw [e] at e'; cases e'; exact m
  · obtain ⟨o', e', m⟩ := R.kind t H a gd v
    rw [e] at e'; cases e'; exact m
theorem Rg.Go.refl (gd : R.Gd t H) : R.Go t H t H := ⟨.refl, gd⟩
theorem Rg.Go.trans (a : R.Go t H t1 H1) (b : R.Go t1 H1 t2 H2) : R.Go t H t2 H2 := ⟨a.st.trans b.st, b.gd⟩
theorem Rg.Go.new (gd : R.Gd t H) (n : H p = none) : R.Go t H t (upd H p o) := by
  refine ⟨⟨fun a u e _ => by rw [upd_ne (ne_of_none e n)]; exact e, fun _ h => h, fun _ h => .inl h⟩, R.dep t H _ gd ⟨fun a xs e => by rw [upd_ne (ne_of_none e n)]; exact e, fun a ob u e => by rw [upd_ne (ne_of_none e n)]; exact e⟩ fun a v => ?_⟩
  obtain ⟨u, e, _⟩ := R.kind t H a gd v
  rw [upd_ne (ne_of_none e n)]
theorem Rg.Go.same (gd : R.Gd t H) (h : Same H H') : R.Go t H t H' := by
  refine ⟨⟨fun a u e _ => h a u e, fun _ h => h, fun _ h => .inl h⟩, R.dep t H _ gd ⟨fun a xs e => h a _ e, fun a ob u e => h a _ e⟩ fun a v => ?_⟩
  obtain ⟨u, e, _⟩ := R.kind t H a gd v
  rw [e, h a u e]
theorem Rg.Go.ext (gd : R.Gd t H) (h : R.Go t H t' H') : Ext H H' := h.st.ext gd
theorem not_vol (gd : R.Gd t H) (n : H p = none) : ¬ R.Vol t p := fun v => by
  obtain ⟨o, e, _⟩ := R.kind t H p gd v
  rw [n] at e; cases e
theorem none_of_step (gd : R.Gd t' H') (g : R.Step t H t' H') (n : H' p = none) : H p = none := by
  cases q : H p with
  | none => rfl
  | some o =>
    by_cases v : R.Vol t p
    · exact absurd (g.up p v) (not_vol gd n)
    · have := g.st p o q v
      rw [n] at this; cases this
theorem none_of_go (g : R.Go t H t' H') (n : H' p = none) : H p = none := none_of_step g.gd g.st n
theorem Rg.Step.nvol (g : R.Step t H t' H') (h : H p ≠ none) (n : ¬ R.Vol t p) : ¬ R.Vol t' p := fun v => (g.dn p v).elim n h
end

/-! ### slots -/
inductive Sl where
  | no | val (d : D) | own (ds : List D) | dct (kvs : List (List Int × D))
/-- what a dict with tuples of ints as keys holds -/
inductive DK (K : PySem.W.Frag) (H : Hp) : List (List Int × D) → List (List Key × V) → Prop
  | nil : DK K H [] []
  | cons {k : List Int} {d : D} {v : V} {kvs : List (List Int × D)} {us : List (List Key × V)} : Den K H d v → DK K H kvs us → DK K H ((k, d) :: kvs) ((k.map Sum.inl, v) :: us)
theorem DK.ext {K : PySem.W.Frag} {H H' : Hp} (e : Ext H H') : ∀ {kvs : List (List Int × D)} {us : List (List Key × V)}, DK K H kvs us → DK K H' kvs us
  | _, _, .nil => .nil
  | _, _, .cons h hs => .cons (h.ext e) (hs.ext e)
abbrev Env := List Sl
structure EnvOk {T : Type} (R : Rg T) (t : T) (H : Hp) (σ : St) (ρ : Env) : Prop where
  gd : R.Gd t H
  st : R.Step R.t0 R.H0 t H
  len : ρ.length = σ.length
  val : ∀ (i : Nat) (d : D), ρ[i]? = some (.val d) → ∃ v, σ[i]? = some (some v) ∧ Den R.K H d v
  own : ∀ (i : Nat) (ds : List D), ρ[i]? = some (.own ds) → ∃ p vs, σ[i]? = some (some (.ref p)) ∧ H p = some (.lst vs) ∧ Dens R.K H ds vs ∧ R.H0 p = none ∧ ¬ R.Vol t p
  inj : ∀ (i j : Nat) (ds es : List D) (p : Addr), ρ[i]? = some (.own ds) → ρ[j]? = some (.own es) → σ[i]? = some (some (.ref p)) → σ[j]? = some (some (.ref p)) → i = j
  dct : ∀ (i : Nat) (kvs : List (List Int × D)), ρ[i]? = some (.dct kvs) → ∃ p us, σ[i]? = some (some (.ref p)) ∧ H p = some (.dT us) ∧ DK R.K H kvs us ∧ R.H0 p = none ∧ ¬ R.Vol t p
  injd : ∀ (i j : Nat) (ds es : List (List Int × D)) (p : Addr), ρ[i]? = some (.dct ds) → ρ[j]? = some (.dct es) → σ[i]? = some (some (.ref p)) → σ[j]? = some (some (.ref p)) → i = j
section
variable {T : Type} {R : Rg T} {t t' : T} {H H' : Hp} {σ : St} {ρ : Env}
theorem EnvOk.go (e : EnvOk R t H σ ρ) (g : R.Go t H t' H') : EnvOk R t' H' σ ρ := by
  have x := g.ext e.gd
  refine ⟨g.gd, e.st.trans g.st, e.len, fun i d h => ?_, fun i ds h => ?_, e.inj, fun i ds h => ?_, e.injd⟩
  · obtain ⟨v, h1, h2⟩ := e.val i d h
    exact ⟨v, h1, h2.ext x⟩
  · obtain ⟨p, vs, h1, h2, h3, h4, h5⟩ := e.own i ds h
    exact ⟨p, vs, h1, g.st.st p _ h2 h5, h3.ext x, h4, g.st.nvol (by rw [h2]; exact fun z => nomatch z) h5⟩
  · obtain ⟨p, vs, h1, h2, h3, h4, h5⟩ := e.dct i ds h
    exact ⟨p, vs, h1, g.st.st p _ h2 h5, h3.ext x, h4, g.st.nvol (by rw [h2]; exact fun z => nomatch z) h5⟩
/-- a slot gets a value -/
theorem EnvOk.set (e : EnvOk R t H σ ρ) (i : Nat) {d : D} {v : V} (h : Den R.K H d v) : EnvOk R t H (σ.set i (some v)) (ρ.set i (.val d)) := by
  have key : ∀ {j : Nat} {x : Sl}, (ρ.set i (.val d))[j]? = some x → (∀ d', x ≠ .val d') → i ≠ j ∧ ρ[j]? = some x := fun {j x} hj hx => by
    by_cases hij : i = j
    · subst hij
      by_cases hl : i < ρ.length
      · rw [List.getElem?_set_self hl] at hj; cases hj; exact absurd rfl (hx d)
      · rw [List.getElem?_eq_none (by rw [List.length_set]; omega)] at hj; cases hj
    · rw [List.getElem?_set_ne hij] at hj
      exact ⟨hij, hj⟩
  refine ⟨e.gd, e.st, by rw [List.length_set, List.length_set]; exact e.len, fun j d' hj => ?_, fun j ds hj => ?_, fun j k ds es p h1 h2 h3 h4 => ?_, fun j ds hj => ?_, fun j k ds es p h1 h2 h3 h4 => ?_⟩
  · by_cases hij : i = j
    · subst hij
      by_cases hl : i < ρ.length
      · rw [List.getElem?_set_self hl] at hj; cases hj
        exact ⟨v, by rw [List.getElem?_set_self (by rw [← e.len]; exact hl)], h⟩
      · rw [List.getElem?_eq_none (by rw [List.length_set]; omega)] at hj; cases hj
    · rw [List.getElem?_set_ne hij] at hj ⊢
      exact e.val j d' hj
  · obtain ⟨hij, hj⟩ := key hj (by intro _ z; cases z)
    rw [List.getElem?_set_ne hij]
    exact e.own j ds hj
  · obtain ⟨n1, h1⟩ := key h1 (by intro _ z; cases z)
    obtain ⟨n2, h2⟩ := key h2 (by intro _ z; cases z)
    rw [List.getElem?_set_ne n1] at h3
    rw [List.getElem?_set_ne n2] at h4
    exact e.inj j k ds es p h1 h2 h3 h4
  · obtain ⟨hij, hj⟩ := key hj (by intro _ z; cases z)
    rw [List.getElem?_set_ne hij]
    exact e.dct j ds hj
  · obtain ⟨n1, h1⟩ := key h1 (by intro _ z; cases z)
    obtain ⟨n2, h2⟩ := key h2 (by intro _ z; cases z)
    rw [List.getElem?_set_ne n1] at h3
    rw [List.getElem?_set_ne n2] at h4
    exact e.injd j k ds es p h1 h2 h3 h4
/-- slots forgotten -/
theorem EnvOk.weak (e : EnvOk R t H σ ρ) {σ' : St} {ρ' : Env} (hl : ρ'.length = σ'.length) (h : ∀ (i : Nat) (x : Sl), ρ'[i]? = some x → x = .no ∨ (ρ[i]? = some x ∧ σ'[i]? = σ[i]?)) : EnvOk R t H σ' ρ' := by
  have key : ∀ {i : Nat} {x : Sl}, ρ'[i]? = some x → x ≠ .no → ρ[i]? = some x ∧ σ'[i]? = σ[i]? := fun {i x} h1 n => (h i x h1).resolve_left n
  refine ⟨e.gd, e.st, hl, fun i d hi => ?_, fun i ds hi => ?_, fun i j ds es p h1 h2 h3 h4 => ?_, fun i ds hi => ?_, fun i j ds es p h1 h2 h3 h4 => ?_⟩
  · obtain ⟨a, b⟩ := key hi (by intro z; cases z)
    rw [b]; exact e.val i d a
  · obtain ⟨a, b⟩ := key hi (by intro z; cases z)
    rw [b]; exact e.own i ds a
  · obtain ⟨a1, b1⟩ := key h1 (by intro z; cases z)
    obtain ⟨a2, b2⟩ := key h2 (by intro z; cases z)
    rw [b1] at h3
    rw [b2] at h4
    exact e.inj i j ds es p a1 a2 h3 h4
  · obtain ⟨a, b⟩ := key hi (by intro z; cases z)
    rw [b]; exact e.dct i ds a
  · obtain ⟨a1, b1⟩ := key h1 (by intro z; cases z)
    obtain ⟨a2, b2⟩ := key h2 (by intro z; cases z)
    rw [b1] at h3
    rw [b2] at h4
    exact e.injd i j ds es p a1 a2 h3 h4
end
/-- the own names of a comprehension forgotten -/
def wipeE (ρ : Env) : List Nat → Env
  | [] => ρ
  | v :: vs => (wipeE ρ vs).set v .no
theorem wipeE_len (ρ : Env) : ∀ vs : List Nat, (wipeE ρ vs).length = ρ.length
  | [] => rfl
  | v :: vs => by unfold wipeE; rw [List.length_set, wipeE_len ρ vs]
theorem wipeE_ok {T : Type} {R : Rg T} {t : T} {H : Hp} : ∀ (vs : List Nat) {σ : St} {ρ : Env}, EnvOk R t H σ ρ → EnvOk R t H (wipe σ vs) (wipeE ρ vs)
  | [], _, _, e => e
  | v :: vs, σ, ρ, e => by
    have ih := wipeE_ok (R := R) (t := t) (H := H) vs e
    unfold wipe wipeE
    refine ih.weak (by rw [List.length_set, List.length_set]; exact ih.len) fun i x h => ?_
    by_cases hv : v = i
    · subst hv
      by_cases hl : v < (wipeE ρ vs).length
      · rw [List.getElem?_set_self hl] at h; cases h; exact .inl rfl
      · rw [List.getElem?_eq_none (by rw [List.length_set]; omega)] at h; cases h
    · rw [List.getElem?_set_ne hv] at h
      exact .inr ⟨h, by rw [List.getElem?_set_ne hv]⟩
theorem wipe_set {σ : St} {i : Nat} {x : Option V} : ∀ {vs : List Nat}, i ∈ vs → wipe (σ.set i x) vs = wipe σ vs
  | v :: vs, h => by
    unfold wipe
    by_cases hi : i ∈ vs
    · rw [wipe_set hi]
    · have e : i = v := by
        rcases List.mem_cons.mp h with h | h
        · exact h
        · exact absurd h hi
      subst e
      have : ∀ (vs : List Nat), i ∉ vs → wipe (σ.set i x) vs = (wipe σ vs).set i x := by
        intro vs
        induction vs with
        | nil => intro _; rfl
        | cons w ws ih =>
          intro hn
          unfold wipe
          rw [ih (fun z => hn (List.mem_cons_of_mem _ z)), List.set_comm _ _ (fun z => hn (by rw [← z]; exact List.mem_cons_self))]
      rw [this vs hi, List.set_set]
theorem wipe_wipe (σ : St) : ∀ vs : List Nat, wipe (wipe σ vs) vs = wipe σ vs := by
  have key : ∀ (us vs : List Nat), (∀ u ∈ us, u ∈ vs) → wipe (wipe σ us) vs = wipe σ vs := by
    intro us
    induction us with
    | nil => intro vs _; rfl
    | cons u us ih =>
      intro vs h
      show wipe ((wipe σ us).set u none) vs = wipe σ vs
      rw [wipe_set (h u List.mem_cons_self)]
      exact ih vs fun w hw => h w (List.mem_cons_of_mem _ hw)
  exact fun vs => key vs vs fun _ h => h

/-! ### expressions -/
abbrev W (T : Type) := Env → (D → T → Prop) → T → Prop
def E {T : Type} (R : Rg T) (w : W T) : TE := fun σ H Q => ∃ ρ t Φ, EnvOk R t H σ ρ ∧ w ρ Φ t ∧ ∀ H' t' v d, R.Go t H t' H' → Den R.K H' d v → Φ d t' → Q v H'
abbrev WB (T : Type) := Env → (Bool → T → Prop) → T → Prop
def EB {T : Type} (R : Rg T) (w : WB T) : TT := fun σ H Q => ∃ ρ t Φ, EnvOk R t H σ ρ ∧ w ρ Φ t ∧ ∀ H' t' b, R.Go t H t' H' → Φ b t' → Q b H'
abbrev WA (T : Type) := Env → (List D → T → Prop) → T → Prop
def EA {T : Type} (R : Rg T) (w : WA T) : TA := fun σ H Q => ∃ ρ t Φ, EnvOk R t H σ ρ ∧ w ρ Φ t ∧ ∀ H' t' vs ds, R.Go t H t' H' → Dens R.K H' ds vs → Φ ds t' → Q vs H'
theorem PE_imp {X : Cx} {e : Expr} {t t' : TE} (h : PE X e t) (i : ∀ σ H Q, t' σ H Q → t σ H Q) : PE X e t' := ⟨fun pins s σ H Q I q => h.run pins s σ H Q I (i σ H Q q)⟩
theorem PT_imp {X : Cx} {e : Expr} {t t' : TT} (h : PT X e t) (i : ∀ σ H Q, t' σ H Q → t σ H Q) : PT X e t' := ⟨fun pins s σ H Q I q => h.run pins s σ H Q I (i σ H Q q)⟩
theorem PA_imp {X : Cx} {e : List Expr} {t t' : TA} (h : PA X e t) (i : ∀ σ H Q, t' σ H Q → t σ H Q) : PA X e t' := ⟨fun pos pins s σ H Q I q => h.run pos pins s σ H Q I (i σ H Q q)⟩
theorem PS_imp {X : Cx} {e : Stmt} {t t' : TS} (h : PS X e t) (i : ∀ D σ H, t' D σ H → t D σ H) : PS X e t' := ⟨fun pins s σ H D I q => h.run pins s σ H D I (i D σ H q)⟩
theorem PSs_imp {X : Cx} {e : List Stmt} {t t' : TS} (h : PSs X e t) (i : ∀ D σ H, t' D σ H → t D σ H) : PSs X e t' := ⟨fun pins s σ H D I q => h.run pins s σ H D I (i D σ H q)⟩
theorem PI_imp {X : Cx} {tg e : Expr} {t t' : TI} (h : PI X tg e t) (i : ∀ σ H Q, t' σ H Q → t σ H Q) : PI X tg e t' := ⟨fun pins s σ H Q I q => h.run pins s σ H Q I (i σ H Q q)⟩

section
variable {T : Type} {X : Cx} {R : Rg T} {pos : Pos}
/-! names and constants -/
def wName (i : Nat) : W T := fun ρ Φ t => ∃ d, ρ[i]? = some (.val d) ∧ Φ d t
theorem E_name {i : Nat} {e : Expr} (h : PE X e (tVar i)) : PE X e (E R (wName i)) := PE_imp h fun σ H Q ⟨ρ, t, Φ, ok, ⟨d, hd, q⟩, k⟩ => by
  obtain ⟨v, hv, hD⟩ := ok.val i d hd
  exact ⟨v, hv, k H _ v d (.refl ok.gd) hD q⟩
def wC (d : D) : W T := fun _ Φ => Φ d
theorem E_c {d : D} {v : V} {e : Expr} (h : PE X e (tC v)) (hd : ∀ H, Den R.K H d v) : PE X e (E R (wC d)) := PE_imp h fun σ H Q ⟨ρ, t, Φ, ok, q, k⟩ => k H _ v d (.refl ok.gd) (hd H) q
theorem E_int {i : Int} {j : Nat} : PE X (.Constant (.int i) j pos) (E R (wC (.int i))) := E_c pe_int fun _ => .int i
theorem E_bl {i : Bool} {j : Nat} : PE X (.Constant (.bool i) j pos) (E R (wC (.bl i))) := E_c pe_bl fun _ => .bl i
theorem E_str {i : Str} {j : Nat} : PE X (.Constant (.str i) j pos) (E R (wC (.str i))) := E_c pe_str fun _ => .str i
theorem E_non {j : Nat} : PE X (.Constant .none j pos) (E R (wC .non)) := E_c pe_non fun _ => .non

/-! operators, by their rules on data -/
/-- the rule r does what f says, on any heap -/
def Op2 (R : Rg T) (r : R2) (f : D → D → (D → Prop) → Prop) : Prop := ∀ t H x y dx dy Φ (Q : VK), R.Gd t H → Den R.K H dx x → Den R.K H dy y → f dx dy Φ → (∀ H' v d, R.Go t H t H' → Den R.K H' d v → Φ d → Q v H') → r x y H Q
def wBin (f : D → D → (D → Prop) → Prop) (wa wb : W T) : W T := fun ρ Φ => wa ρ fun x => wb ρ fun y t => f x y fun d => Φ d t
variable {a b c : Expr} {wa wb wc : W T}
theorem tOp_E {r : R2} {f : D → D → (D → Prop) → Prop} (hf : Op2 R r f) : ∀ σ H Q, E R (wBin f wa wb) σ H Q → tOp r (E R wa) (E R wb) σ H Q := fun σ H Q ⟨ρ, t, Φ, ok, q, k⟩ => by
  refine ⟨ρ, t, _, ok, q, fun H1 t1 v1 d1 g1 D1 q1 => ?_⟩
  refine ⟨ρ, t1, _, ok.go g1, q1, fun H2 t2 v2 d2 g2 D2 q2 => ?_⟩
  exact hf t2 H2 v1 v2 d1 d2 _ Q g2.gd (D1.ext (g2.ext g1.gd)) D2 q2 fun H3 v d g3 hD hq => k H3 _ v d (g1.trans (g2.trans g3)) hD hq
theorem E_bin {op : Operator} {r : R2} {f : D → D → (D → Prop) → Prop} (ho : OpR X (binaryOp op) r) (hf : Op2 R r f) (ha : PE X a (E R wa)) (hb : PE X b (E R wb)) : PE X (.BinOp a op b pos) (E R (wBin f wa wb)) :=
  PE_imp (pe_op ho ha hb) (tOp_E hf)
theorem E_cmp {op : CmpOp} {r : R2} {f : D → D → (D → Prop) → Prop} (ho : OpR X (compareOp op) r) (hf : Op2 R r f) (ha : PE X a (E R wa)) (hb : PE X b (E R wb)) (hm : behindInMarks op b = false) : PE X (.Compare a [op] [b] pos) (E R (wBin f wa wb)) :=
  PE_imp (pe_cmpR ho ha hb hm) (tOp_E hf)
def wB (w : W T) : WB T := fun ρ Φ => w ρ fun d t => ∃ k, d = .bl k ∧ Φ k t
theorem tTest_E {w : W T} {te : TE} (h : ∀ σ H Q, E R w σ H Q → te σ H Q) : ∀ σ H Q, EB R (wB w) σ H Q → tTest te σ H Q := fun σ H Q ⟨ρ, t, Φ, ok, q, k⟩ => by
  refine h σ H _ ⟨ρ, t, _, ok, q, fun H1 t1 v d g hD hq => ?_⟩
  obtain ⟨c, rfl, hq⟩ := hq
  cases hD
  exact ⟨c, rfl, k H1 _ c g hq⟩
theorem EB_cmp {op : CmpOp} {r : R2} {f : D → D → (D → Prop) → Prop} (ho : OpR X (compareOp op) r) (hf : Op2 R r f) (ha : PE X a (E R wa)) (hb : PE X b (E R wb)) (hm : behindInMarks op b = false) : PT X (.Compare a [op] [b] pos) (EB R (wB (wBin f wa wb))) :=
  PT_imp (pt_cmpR ho ha hb hm) (tTest_E (tOp_E hf))
/-- any expression that gives a bool, as a test -/
theorem EB_val {e : Expr} {w : W T} (h : PE X e (E R w)) (he : ∀ whole, isTrue e X.env whole = (do let v ← whole; standAt e.pos; holding [v] (truthy v)) := by intro _; rfl) : PT X e (EB R (wB w)) :=
  PT_imp (pt_val h he) fun σ H Q ⟨ρ, t, Φ, ok, q, k⟩ => ⟨ρ, t, _, ok, q, fun H1 t1 v d g hD hq => by
    obtain ⟨c, rfl, hq⟩ := hq
    cases hD
    exact ⟨c, rfl, k H1 _ c g hq⟩⟩
variable {ta tb : WB T} {rest : List Expr}
def wNotT (w : WB T) : WB T := fun ρ Φ => w ρ fun k => Φ (!k)
theorem EB_not (h : PT X a (EB R ta)) : PT X (.UnaryOp .Not a pos) (EB R (wNotT ta)) := PT_imp (pt_not h) fun σ H Q ⟨ρ, t, Φ, ok, q, k⟩ => ⟨ρ, t, _, ok, q, fun H1 t1 c g hq => k H1 _ _ g hq⟩
def wAndT (wa wb : WB T) : WB T := fun ρ Φ => wa ρ fun k t => if k = true then wb ρ Φ t else Φ false t
def wOrT (wa wb : WB T) : WB T := fun ρ Φ => wa ρ fun k t => if k = true then Φ true t else wb ρ Φ t
theorem PW_imp {X : Cx} {e : Expr} {t t' : TT} (h : PW X e t) (i : ∀ σ H Q, t' σ H Q → t σ H Q) : PW X e t' := ⟨fun wh pins s σ H Q I q => h.run wh pins s σ H Q I (i σ H Q q)⟩
theorem EB_and (h : PT X a (EB R ta)) (hr : PW X (.BoolOp .And (b :: rest) pos) (EB R tb)) : PW X (.BoolOp .And (a :: b :: rest) pos) (EB R (wAndT ta tb)) := PW_imp (pw_and h hr) fun σ H Q ⟨ρ, t, Φ, ok, q, k⟩ =>
  ⟨ρ, t, _, ok, q, fun H1 t1 c g hq => by
    cases c with
    | true => exact ⟨ρ, t1, Φ, ok.go g, hq, fun H2 t2 d g2 q2 => k H2 _ d (g.trans g2) q2⟩
    | false => exact k H1 _ _ g hq⟩
theorem EB_or (h : PT X a (EB R ta)) (hr : PW X (.BoolOp .Or (b :: rest) pos) (EB R tb)) : PW X (.BoolOp .Or (a :: b :: rest) pos) (EB R (wOrT ta tb)) := PW_imp (pw_or h hr) fun σ H Q ⟨ρ, t, Φ, ok, q, k⟩ =>
  ⟨ρ, t, _, ok, q, fun H1 t1 c g hq => by
    cases c with
    | true => exact k H1 _ _ g hq
    | false => exact ⟨ρ, t1, Φ, ok.go g, hq, fun H2 t2 d g2 q2 => k H2 _ d (g.trans g2) q2⟩⟩
theorem EB_and1 (h : PT X a (EB R ta)) : PW X (.BoolOp .And [a] pos) (EB R ta) := pw_and1 h
theorem EB_or1 (h : PT X a (EB R ta)) : PW X (.BoolOp .Or [a] pos) (EB R ta) := pw_or1 h
/-! and, or, not of bools as values -/
def wAndV (wa wb : W T) : W T := fun ρ Φ => wa ρ fun d t => ∃ k, d = .bl k ∧ if k = true then wb ρ Φ t else Φ (.bl false) t
def wOrV (wa wb : W T) : W T := fun ρ Φ => wa ρ fun d t => ∃ k, d = .bl k ∧ if k = true then Φ (.bl true) t else wb ρ Φ t
def wNotV (wa : W T) : W T := fun ρ Φ => wa ρ fun d t => ∃ k, d = .bl k ∧ Φ (.bl (!k)) t
theorem E_one {op : BoolOp} (h : PE X a (E R wa)) : PE X (.BoolOp op [a] pos) (E R wa) := pe_one h
theorem E_and (h : PE X a (E R wa)) (hr : PE X (.BoolOp .And (b :: rest) pos) (E R wb)) : PE X (.BoolOp .And (a :: b :: rest) pos) (E R (wAndV wa wb)) := PE_imp (pe_and h hr) fun σ H Q ⟨ρ, t, Φ, ok, q, k⟩ =>
  ⟨ρ, t, _, ok, q, fun H1 t1 v d g hD hq => by
    obtain ⟨c, rfl, hq⟩ := hq
    cases hD
    refine ⟨c, rfl, ?_⟩
    cases c with
    | true => exact ⟨ρ, t1, Φ, ok.go g, hq, fun H2 t2 v d g2 hD q2 => k H2 _ v d (g.trans g2) hD q2⟩
    | false => exact k H1 _ _ _ g (.bl _) hq⟩
theorem E_or (h : PE X a (E R wa)) (hr : PE X (.BoolOp .Or (b :: rest) pos) (E R wb)) : PE X (.BoolOp .Or (a :: b :: rest) pos) (E R (wOrV wa wb)) := PE_imp (pe_or h hr) fun σ H Q ⟨ρ, t, Φ, ok, q, k⟩ =>
  ⟨ρ, t, _, ok, q, fun H1 t1 v d g hD hq => by
    obtain ⟨c, rfl, hq⟩ := hq
    cases hD
    refine ⟨c, rfl, ?_⟩
    cases c with
    | true => exact k H1 _ _ _ g (.bl _) hq
    | false => exact ⟨ρ, t1, Φ, ok.go g, hq, fun H2 t2 v d g2 hD q2 => k H2 _ v d (g.trans g2) hD q2⟩⟩
theorem E_not (h : PE X a (E R wa)) : PE X (.UnaryOp .Not a pos) (E R (wNotV wa)) := PE_imp (pe_not h) fun σ H Q ⟨ρ, t, Φ, ok, q, k⟩ =>
  ⟨ρ, t, _, ok, q, fun H1 t1 v d g hD hq => by
    obtain ⟨c, rfl, hq⟩ := hq
    cases hD
    exact ⟨c, rfl, k H1 _ _ _ g (.bl _) hq⟩⟩
def wIf (tc : WB T) (wa wb : W T) : W T := fun ρ Φ => tc ρ fun k t => if k = true then wa ρ Φ t else wb ρ Φ t
theorem E_if {cc : Expr} (hc : PT X cc (EB R ta)) (ha : PE X a (E R wa)) (hb : PE X b (E R wb)) : PE X (.IfExp cc a b pos) (E R (wIf ta wa wb)) := PE_imp (pe_ifExp hc ha hb) fun σ H Q ⟨ρ, t, Φ, ok, q, k⟩ =>
  ⟨ρ, t, _, ok, q, fun H1 t1 c g hq => by
    cases c with
    | true => exact ⟨ρ, t1, Φ, ok.go g, hq, fun H2 t2 v d g2 hD q2 => k H2 _ v d (g.trans g2) hD q2⟩
    | false => exact ⟨ρ, t1, Φ, ok.go g, hq, fun H2 t2 v d g2 hD q2 => k H2 _ v d (g.trans g2) hD q2⟩⟩
/-! one-sided operators -/
def wUn (f : D → (D → Prop) → Prop) (wa : W T) : W T := fun ρ Φ => wa ρ fun x t => f x fun d => Φ d t
def Op1 (R : Rg T) (r : V → Hp → VK → Prop) (f : D → (D → Prop) → Prop) : Prop := ∀ t H x dx Φ (Q : VK), R.Gd t H → Den R.K H dx x → f dx Φ → (∀ H' v d, R.Go t H t H' → Den R.K H' d v → Φ d → Q v H') → r x H Q
theorem E_un {op : UnaryOp} {r : V → Hp → VK → Prop} {f : D → (D → Prop) → Prop} (ho : UnR X (unaryOp op) r) (hf : Op1 R r f) (ha : PE X a (E R wa)) : PE X (.UnaryOp op a pos) (E R (wUn f wa)) := PE_imp (pe_un ho ha) fun σ H Q ⟨ρ, t, Φ, ok, q, k⟩ =>
  ⟨ρ, t, _, ok, q, fun H1 t1 v d g hD hq => hf t1 H1 v d _ Q g.gd hD hq fun H2 v d g2 hD q2 => k H2 _ v d (g.trans g2) hD q2⟩
/-! a < b < c -/
def wChain (f f' : D → D → (D → Prop) → Prop) (wa wb wc : W T) : W T := fun ρ Φ => wa ρ fun x => wb ρ fun y t => f x y fun z => ∃ k, z = .bl k ∧ if k = true then wc ρ (fun u t => f' y u fun d => Φ d t) t else Φ (.bl false) t
theorem tChain_E {r r' : R2} {f f' : D → D → (D → Prop) → Prop} (hf : Op2 R r f) (hf' : Op2 R r' f') : ∀ σ H Q, E R (wChain f f' wa wb wc) σ H Q → tChain r r' (E R wa) (E R wb) (E R wc) σ H Q := fun σ H Q ⟨ρ, t, Φ, ok, q, k⟩ => by
  refine ⟨ρ, t, _, ok, q, fun H1 t1 v1 d1 g1 D1 q1 => ?_⟩
  refine ⟨ρ, t1, _, ok.go g1, q1, fun H2 t2 v2 d2 g2 D2 q2 => ?_⟩
  refine hf t2 H2 v1 v2 d1 d2 _ _ g2.gd (D1.ext (g2.ext g1.gd)) D2 q2 fun H3 v3 d3 g3 D3 q3 => ?_
  obtain ⟨c, rfl, q3⟩ := q3
  cases D3
  refine ⟨c, rfl, ?_⟩
  have g := g1.trans (g2.trans g3)
  cases c with
  | false => exact k H3 _ _ _ g (.bl _) q3
  | true =>
    refine ⟨ρ, t2, _, ok.go g, q3, fun H4 t4 v4 d4 g4 D4 q4 => ?_⟩
    exact hf' t4 H4 v2 v4 d2 d4 _ Q g4.gd (D2.ext ((g3.trans g4).ext g2.gd)) D4 q4 fun H5 v d g5 hD hq => k H5 _ v d (g.trans (g4.trans g5)) hD hq
theorem E_chain {op op' : CmpOp} {r r' : R2} {f f' : D → D → (D → Prop) → Prop} (ho : OpR X (compareOp op) r) (ho' : OpR X (compareOp op') r') (hf : Op2 R r f) (hf' : Op2 R r' f') (ha : PE X a (E R wa)) (hb : PE X b (E R wb)) (hc : PE X c (E R wc))
    (hm : lastMarks [op, op'] [b, c] = false := by rfl) : PE X (.Compare a [op, op'] [b, c] pos) (E R (wChain f f' wa wb wc)) := PE_imp (pe_chain ho ho' ha hb hc hm) (tChain_E hf hf')
/-! displays -/
def wNil : WA T := fun _ Φ => Φ []
def wCons (wa : W T) (wr : WA T) : WA T := fun ρ Φ => wa ρ fun x => wr ρ fun xs => Φ (x :: xs)
theorem EA_nil : PA X [] (EA R wNil) := PA_imp pa_nil fun σ H Q ⟨ρ, t, Φ, ok, q, k⟩ => k H _ [] [] (.refl ok.gd) .nil q
theorem EA_cons {es : List Expr} {wr : WA T} (ha : PE X a (E R wa)) (hr : PA X es (EA R wr)) (hs : starEach (a :: es) X.env = (false, eval a X.env) :: starEach es X.env := by rfl) : PA X (a :: es) (EA R (wCons wa wr)) :=
  PA_imp (pa_cons ha hr hs) fun σ H Q ⟨ρ, t, Φ, ok, q, k⟩ => ⟨ρ, t, _, ok, q, fun H1 t1 v d g hD hq => ⟨ρ, t1, _, ok.go g, hq, fun H2 t2 vs ds g2 hDs hq2 => k H2 _ (v :: vs) (d :: ds) (g.trans g2) (.cons (hD.ext (g2.ext g.gd)) hDs) hq2⟩⟩
/-- a new tuple -/
theorem new_tup {t : T} {H : Hp} {p : Addr} {xs : List V} {ds : List D} (gd : R.Gd t H) (n : H p = none) (h : Dens R.K H ds xs) : R.Go t H t (upd H p (.tup xs)) ∧ Den R.K (upd H p (.tup xs)) (.tup ds) (.ref p) := by
  have g : R.Go t H t (upd H p (.tup xs)) := .new gd n
  exact ⟨g, .tup upd_same (h.ext (g.ext gd))⟩
def wTup (w : WA T) : W T := fun ρ Φ => w ρ fun ds t => ds.length ≤ sizeLine ∧ Φ (.tup ds) t
theorem E_tup {es : List Expr} {w : WA T} {x1} (h : PA X es (EA R w)) : PE X (.Tuple es x1 pos) (E R (wTup w)) := PE_imp (pe_tup h) fun σ H Q ⟨ρ, t, Φ, ok, q, k⟩ =>
  ⟨ρ, t, _, ok, q, fun H1 t1 vs ds g hD ⟨hl, hq⟩ => ⟨by rw [← hD.len]; exact hl, fun p n => by
    obtain ⟨g2, D2⟩ := new_tup (R := R) g.gd n hD
    exact k _ _ _ _ (g.trans g2) D2 hq⟩⟩
end
end J

set_option Elab.async false
set_option linter.all false
set_option maxRecDepth 100000
set_option maxHeartbeats 4000000
/-! J2: frozen lists, targets, iterators, comprehensions. -/
namespace J
open PySem PySem.Spec L2 RZ

/-! ### a tracked list is frozen (nothing is done) -/
theorem inv_freeze {X : Cx} {pins : List (Addr × Obj)} {σ : L2.St} {H : Hp} {s : Shared} {a : Addr} {xs : List V} (I : Inv X pins σ H s) (h : H a = some (.lst xs)) : ∃ o, Inv X pins σ (upd H a (.frz o (.lst xs))) s := by
  obtain ⟨z, its, n, r, e⟩ := I.hok a _ h
  refine ⟨{ cls := .type "list", data := .seq its.toArray n }, I.ok, I.os, I.bare, I.base.trans ⟨fun b o q _ _ _ => q, fun b o q _ _ _ => ⟨o.slots, q⟩, fun b o q nb _ => ?_, fun b o q _ => ⟨o, q⟩, fun b ys q => ?_, fun b o u q => ?_, fun b ps q => ⟨#[], ?_⟩⟩, I.loc, I.cell, ?_, fun x c q => ?_, fun p hp => ?_, fun b o q => ?_, I.len⟩
  · rw [upd_ne (fun z => by rw [z, h] at nb; cases nb)]; exact nb
  · rw [upd_ne (fun z => by rw [z, h] at q; cases q)]; exact q
  · rw [upd_ne (fun z => by rw [z, h] at q; cases q)]; exact q
  · rw [upd_ne (fun z => by rw [z, h] at q; cases q), q]; simp
  · rw [upd_ne (fun z => by have := I.free; rw [z, h] at this; cases this)]; exact I.free
  · rw [upd_ne (fun z => by have := I.freeC x c q; rw [z, h] at this; cases this)]; exact I.freeC x c q
  · obtain ⟨q1, q2, q3⟩ := I.pin p hp
    exact ⟨q1, by rw [upd_ne (fun z => by rw [z, h] at q2; cases q2)]; exact q2, q3⟩
  · have ext : ∀ {b : Addr} {u : HO}, ObjOk X.prog X.w H s.heap b u → ObjOk X.prog X.w (upd H a (.frz { cls := .type "list", data := .seq its.toArray n } (.lst xs))) s.heap b u := fun {b u} k =>
      k.stay (fun _ _ _ q => q) (fun c q => by rw [upd_ne (fun z => by rw [z, h] at q; cases q)]; exact q) (fun c ys q => by rw [upd_ne (fun z => by rw [z, h] at q; cases q)]; exact q)
    by_cases hb : b = a
    · subst hb
      rw [upd_same] at q
      cases q
      exact ⟨e, ext (I.hok b _ h)⟩
    · rw [upd_ne hb] at q
      exact ext (I.hok b o q)
def tFrz (t : TE) : TE := fun σ H Q => t σ H fun v H1 => ∃ a xs, v = .ref a ∧ H1 a = some (.lst xs) ∧ ∀ o, Q v (upd H1 a (.frz o (.lst xs)))
theorem pe_frz {X : Cx} {e : Expr} {t : TE} (h : PE X e t) : PE X e (tFrz t) := ⟨fun pins s σ H Q I q => by
  refine thn (h.run pins s σ H _ I q) fun u s1 ⟨v, H1, I1, r, a, xs, e1, e2, k⟩ => ?_
  obtain ⟨o, I2⟩ := inv_freeze I1 e2
  exact ⟨v, _, I2, r, k o⟩⟩

/-! ### a new list -/
abbrev WL (T : Type) := Env → (List D → T → Prop) → T → Prop
def EL {T : Type} (R : Rg T) (w : WL T) : TE := fun σ H Q => ∃ ρ t Φ, EnvOk R t H σ ρ ∧ w ρ Φ t ∧ ∀ H' t' p vs ds, R.Go t H t' H' → H p = none → H' p = some (.lst vs) → ¬ R.Vol t' p → Dens R.K H' ds vs → Φ ds t' → Q (.ref p) H'
def wLs {T : Type} (w : WL T) : W T := fun ρ Φ => w ρ fun ds => Φ (.lst ds)
section
variable {T : Type} {X : Cx} {R : Rg T} {pos : Pos}
/-- a new list, from then on frozen -/
theorem go_frz {t t' : T} {H H' : Hp} {p : Addr} {xs : List V} {o : Obj} (g : R.Go t H t' H') (n : H p = none) (nv : ¬ R.Vol t' p) (e : H' p = some (.lst xs)) : R.Go t H t' (upd H' p (.frz o (.lst xs))) ∧ Ext H' (upd H' p (.frz o (.lst xs))) := by
  have x : Ext H' (upd H' p (.frz o (.lst xs))) := by
    refine ⟨fun a ys q => ?_, fun a ob u q => ?_⟩
    · rw [upd_ne (fun z => by rw [z, e] at q; cases q)]; exact q
    · rw [upd_ne (fun z => by rw [z, e] at q; cases q)]; exact q
  refine ⟨⟨⟨fun a u h1 h2 => ?_, g.st.up, g.st.dn⟩, R.dep t' H' _ g.gd x fun a v => ?_⟩, x⟩
  · rw [upd_ne (ne_of_none h1 n)]; exact g.st.st a u h1 h2
  · rw [upd_ne (fun z => nv (by rw [← z]; exact v))]
theorem E_ls {e : Expr} {w : WL T} (h : PE X e (EL R w)) : PE X e (E R (wLs w)) := PE_imp (pe_frz h) fun σ H Q ⟨ρ, t, Φ, ok, q, k⟩ =>
  ⟨ρ, _, _, ok, q, fun H' t' p vs ds g n e nv hD hq => ⟨p, vs, rfl, e, fun o => by
    obtain ⟨g2, x⟩ := go_frz (o := o) g n nv e
    exact k _ _ _ (.lst ds) g2 (.lst ⟨o, upd_same⟩ (hD.ext x)) hq⟩⟩
/-- what lays a new list -/
theorem new_lst {t : T} {H : Hp} {p : Addr} {xs : List V} {ds : List D} (gd : R.Gd t H) (n : H p = none) (h : Dens R.K H ds xs) : R.Go t H t (upd H p (.lst xs)) ∧ ¬ R.Vol t p ∧ Dens R.K (upd H p (.lst xs)) ds xs := by
  have g : R.Go t H t (upd H p (.lst xs)) := .new gd n
  exact ⟨g, not_vol gd n, h.ext (g.ext gd)⟩
def wLst (w : WA T) : WL T := fun ρ Φ => w ρ fun ds t => ds.length ≤ sizeLine ∧ Φ ds t
theorem EL_lst {es : List Expr} {w : WA T} (h : PA X es (EA R w)) : PE X (.List es pos) (EL R (wLst w)) := PE_imp (pe_lst h) fun σ H Q ⟨ρ, t, Φ, ok, q, k⟩ =>
  ⟨ρ, _, _, ok, q, fun H1 t1 vs ds g hD ⟨hl, hq⟩ => ⟨by rw [← hD.len]; exact hl, fun p n => by
    obtain ⟨g2, nv, D2⟩ := new_lst (R := R) g.gd n hD
    exact k _ _ p vs ds (g.trans g2) (none_of_go g n) upd_same nv D2 hq⟩⟩
end

/-! ### targets -/
inductive Pat where
  | nm (i : Nat) | tp (is : List Nat)
def bindN : List Nat → List D → Env → Option Env
  | [], [], ρ => some ρ
  | i :: is, d :: ds, ρ => bindN is ds (ρ.set i (.val d))
  | _, _, _ => none
def bindP : Pat → D → Env → Option Env
  | .nm i, d, ρ => some (ρ.set i (.val d))
  | .tp is, .tup ds, ρ => bindN is ds ρ
  | .tp _, _, _ => none
def Pat.vs : Pat → List Nat
  | .nm i => [i]
  | .tp is => is
def EG {T : Type} (R : Rg T) (p : Pat) : TG := fun v σ H Q => ∃ ρ t d ρ', EnvOk R t H σ ρ ∧ Den R.K H d v ∧ bindP p d ρ = some ρ' ∧ ∀ σ', EnvOk R t H σ' ρ' → (∀ vs : List Nat, (∀ i ∈ p.vs, i ∈ vs) → wipe σ' vs = wipe σ vs) → Q σ' H
theorem PG_imp {X : Cx} {e : Expr} {t t' : TG} (h : PG X e t) (i : ∀ v σ H Q, t' v σ H Q → t v σ H Q) : PG X e t' := ⟨fun pins s σ H v u Q I r q => h.run pins s σ H v u Q I r (i v σ H Q q)⟩
section
variable {T : Type} {X : Cx} {R : Rg T} {pos : Pos}
theorem EG_name {i : Nat} {e : Expr} (h : PG X e (gName i)) : PG X e (EG R (.nm i)) := PG_imp h fun v σ H Q ⟨ρ, t, d, ρ', ok, hD, hb, k⟩ => by
  cases hb
  exact k _ (ok.set i hD) fun vs hv => wipe_set (hv i (by simp [Pat.vs]))
def gNames : List Nat → TGs
  | [] => gNil
  | i :: is => gCons (gName i) (gNames is)
theorem gNames_ok {t : T} {H : Hp} {Q : L2.St → Hp → Prop} : ∀ (is : List Nat) {ds : List D} {xs : List V} {σ : L2.St} {ρ ρ' : Env}, EnvOk R t H σ ρ → Dens R.K H ds xs → bindN is ds ρ = some ρ' →
    (∀ σ', EnvOk R t H σ' ρ' → (∀ vs : List Nat, (∀ i ∈ is, i ∈ vs) → wipe σ' vs = wipe σ vs) → Q σ' H) → gNames is xs σ H Q
  | [], _, _, _, _, _, ok, .nil, e, k => by
    cases e
    exact ⟨rfl, k _ ok fun _ _ => rfl⟩
  | i :: is, _, _, σ, _, _, ok, .cons h hs, e, k => by
    refine ⟨_, _, rfl, gNames_ok is (ok.set i h) hs e fun σ' ok' hw => k σ' ok' fun vs hv => ?_⟩
    rw [hw vs fun j hj => hv j (List.mem_cons_of_mem _ hj)]
    exact wipe_set (hv i List.mem_cons_self)
theorem bindN_len : ∀ (is : List Nat) {ds : List D} {ρ ρ' : Env}, bindN is ds ρ = some ρ' → ds.length = is.length
  | [], [], _, _, _ => rfl
  | [], _ :: _, _, _, e => by simp [bindN] at e
  | _ :: _, [], _, _, e => by simp [bindN] at e
  | i :: is, d :: ds, _, _, e => by rw [List.length_cons, List.length_cons, bindN_len is (ds := ds) e]
theorem EG_tup {is : List Nat} {n : Nat} {e : Expr} (hn : is.length = n) (h : PG X e (gTup X.K n (gNames is))) (hK : X.K = R.K := by rfl) : PG X e (EG R (.tp is)) := PG_imp h fun v σ H Q ⟨ρ, t, d, ρ', ok, hD, hb, k⟩ => by
  cases hD with
  | tup hT hs =>
    have hl := bindN_len is hb
    refine ⟨_, _, rfl, by rw [hK]; exact .inl (.inl hT), by rw [← hs.len, hl, hn], gNames_ok is ok hs hb fun σ' ok' hw => k σ' ok' hw⟩
  | _ => cases hb
end

/-! ### what is walked -/
/-- from H on the walk J gives the data ds -/
def WD {T : Type} (R : Rg T) (J : It) (H : Hp) (ds : List D) : Prop :=
  Walk J ds.length (fun H2 => Ext H H2 ∧ ∃ t, R.Gd t H2) (fun i H2 x H3 => (∀ t, R.Gd t H2 → R.Go t H2 t H3) ∧ ∃ d, ds[i]? = some d ∧ Den R.K H3 d x)
def EI {T : Type} (R : Rg T) (w : WL T) : TI := fun σ H Q => ∃ ρ t Φ, EnvOk R t H σ ρ ∧ w ρ Φ t ∧ ∀ H' t' J ds, R.Go t H t' H' → WD R J H' ds → Φ ds t' → Q J H'
def wSeq {T : Type} (w : W T) : WL T := fun ρ Φ => w ρ fun d t => ∃ ds, d.items = some ds ∧ Φ ds t
section
variable {T : Type} {X : Cx} {R : Rg T} {pos : Pos}
theorem wd_list {H : Hp} {a : Addr} {xs : List V} {ds : List D} (h : LF R.K H a xs) (hs : Dens R.K H ds xs) : WD R (Itl R.K a) H ds := by
  have hl := hs.len
  unfold WD
  rw [hl]
  refine walk_list.mono (fun H2 g => (g.1.lf h).sq) fun i H2 x H3 hi g y => ?_
  obtain ⟨rfl, y⟩ := y
  obtain ⟨d, e, hd⟩ := (hs.ext g.1).getV y
  exact ⟨fun t gd => .refl gd, d, e, hd⟩
theorem wd_tup {H : Hp} {a : Addr} {xs : List V} {ds : List D} (h : H a = some (.tup xs)) (hs : Dens R.K H ds xs) : WD R (Itt R.K a) H ds := by
  have hl := hs.len
  unfold WD
  rw [hl]
  refine walk_tup.mono (fun H2 g => .inl (.inl (g.1.tup _ _ h))) fun i H2 x H3 hi g y => ?_
  obtain ⟨rfl, y⟩ := y
  obtain ⟨d, e, hd⟩ := (hs.ext g.1).getV y
  exact ⟨fun t gd => .refl gd, d, e, hd⟩
def iSeq (K : PySem.W.Frag) (tl : TE) : TI := fun σ H Rk => tl σ H fun x H1 => (∃ a, x = .ref a ∧ (∃ xs, SqL K H1 a xs) ∧ Rk (Itl K a) H1) ∨ (∃ a, x = .ref a ∧ (∃ xs, SqT K H1 a xs) ∧ Rk (Itt K a) H1)
theorem pi_seq {tg l : Expr} {tl : TE} (hl : PE X l tl) : PI X tg l (iSeq X.K tl) := by
  refine ⟨fun pins s σ H Rk I h => ?_⟩
  refine thn (hl.run pins s σ H _ I h) fun v s1 ⟨x, H1, I1, r1, q1⟩ => ?_
  rcases q1 with ⟨a, e, ⟨xs, hq⟩, q⟩ | ⟨a, e, ⟨xs, hq⟩, q⟩
  · subst e
    cases r1
    obtain ⟨its, rv, p, hz⟩ := I1.list hq
    refine wpAny_pyIter_list p.isList ?_
    refine ⟨s1.heap.objs.size, [s1.heap.objs.size], _, _, H1, rfl, I1.kept (t' := s1.toks) fun b o e => Heap.get?_push_of_some _ e, turn_list a _, ⟨_, Heap.get?_push_size _ rfl, rfl, rfl⟩, fun b hb => ?_, q⟩
    have e : b = s1.heap.objs.size := by simpa using hb
    subst e
    exact I1.fpOk (Nat.le_refl _) (I1.hok.fresh (Nat.le_refl _))
  · subst e
    cases r1
    obtain ⟨its, rv, p, hz⟩ := I1.tuple hq
    refine wpAny_pyIter_tuple (show s1.heap.IsTuple a its.toArray from p) ?_
    refine ⟨s1.heap.objs.size, [s1.heap.objs.size], _, _, H1, rfl, I1.kept (t' := s1.toks) fun b o e => Heap.get?_push_of_some _ e, turn_tuple a _, ⟨_, Heap.get?_push_size _ rfl, rfl, rfl⟩, fun b hb => ?_, q⟩
    have e : b = s1.heap.objs.size := by simpa using hb
    subst e
    exact I1.fpOk (Nat.le_refl _) (I1.hok.fresh (Nat.le_refl _))
theorem EI_seq {tg l : Expr} {w : W T} (hl : PE X l (E R w)) (hK : X.K = R.K := by rfl) : PI X tg l (EI R (wSeq w)) := PI_imp (pi_seq hl) fun σ H Q ⟨ρ, t, Φ, ok, q, k⟩ =>
  ⟨ρ, _, _, ok, q, fun H1 t1 v d g hD ⟨ds, hi, hq⟩ => by
    rw [hK]
    cases hD with
    | tup h hs => cases hi; exact .inr ⟨_, rfl, ⟨_, .inl (.inl h)⟩, k H1 _ _ _ g (wd_tup h hs) hq⟩
    | lst h hs => cases hi; exact .inl ⟨_, rfl, ⟨_, h.sq⟩, k H1 _ _ _ g (wd_list h hs) hq⟩
    | _ => cases hi⟩
/-- a list just made by an expression that lays it: walked as it stands -/
theorem EI_new {tg l : Expr} {w : WL T} (hl : PE X l (EL R w)) (hK : X.K = R.K := by rfl) : PI X tg l (EI R w) := PI_imp (pi_seq (pe_frz hl)) fun σ H Q ⟨ρ, t, Φ, ok, q, k⟩ =>
  ⟨ρ, _, _, ok, q, fun H1 t1 p vs ds g n e nv hD hq => ⟨p, vs, rfl, e, fun o => by
    obtain ⟨g2, x⟩ := go_frz (o := o) g n nv e
    rw [hK]
    exact .inl ⟨_, rfl, ⟨_, (LF.sq (K := R.K) ⟨o, upd_same⟩)⟩, k _ _ _ _ g2 (wd_list ⟨o, upd_same⟩ (hD.ext x)) hq⟩⟩⟩
def rangeD (lo : Int) (n : Nat) : List D := (List.range n).map fun (i : Nat) => D.int (lo + (i : Int))
theorem rangeD_len (lo : Int) (n : Nat) : (rangeD lo n).length = n := by simp [rangeD]
theorem wd_range {H : Hp} (lo : Int) (n : Nat) : WD R (Itr lo n) H (rangeD lo n) := by
  unfold WD
  rw [rangeD_len]
  refine walk_range.mono (fun _ _ => trivial) fun i H2 x H3 hi g y => ?_
  obtain ⟨rfl, rfl⟩ := y
  exact ⟨fun t gd => .refl gd, .int (lo + i), by simp [rangeD, hi], .int _⟩
def wRange1 (w : WA T) : WL T := fun ρ Φ => w ρ fun ds t => ∃ j : Int, ds = [.int j] ∧ -(2 ^ 62) ≤ j ∧ j < 2 ^ 62 ∧ Φ (rangeD 0 j.toNat) t
theorem EI_range1 {tg e : Expr} {w : WA T} (h : ∀ {ta}, PA X [a] ta → PI X tg e (iRng1 ta)) (ha : PA X [a] (EA R w)) : PI X tg e (EI R (wRange1 w)) := PI_imp (h ha) fun σ H Q ⟨ρ, t, Φ, ok, q, k⟩ =>
  ⟨ρ, _, _, ok, q, fun H1 t1 vs ds g hD ⟨j, e, h1, h2, hq⟩ => by
    subst e
    cases hD with
    | cons hd hs =>
      cases hd; cases hs
      exact ⟨j, rfl, h1, h2, k H1 _ _ _ g (wd_range 0 j.toNat) hq⟩⟩
def wRange2 (w : WA T) : WL T := fun ρ Φ => w ρ fun ds t => ∃ i j : Int, ds = [.int i, .int j] ∧ (-(2 ^ 62) ≤ i ∧ i < 2 ^ 62 ∧ -(2 ^ 62) ≤ j ∧ j < 2 ^ 62) ∧ Φ (rangeD i (j - i).toNat) t
theorem EI_range2 {tg e a b : Expr} {w : WA T} (h : ∀ {ta}, PA X [a, b] ta → PI X tg e (iRng2 ta)) (ha : PA X [a, b] (EA R w)) : PI X tg e (EI R (wRange2 w)) := PI_imp (h ha) fun σ H Q ⟨ρ, t, Φ, ok, q, k⟩ =>
  ⟨ρ, _, _, ok, q, fun H1 t1 vs ds g hD ⟨i, j, e, h1, hq⟩ => by
    subst e
    cases hD with
    | cons hd hs =>
      cases hs with
      | cons hd' hs =>
        cases hd; cases hd'; cases hs
        exact ⟨i, j, rfl, h1, k H1 _ _ _ g (wd_range i (j - i).toNat) hq⟩⟩
/-! pairs -/
def enumD (ds : List D) : List D := (List.range ds.length).map fun i => D.tup [.int (i : Nat), ds.getD i .non]
def zipD (ds es : List D) : List D := (ds.zip es).map fun p => D.tup [p.1, p.2]
theorem enumD_len (ds : List D) : (enumD ds).length = ds.length := by simp [enumD]
theorem zipD_len (ds es : List D) : (zipD ds es).length = min ds.length es.length := by simp [zipD]
theorem wd_enum {H : Hp} {a : Addr} {xs : List V} {ds : List D} (h : LF R.K H a xs) (hs : Dens R.K H ds xs) : WD R (Ite R.K a) H (enumD ds) := by
  unfold WD
  rw [enumD_len, hs.len]
  refine walk_enum.mono (fun H2 g => (g.1.lf h).sq) fun i H2 x H3 hi g y => ?_
  obtain ⟨T, x1, x2, rfl, nT, rfl, y1, y2⟩ := y
  cases y1
  obtain ⟨d, e, hd⟩ := (hs.ext g.1).getV y2
  obtain ⟨_, D2⟩ := new_tup (R := R) (ds := [.int (i : Nat), d]) g.2.choose_spec nT (.cons (.int _) (.cons hd .nil))
  refine ⟨fun t gd => .new gd nT, _, ?_, D2⟩
  have hi' : i < ds.length := by rw [hs.len]; exact hi
  have e' := (List.getElem?_eq_some_iff.mp e).2
  simp [enumD, hi', e']
theorem wd_zipL {H : Hp} {a b : Addr} {xs ys : List V} {ds es : List D} (h : LF R.K H a xs) (h' : LF R.K H b ys) (hs : Dens R.K H ds xs) (hs' : Dens R.K H es ys) : WD R (Itz R.K a b) H (zipD ds es) := by
  unfold WD
  rw [zipD_len, hs.len, hs'.len]
  refine (walk_zip rfl).mono (fun H2 g => ⟨(g.1.lf h).sq, (g.1.lf h').sq⟩) fun i H2 x H3 hi g y => ?_
  obtain ⟨T, x1, x2, rfl, nT, rfl, y1, y2⟩ := y
  obtain ⟨d, e, hd⟩ := (hs.ext g.1).getV y1
  obtain ⟨d', e', hd'⟩ := (hs'.ext g.1).getV y2
  obtain ⟨_, D2⟩ := new_tup (R := R) (ds := [d, d']) g.2.choose_spec nT (.cons hd (.cons hd' .nil))
  refine ⟨fun t gd => .new gd nT, _, ?_, D2⟩
  simp [zipD, List.getElem?_zip_eq_some, e, e']
theorem walk_zipT {K : PySem.W.Frag} {a b : Addr} {xs ys : List V} : Walk (ItzT K a b) (min xs.length ys.length) (fun H => SqT K H a xs ∧ SqT K H b ys) (YPair (fun i => xs[i]?) (fun i => ys[i]?)) := by
  refine ⟨fun i _ hi q => ?_, fun _ q => ⟨xs, ys, q.1, q.2, by omega⟩, fun i H v H' _ q y => ?_⟩
  · have h1 : i < xs.length := by omega
    have h2 : i < ys.length := by omega
    exact ⟨xs, ys, xs[i], ys[i], q.1, q.2, by simp [h1], by simp [h2]⟩
  · obtain ⟨T, x, z, h1, h2, h3, h4, h5⟩ := y
    exact ⟨T, x, z, h1, h2, h3, h4 xs q.1, h5 ys q.2⟩
theorem wd_zipT {H : Hp} {a b : Addr} {xs ys : List V} {ds es : List D} (h : H a = some (.tup xs)) (h' : H b = some (.tup ys)) (hs : Dens R.K H ds xs) (hs' : Dens R.K H es ys) : WD R (ItzT R.K a b) H (zipD ds es) := by
  unfold WD
  rw [zipD_len, hs.len, hs'.len]
  refine walk_zipT.mono (fun H2 g => ⟨.inl (.inl (g.1.tup _ _ h)), .inl (.inl (g.1.tup _ _ h'))⟩) fun i H2 x H3 hi g y => ?_
  obtain ⟨T, x1, x2, rfl, nT, rfl, y1, y2⟩ := y
  obtain ⟨d, e, hd⟩ := (hs.ext g.1).getV y1
  obtain ⟨d', e', hd'⟩ := (hs'.ext g.1).getV y2
  obtain ⟨_, D2⟩ := new_tup (R := R) (ds := [d, d']) g.2.choose_spec nT (.cons hd (.cons hd' .nil))
  refine ⟨fun t gd => .new gd nT, _, ?_, D2⟩
  simp [zipD, List.getElem?_zip_eq_some, e, e']
def wEnum (w : WA T) : WL T := fun ρ Φ => w ρ fun ds t => ∃ es, ds = [.lst es] ∧ Φ (enumD es) t
theorem EI_enum {tg e a : Expr} {w : WA T} (h : ∀ {ta}, PA X [a] ta → PI X tg e (iEnum X.K ta)) (ha : PA X [a] (EA R w)) (hK : X.K = R.K := by rfl) : PI X tg e (EI R (wEnum w)) := PI_imp (h ha) fun σ H Q ⟨ρ, t, Φ, ok, q, k⟩ =>
  ⟨ρ, _, _, ok, q, fun H1 t1 vs ds g hD ⟨es, e, hq⟩ => by
    subst e
    rw [hK]
    cases hD with
    | cons hd hs =>
      cases hs
      cases hd with
      | lst hL hds => exact ⟨_, _, rfl, hL.sq, k H1 _ _ _ g (wd_enum hL hds) hq⟩⟩
def wZip (w : WA T) : WL T := fun ρ Φ => w ρ fun ds t => ∃ d1 d2 es fs, ds = [d1, d2] ∧ d1.items = some es ∧ d2.items = some fs ∧ d1.isT = d2.isT ∧ Φ (zipD es fs) t
theorem EI_zip {tg e a b : Expr} {w : WA T} (h : ∀ {ta}, PA X [a, b] ta → PI X tg e (iZipA X.K ta)) (ha : PA X [a, b] (EA R w)) (hK : X.K = R.K := by rfl) : PI X tg e (EI R (wZip w)) := PI_imp (h ha) fun σ H Q ⟨ρ, t, Φ, ok, q, k⟩ =>
  ⟨ρ, _, _, ok, q, fun H1 t1 vs ds g hD ⟨d1, d2, es, fs, e, i1, i2, ht, hq⟩ => by
    rw [hK]
    subst e
    cases hD with
    | cons hd hs =>
      cases hs with
      | cons hd' hs =>
        cases hs
        cases hd with
        | lst hL hds =>
          cases i1
          cases hd' with
          | lst hL' hds' => cases i2; exact ⟨_, _, _, _, rfl, .inl ⟨hL.sq, hL'.sq, k H1 _ _ _ g (wd_zipL hL hL' hds hds') hq⟩⟩
          | tup hL' hds' => cases ht
          | _ => cases i2
        | tup hL hds =>
          cases i1
          cases hd' with
          | tup hL' hds' => cases i2; exact ⟨_, _, _, _, rfl, .inr ⟨.inl (.inl hL), .inl (.inl hL'), k H1 _ _ _ g (wd_zipT hL hL' hds hds') hq⟩⟩
          | lst hL' hds' => cases ht
          | _ => cases i2
        | _ => cases i1⟩
end

/-! ### comprehensions -/
def lcRun {T : Type} (f : D → (List D → T → Prop) → T → Prop) : List D → List D → (List D → T → Prop) → T → Prop
  | [], acc, Φ => Φ acc
  | d :: r, acc, Φ => f d fun ys => lcRun f r (acc ++ ys) Φ
def lcBody {T : Type} (p : Pat) (vs : List Nat) (wt : WB T) (we : W T) (ρ : Env) : D → (List D → T → Prop) → T → Prop := fun d K t => ∃ ρ', bindP p d (wipeE ρ vs) = some ρ' ∧ wt ρ' (fun b t => if b = true then we ρ' (fun y => K [y]) t else K [] t) t
def wLc {T : Type} (wi : WL T) (p : Pat) (vs : List Nat) (wt : WB T) (we : W T) : WL T := fun ρ Φ => wi ρ fun ds t => ds.length ≤ sizeLine ∧ lcRun (lcBody p vs wt we ρ) ds [] Φ t
def wYes {T : Type} : WB T := fun _ Φ => Φ true
section
variable {T : Type} {X : Cx} {R : Rg T} {pos : Pos}
theorem EB_yes : ∀ σ H Q, EB R wYes σ H Q → tYes σ H Q := fun σ H Q ⟨ρ, t, Φ, ok, q, k⟩ => k H _ true (.refl ok.gd) q
/-- a tracked new list grows -/
theorem grow {t t' : T} {H H' : Hp} {D : Addr} {acc : List V} {y : V} (g : R.Go t H t' H') (n : H D = none) (nv : ¬ R.Vol t' D) (e : H' D = some (.lst acc)) : R.Go t H t' (upd H' D (.lst (acc ++ [y]))) ∧ Ext H' (upd H' D (.lst (acc ++ [y]))) := by
  have x : Ext H' (upd H' D (.lst (acc ++ [y]))) := by
    refine ⟨fun a ys q => ?_, fun a ob u q => ?_⟩
    · rw [upd_ne (fun z => by rw [z, e] at q; cases q)]; exact q
    · rw [upd_ne (fun z => by rw [z, e] at q; cases q)]; exact q
  refine ⟨⟨⟨fun a u h1 h2 => ?_, g.st.up, g.st.dn⟩, R.dep t' H' _ g.gd x fun a v => ?_⟩, x⟩
  · rw [upd_ne (ne_of_none h1 n)]; exact g.st.st a u h1 h2
  · rw [upd_ne (fun z => nv (by rw [← z]; exact v))]
theorem ne_none {H : Hp} {a : Addr} {o : HO} (h : H a = some o) : H a ≠ none := by rw [h]; exact fun z => nomatch z
theorem tLc_EL {wi : WL T} {p : Pat} {vs : List Nat} {wt : WB T} {we : W T} (hp : ∀ i ∈ p.vs, i ∈ vs) : ∀ σ H Q, EL R (wLc wi p vs wt we) σ H Q → tLc (EI R wi) (EG R p) (EB R wt) (E R we) vs σ H Q := fun σ H Q ⟨ρ, t, Φ, ok, q, k⟩ => by
  refine ⟨ρ, _, _, ok, q, fun H1 t1 J ds g1 wd ⟨hz, hq⟩ Dl nD => ?_⟩
  have nD0 := none_of_go g1 nD
  have nv1 := not_vol g1.gd nD
  have g0 : R.Go t1 H1 t1 (upd H1 Dl (.lst [])) := .new g1.gd nD
  refine lc_it wd (fun i H2 => ∃ t2, R.Go t1 H1 t2 H2 ∧ ¬ R.Vol t2 Dl ∧ ∃ acc ads, H2 Dl = some (.lst acc) ∧ Dens R.K H2 ads acc ∧ acc.length ≤ i ∧ lcRun (lcBody p vs wt we ρ) (ds.drop i) ads Φ t2) ⟨t1, g0, nv1, [], [], upd_same, .nil, Nat.le_refl _, hq⟩ (fun i H2 _ ⟨t2, h, _⟩ => ⟨h.ext g1.gd, t2, h.gd⟩) ?_ ?_
  · rintro i x H2 H3 hi ⟨t2, g2, nv2, acc, ads, e2, hD, hl, run⟩ ⟨g3, d, hd, hx⟩
    have g3 := g3 t2 g2.gd
    have e3 := g3.st.st Dl _ e2 nv2
    have hDs : ds.drop i = d :: ds.drop (i + 1) := by
      obtain ⟨h1, h2⟩ := List.getElem?_eq_some_iff.mp hd
      rw [← h2]
      exact List.drop_eq_getElem_cons h1
    rw [hDs] at run
    obtain ⟨ρ', hb, run⟩ := run
    have g13 := g2.trans g3
    refine ⟨wipeE ρ vs, t2, d, ρ', (wipeE_ok vs (ok.go (g1.trans g13))), hx, hb, fun σ' ok' hw => ⟨?_, ?_⟩⟩
    · rw [hw vs hp, wipe_wipe]
    · refine ⟨ρ', t2, _, ok', run, fun H4 t4 b g4 hqb => ?_⟩
      have e4 := g4.st.st Dl _ e3 nv2
      have nv4 := g4.st.nvol (ne_none e3) nv2
      have hD4 := hD.ext (g3.ext g2.gd) |>.ext (g4.ext g3.gd)
      cases b with
      | false =>
        simp only [Bool.false_eq_true, if_false] at hqb ⊢
        rw [List.append_nil] at hqb
        exact ⟨t4, g13.trans g4, nv4, acc, ads, e4, hD4, Nat.le_succ_of_le hl, hqb⟩
      | true =>
        simp only [if_true] at hqb ⊢
        refine ⟨ρ', t4, _, ok'.go g4, hqb, fun H5 t5 v y g5 hy run' => ?_⟩
        have e5 := g5.st.st Dl _ e4 nv4
        have nv5 := g5.st.nvol (ne_none e4) nv4
        have g15 := (g13.trans g4).trans g5
        refine ⟨acc, e5, by omega, ?_⟩
        obtain ⟨gg, xx⟩ := grow (y := v) g15 nD nv5 e5
        refine ⟨t5, gg, nv5, acc ++ [v], ads ++ [y], upd_same, ((hD4.ext (g5.ext g4.gd)).ext xx).app (.cons (hy.ext xx) .nil), ?_, run'⟩
        rw [List.length_append]
        exact Nat.add_le_add_right hl 1
  · rintro H2 ⟨t2, g2, nv2, acc, ads, e2, hD, hl, run⟩
    rw [List.drop_length] at run
    exact k H2 t2 Dl acc ads (g1.trans g2) nD0 e2 nv2 hD run
/-- the comprehension as an expression that lays a new list -/
theorem PTs_imp {X : Cx} {e : List Expr} {t t' : TT} (h : PTs X e t) (i : ∀ σ H Q, t' σ H Q → t σ H Q) : PTs X e t' := ⟨fun pins s σ H Q I q => h.run pins s σ H Q I (i σ H Q q)⟩
theorem ETs_nil {X : Cx} : PTs X [] (EB R wYes) := PTs_imp pts_nil EB_yes
theorem EL_lc {elt tg iter : Expr} {ifs : List Expr} {scope : Scope} {own : List (Str × Nat)} {wi : WL T} {p : Pat} {wt : WB T} {we : W T} (hc : X.calm = true) (hN : X.N.Nodup) (ok : BlkOk X.N X.env.scope scope own) (hp : ∀ i ∈ p.vs, i ∈ own.map (·.2))
    (hi : PI X tg iter (EI R wi))
    (hg : ∀ (s : Shared) (H : Hp) (C : Addr) (cl : List (Str × Addr)) (fp : List Addr), PG (X.blk s H scope (compEnvC scope cl C X.env) fp) tg (EG R p)) (ht : ∀ (s : Shared) (H : Hp) (C : Addr) (cl : List (Str × Addr)) (fp : List Addr), PTs (X.blk s H scope (compEnvC scope cl C X.env) fp) ifs (EB R wt))
    (he : ∀ (s : Shared) (H : Hp) (C : Addr) (cl : List (Str × Addr)) (fp : List Addr), PE (X.blk s H scope (compEnvC scope cl C X.env) fp) elt (E R we)) (hs : ∀ x, foldedSetIterable iter X.env x = pure x := by intro _; rfl) :
    PE X (.ListComp elt [⟨tg, iter, ifs, 0⟩] scope pos) (EL R (wLc wi p (own.map (·.2)) wt we)) := PE_imp (pe_lc hc hN hi ok hg ht he hs) (tLc_EL hp)

/-! two clauses -/
def lc2In {T : Type} (p1 : Pat) (vs1 : List Nat) (wt1 : WB T) (we : W T) (ρ : Env) : List D → List D → (List D → T → Prop) → T → Prop
  | [], acc, K => K acc
  | e :: r, acc, K => fun t => ∃ ρ', bindP p1 e (wipeE ρ vs1) = some ρ' ∧ wt1 ρ' (fun b t => if b = true then we ρ' (fun y t => acc.length < sizeLine ∧ lc2In p1 vs1 wt1 we ρ r (acc ++ [y]) K t) t else lc2In p1 vs1 wt1 we ρ r acc K t) t
def lc2Out {T : Type} (p : Pat) (vs : List Nat) (wt : WB T) (wi1 : WL T) (p1 : Pat) (vs1 : List Nat) (wt1 : WB T) (we : W T) (ρ : Env) : List D → List D → (List D → T → Prop) → T → Prop
  | [], acc, K => K acc
  | d :: r, acc, K => fun t => ∃ ρ', bindP p d (wipeE ρ vs) = some ρ' ∧ wt ρ' (fun b t => if b = true then wi1 ρ' (fun es => lc2In p1 vs1 wt1 we ρ' es acc fun acc' => lc2Out p vs wt wi1 p1 vs1 wt1 we ρ r acc' K) t else lc2Out p vs wt wi1 p1 vs1 wt1 we ρ r acc K t) t
def wLc2 {T : Type} (wi : WL T) (p : Pat) (vs : List Nat) (wt : WB T) (wi1 : WL T) (p1 : Pat) (vs1 : List Nat) (wt1 : WB T) (we : W T) : WL T := fun ρ Φ => wi ρ fun ds => lc2Out p vs wt wi1 p1 vs1 wt1 we ρ ds [] Φ
theorem drop_at {α : Type} {ds : List α} {i : Nat} {d : α} (hd : ds[i]? = some d) : ds.drop i = d :: ds.drop (i + 1) := by
  obtain ⟨h1, h2⟩ := List.getElem?_eq_some_iff.mp hd
  rw [← h2]
  exact List.drop_eq_getElem_cons h1
theorem wipeE_own {ρ : Env} {n : Nat} {ls : List D} : ∀ {vs : List Nat}, (wipeE ρ vs)[n]? = some (.own ls) → ρ[n]? = some (.own ls) ∧ n ∉ vs
  | [], h => ⟨h, by simp⟩
  | v :: vs, h => by
    unfold wipeE at h
    by_cases hv : v = n
    · subst hv
      by_cases hl : v < (wipeE ρ vs).length
      · rw [List.getElem?_set_self hl] at h; cases h
      · rw [List.getElem?_eq_none (by rw [List.length_set]; omega)] at h; cases h
    · rw [List.getElem?_set_ne hv] at h
      obtain ⟨h1, h2⟩ := wipeE_own h
      exact ⟨h1, by simp only [List.mem_cons, not_or]; exact ⟨fun e => hv e.symm, h2⟩⟩
theorem set_own {ρ : Env} {i n : Nat} {d : D} {ls : List D} (h : (ρ.set i (.val d))[n]? = some (.own ls)) : ρ[n]? = some (.own ls) := by
  by_cases hv : i = n
  · subst hv
    by_cases hl : i < ρ.length
    · rw [List.getElem?_set_self hl] at h; cases h
    · rw [List.getElem?_eq_none (by rw [List.length_set]; omega)] at h; cases h
  · rw [List.getElem?_set_ne hv] at h; exact h
theorem bindN_own {n : Nat} {ls : List D} : ∀ (is : List Nat) {ds : List D} {ρ ρ' : Env}, bindN is ds ρ = some ρ' → ρ'[n]? = some (.own ls) → ρ[n]? = some (.own ls)
  | [], [], _, _, e, h => by cases e; exact h
  | [], _ :: _, _, _, e, _ => by simp [bindN] at e
  | _ :: _, [], _, _, e, _ => by simp [bindN] at e
  | i :: is, d :: ds, ρ, _, e, h => set_own (bindN_own is (ds := ds) (ρ := ρ.set i (.val d)) e h)
theorem bindP_own {p : Pat} {d : D} {ρ ρ' : Env} {n : Nat} {ls : List D} (e : bindP p d ρ = some ρ') (h : ρ'[n]? = some (.own ls)) : ρ[n]? = some (.own ls) := by
  cases p with
  | nm i => cases e; exact set_own h
  | tp is =>
    cases d with
    | tup ds => exact bindN_own is e h
    | _ => cases e
theorem wipe_at {σ : L2.St} {n : Nat} : ∀ {vs : List Nat}, n ∉ vs → (wipe σ vs)[n]? = σ[n]?
  | [], _ => rfl
  | v :: vs, h => by
    unfold wipe
    rw [List.getElem?_set_ne (fun e => h (by rw [e]; exact List.mem_cons_self))]
    exact wipe_at fun z => h (List.mem_cons_of_mem _ z)
theorem tLc2_EL {wi wi1 : WL T} {p p1 : Pat} {vs vs1 : List Nat} {wt wt1 : WB T} {we : W T} (hp : ∀ i ∈ p.vs, i ∈ vs) (hp1 : ∀ i ∈ p1.vs, i ∈ vs1) :
    ∀ σ H Q, EL R (wLc2 wi p vs wt wi1 p1 vs1 wt1 we) σ H Q → tLc2 (EI R wi) (EG R p) (EB R wt) (EI R wi1) (EG R p1) (EB R wt1) (E R we) vs vs1 σ H Q := fun σ H Q ⟨ρ, t, Φ, ok, q, k⟩ => by
  refine ⟨ρ, _, _, ok, q, fun H1 t1 J ds g1 wd hq Dl nD => ?_⟩
  have nD0 := none_of_go g1 nD
  have nv1 := not_vol g1.gd nD
  have g0 : R.Go t1 H1 t1 (upd H1 Dl (.lst [])) := .new g1.gd nD
  let Pv : Nat → Hp → Prop := fun i H2 => ∃ t2, R.Go t1 H1 t2 H2 ∧ ¬ R.Vol t2 Dl ∧ ∃ acc ads, H2 Dl = some (.lst acc) ∧ Dens R.K H2 ads acc ∧ lc2Out p vs wt wi1 p1 vs1 wt1 we ρ (ds.drop i) ads Φ t2
  refine ⟨fun i m H2 => m = ds.length - i ∧ i ≤ ds.length ∧ Pv i H2, ⟨_, rfl, Nat.zero_le _, t1, g0, nv1, [], [], upd_same, .nil, hq⟩, ?_⟩
  rintro i m H2 ⟨rfl, hi, t2, g2, nv2, acc, ads, e2, hD, run⟩
  have gg2 : Ext H1 H2 ∧ ∃ t, R.Gd t H2 := ⟨g2.ext g1.gd, t2, g2.gd⟩
  by_cases hlt : i < ds.length
  case neg =>
    have e : i = ds.length := by omega
    subst e
    rw [List.drop_length] at run
    exact .inl ⟨wd.stops H2 gg2, k H2 t2 Dl acc ads (g1.trans g2) nD0 e2 nv2 hD run⟩
  refine .inr ⟨wd.goes i H2 hlt gg2, Pv (i + 1), fun H' p' => ⟨ds.length - (i + 1), by omega, rfl, hlt, p'⟩, fun x H3 y => ?_⟩
  obtain ⟨g3, d, hd, hx⟩ := wd.yields i H2 x H3 hlt gg2 y
  have g3 := g3 t2 g2.gd
  have e3 := g3.st.st Dl _ e2 nv2
  rw [drop_at hd] at run
  obtain ⟨ρ', hb, run⟩ := run
  have g13 := g2.trans g3
  refine ⟨wipeE ρ vs, t2, d, ρ', (wipeE_ok vs (ok.go (g1.trans g13))), hx, hb, fun σ' ok' hw => ⟨?_, ?_⟩⟩
  · rw [hw vs hp, wipe_wipe]
  refine ⟨ρ', t2, _, ok', run, fun H4 t4 b g4 hqb => ?_⟩
  have e4 := g4.st.st Dl _ e3 nv2
  have nv4 := g4.st.nvol (ne_none e3) nv2
  have hD4 := hD.ext (g3.ext g2.gd) |>.ext (g4.ext g3.gd)
  have g14 := g13.trans g4
  cases b with
  | false =>
    simp only [Bool.false_eq_true, if_false] at hqb ⊢
    exact ⟨t4, g14, nv4, acc, ads, e4, hD4, hqb⟩
  | true =>
    simp only [if_true] at hqb ⊢
    refine ⟨ρ', t4, _, ok'.go g4, hqb, fun H5 t5 J1 es g5 wd1 hq1 => ?_⟩
    have e5 := g5.st.st Dl _ e4 nv4
    have nv5 := g5.st.nvol (ne_none e4) nv4
    have g15 := g14.trans g5
    let Pu : Nat → Hp → Prop := fun j H6 => ∃ t6, R.Go t1 H1 t6 H6 ∧ ¬ R.Vol t6 Dl ∧ Ext H5 H6 ∧ EnvOk R t6 H6 σ' ρ' ∧ ∃ acc ads, H6 Dl = some (.lst acc) ∧ Dens R.K H6 ads acc ∧ lc2In p1 vs1 wt1 we ρ' (es.drop j) ads (fun acc' => lc2Out p vs wt wi1 p1 vs1 wt1 we ρ (ds.drop (i + 1)) acc' Φ) t6
    refine ⟨fun j m H6 => m = es.length - j ∧ j ≤ es.length ∧ Pu j H6, ⟨_, rfl, Nat.zero_le _, t5, g15, nv5, .refl, (ok'.go g4).go g5, acc, ads, e5, hD4.ext (g5.ext g4.gd), hq1⟩, ?_⟩
    rintro j m6 H6 ⟨rfl, hj, t6, g16, nv6, x56, ok6, acc6, ads6, e6, hD6, run6⟩
    have gg6 : Ext H5 H6 ∧ ∃ t, R.Gd t H6 := ⟨x56, t6, g16.gd⟩
    by_cases hlt1 : j < es.length
    case neg =>
      have e : j = es.length := by omega
      subst e
      rw [List.drop_length] at run6
      exact .inl ⟨wd1.stops H6 gg6, t6, g16, nv6, acc6, ads6, e6, hD6, run6⟩
    refine .inr ⟨wd1.goes j H6 hlt1 gg6, Pu (j + 1), fun H' p' => ⟨es.length - (j + 1), by omega, rfl, hlt1, p'⟩, fun x7 H7 y7 => ?_⟩
    obtain ⟨g7, d7, hd7, hx7⟩ := wd1.yields j H6 x7 H7 hlt1 gg6 y7
    have g7 := g7 t6 g16.gd
    have e7 := g7.st.st Dl _ e6 nv6
    rw [drop_at hd7] at run6
    obtain ⟨ρ7, hb7, run7⟩ := run6
    have ok7 := ok6.go g7
    refine ⟨wipeE ρ' vs1, t6, d7, ρ7, wipeE_ok vs1 ok7, hx7, hb7, fun σ7 okb hw7 => ⟨?_, ?_⟩⟩
    · rw [hw7 vs1 hp1, wipe_wipe]
    refine ⟨ρ7, t6, _, okb, run7, fun H8 t8 b8 g8 hq8 => ?_⟩
    have e8 := g8.st.st Dl _ e7 nv6
    have nv8 := g8.st.nvol (ne_none e7) nv6
    have hD8 := (hD6.ext (g7.ext g16.gd)).ext (g8.ext g7.gd)
    have g18 := (g16.trans g7).trans g8
    have x58 := (x56.trans (g7.ext g16.gd)).trans (g8.ext g7.gd)
    cases b8 with
    | false =>
      simp only [Bool.false_eq_true, if_false] at hq8 ⊢
      exact ⟨t8, g18, nv8, x58, ok7.go g8, acc6, ads6, e8, hD8, hq8⟩
    | true =>
      simp only [if_true] at hq8 ⊢
      refine ⟨ρ7, t8, _, okb.go g8, hq8, fun H9 t9 v y g9 hy ⟨hl9, run9⟩ => ?_⟩
      have e9 := g9.st.st Dl _ e8 nv8
      have nv9 := g9.st.nvol (ne_none e8) nv8
      have g19 := g18.trans g9
      obtain ⟨gg, xx⟩ := grow (y := v) g19 nD nv9 e9
      refine ⟨acc6, e9, by rw [← hD6.len]; exact hl9, t9, gg, nv9, (x58.trans (g9.ext g8.gd)).trans xx, ?_, acc6 ++ [v], ads6 ++ [y], upd_same, ((hD8.ext (g9.ext g8.gd)).ext xx).app (.cons (hy.ext xx) .nil), run9⟩
      -- the slots behind the growth: from the start of the whole
      have okH := ok.go (g1.trans gg)
      have okE := (ok7.go g8).go g9
      refine ⟨gg.gd, okH.st, okE.len, fun n d h => ?_, fun n ls h => ?_, okE.inj, fun n ls h => ?_, okE.injd⟩
      · obtain ⟨v', h1, h2⟩ := okE.val n d h
        exact ⟨v', h1, h2.ext xx⟩
      · obtain ⟨q0, vs0, h1, h2, h3, h4, h4v⟩ := okE.own n ls h
        refine ⟨q0, vs0, h1, ?_, h3.ext xx, h4, h4v⟩
        rw [upd_ne (fun z => ?_)]
        · exact h2
        · obtain ⟨h5, h6⟩ := wipeE_own (bindP_own hb h)
          have hs : σ'[n]? = σ[n]? := by
            rw [← wipe_at (σ := σ') h6, hw vs hp, wipe_wipe, wipe_at h6]
          rw [hs] at h1
          obtain ⟨q1, vs1', h7, h8, _⟩ := ok.own n ls h5
          rw [h1] at h7
          cases h7
          rw [z, nD0] at h8
          cases h8
      · obtain ⟨q0, vs0, h1, h2, h3, h4, h4v⟩ := okE.dct n ls h
        refine ⟨q0, vs0, h1, ?_, h3.ext xx, h4, h4v⟩
        rw [upd_ne (fun z => by rw [z, e9] at h2; cases h2)]
        exact h2
end
end J

set_option Elab.async false
set_option linter.all false
set_option maxRecDepth 100000
set_option maxHeartbeats 4000000
/-! J3: operators, built-ins, subscripts, equality, by data. -/
namespace J
open PySem PySem.Spec L2 RZ

/-! ### data as PyData, equality -/
mutual
def D.toP : D → PyData
  | .non => .none
  | .bl b => .bool b
  | .int i => .int i
  | .str x => .str x
  | .tup ds => .tuple (toPs ds)
  | .lst ds => .list (toPs ds)
  | .hdl _ => .dict []
  | .scr _ => .dict []
def toPs : List D → List PyData
  | [] => []
  | d :: ds => d.toP :: toPs ds
end
theorem toPs_map : ∀ ds : List D, toPs ds = ds.map D.toP
  | [] => rfl
  | d :: ds => by rw [toPs, List.map_cons, toPs_map ds]
section
variable {K : PySem.W.Frag} {H : Hp}
mutual
theorem Den.dp : ∀ {d : D} {v : V}, Den K H d v → SeqAt.shaped d.toP = true ∨ d.toP.canLay0 = true → Dp K H v d.toP
  | _, _, .non, _ => .non
  | _, _, .bl b, _ => .bl b
  | _, _, .int i, _ => .int i
  | _, _, .str x, _ => .str x
  | _, _, .tup h hs, c => .tup (.inl (.inl h)) (Dens.dp hs (by
      rcases c with c | c
      · have := SeqAt.canLay_of_shaped c
        simpa [D.toP, PyData.canLay0] using this
      · simpa [D.toP, PyData.canLay0] using c))
  | _, _, .lst h hs, c => .lst h.sq (Dens.dp hs (by
      rcases c with c | c
      · have := SeqAt.canLay_of_shaped c
        simpa [D.toP, PyData.canLay0] using this
      · simpa [D.toP, PyData.canLay0] using c))
  | _, _, .scr _, c => by
      rcases c with c | c
      · have := SeqAt.canLay_of_shaped c
        simp [D.toP, PyData.canLay0] at this
      · simp [D.toP, PyData.canLay0] at c
  | _, _, .hdl a, c => by
      rcases c with c | c
      · have := SeqAt.canLay_of_shaped c
        simp [D.toP, PyData.canLay0] at this
      · simp [D.toP, PyData.canLay0] at c
theorem Dens.dp : ∀ {ds : List D} {vs : List V}, Dens K H ds vs → PyData.canLayAll0 (toPs ds) = true → DpAll K H vs (toPs ds)
  | _, _, .nil, _ => .nil
  | _, _, .cons h hs, c => by
      rw [toPs, PyData.canLayAll0, Bool.and_eq_true] at c
      exact .cons (Den.dp h (.inr c.1)) (Dens.dp hs c.2)
end
end
def D.shp (d : D) : Prop := SeqAt.shaped d.toP = true
def D.eq (d e : D) : Bool := PyData.eqv d.toP e.toP

section
variable {T : Type} {X : Cx} {R : Rg T} {pos : Pos}
/-! ### operators on data -/
def fEq (d e : D) (Φ : D → Prop) : Prop := d.shp ∧ e.shp ∧ Φ (.bl (d.eq e))
def fNe (d e : D) (Φ : D → Prop) : Prop := d.shp ∧ e.shp ∧ Φ (.bl (!d.eq e))
theorem opd_eq (hK : X.K = R.K := by rfl) : Op2 R (rEqD X.K) fEq := fun t H x y dx dy Φ Q gd hx hy ⟨s1, s2, q⟩ k => by
  rw [hK]
  exact ⟨dx.toP, dy.toP, hx.dp (.inl s1), hy.dp (.inl s2), s1, s2, k H _ (.bl _) (.refl gd) (.bl _) q⟩
theorem opd_ne (hK : X.K = R.K := by rfl) : Op2 R (rNeD X.K) fNe := fun t H x y dx dy Φ Q gd hx hy ⟨s1, s2, q⟩ k => by
  rw [hK]
  exact ⟨dx.toP, dy.toP, hx.dp (.inl s1), hy.dp (.inl s2), s1, s2, k H _ (.bl _) (.refl gd) (.bl _) q⟩
def fI (C : Int → Int → Prop) (g : Int → Int → D) : D → D → (D → Prop) → Prop := fun d e Φ => ∃ i j, d = .int i ∧ e = .int j ∧ C i j ∧ Φ (g i j)
def fI0 (g : Int → Int → D) : D → D → (D → Prop) → Prop := fun d e Φ => ∃ i j, d = .int i ∧ e = .int j ∧ Φ (g i j)
theorem opd_I {C : Int → Int → Prop} {g : Int → Int → Int} : Op2 R (rI C fun i j => .int (g i j)) (fI C fun i j => .int (g i j)) := fun t H x y dx dy Φ Q gd hx hy ⟨i, j, e1, e2, c, q⟩ k => by
  subst e1 e2
  cases hx
  cases hy
  exact ⟨i, j, rfl, rfl, c, k H _ (.int _) (.refl gd) (.int _) q⟩
theorem opd_I0 {g : Int → Int → Int} : Op2 R (rI0 fun i j => .int (g i j)) (fI0 fun i j => .int (g i j)) := fun t H x y dx dy Φ Q gd hx hy ⟨i, j, e1, e2, q⟩ k => by
  subst e1 e2
  cases hx
  cases hy
  exact ⟨i, j, rfl, rfl, k H _ (.int _) (.refl gd) (.int _) q⟩
theorem opd_B0 {g : Int → Int → Bool} : Op2 R (rI0 fun i j => .bl (g i j)) (fI0 fun i j => .bl (g i j)) := fun t H x y dx dy Φ Q gd hx hy ⟨i, j, e1, e2, q⟩ k => by
  subst e1 e2
  cases hx
  cases hy
  exact ⟨i, j, rfl, rfl, k H _ (.bl _) (.refl gd) (.bl _) q⟩
/-- + of ints, of tuples -/
def addD : D → D → Option D
  | .int i, .int j => some (.int (i + j))
  | .tup xs, .tup ys => some (.tup (xs ++ ys))
  | _, _ => none
def D.small : D → Prop
  | .tup xs => xs.length ≤ sizeLine
  | _ => True
def fAdd (d e : D) (Φ : D → Prop) : Prop := ∃ z, addD d e = some z ∧ z.small ∧ Φ z
theorem op_addIT : OpR X (binaryOp .Add) (fun x y H Q => rI0 (fun i j => .int (i + j)) x y H Q ∨ rCatA X.K x y H Q) := op_add.or op_catA
theorem opd_add (hK : X.K = R.K := by rfl) : Op2 R (fun x y H Q => rI0 (fun i j => .int (i + j)) x y H Q ∨ rCatA X.K x y H Q) fAdd := fun t H x y dx dy Φ Q gd hx hy ⟨z, hz, hs, q⟩ k => by
  rw [hK]
  cases hx with
  | int i =>
    cases hy with
    | int j => cases hz; exact .inl ⟨i, j, rfl, rfl, k H _ (.int _) (.refl gd) (.int _) q⟩
    | _ => cases hz
  | @tup a vs xs hx hxs =>
    cases hy with
    | @tup b us ys hy hys =>
      cases hz
      refine .inr ⟨a, b, vs, us, rfl, rfl, .inl (.inl hx), .inl (.inl hy), ?_, fun e => ?_, fun _ e => ?_, fun _ _ p n => ?_⟩
      · have hs : (xs ++ ys).length ≤ sizeLine := hs
        rw [← hxs.len, ← hys.len, ← List.length_append]; exact hs
      · subst e
        cases hxs
        exact k H _ (.tup ys) (.refl gd) (.tup hy hys) (by simpa using q)
      · subst e
        cases hys
        exact k H _ (.tup xs) (.refl gd) (.tup hx hxs) (by simpa using q)
      · obtain ⟨g, h'⟩ := new_tup (R := R) gd n (hxs.app hys)
        exact k _ _ _ g h' q
    | _ => cases hz
  | _ => cases hz
/-! is -/
def fIsN (d e : D) (Φ : D → Prop) : Prop := e = .non ∧ Φ (.bl (match d with | .non => true | _ => false))
def fNotN (d e : D) (Φ : D → Prop) : Prop := e = .non ∧ Φ (.bl (match d with | .non => false | _ => true))
theorem opd_isN : Op2 R (fun x y H Q => y = V.non ∧ Q (.bl (decide (x = .non))) H) fIsN := fun t H x y dx dy Φ Q gd hx hy ⟨e, q⟩ k => by
  subst e
  cases hy
  refine ⟨rfl, k H _ (.bl _) (.refl gd) ?_ q⟩
  cases hx <;> first | exact .bl true | exact .bl false
theorem opd_notN : Op2 R (fun x y H Q => y = V.non ∧ Q (.bl (!decide (x = .non))) H) fNotN := fun t H x y dx dy Φ Q gd hx hy ⟨e, q⟩ k => by
  subst e
  cases hy
  refine ⟨rfl, k H _ (.bl _) (.refl gd) ?_ q⟩
  cases hx <;> first | exact .bl true | exact .bl false
def fB (g : Bool → Bool → Bool) : D → D → (D → Prop) → Prop := fun d e Φ => ∃ i j, d = .bl i ∧ e = .bl j ∧ Φ (.bl (g i j))
theorem opd_isB : Op2 R rIsB (fB fun a b => decide (a = b)) := fun t H x y dx dy Φ Q gd hx hy ⟨i, j, e1, e2, q⟩ k => by
  subst e1 e2
  cases hx
  cases hy
  exact ⟨i, j, rfl, rfl, k H _ (.bl _) (.refl gd) (.bl _) q⟩
theorem opd_notB : Op2 R rNotB (fB fun a b => !decide (a = b)) := fun t H x y dx dy Φ Q gd hx hy ⟨i, j, e1, e2, q⟩ k => by
  subst e1 e2
  cases hx
  cases hy
  exact ⟨i, j, rfl, rfl, k H _ (.bl _) (.refl gd) (.bl _) q⟩
theorem opd_neg : Op1 R (rU fun i => .int (-i)) (fun d Φ => ∃ i, d = .int i ∧ Φ (.int (-i))) := fun t H x dx Φ Q gd hx ⟨i, e, q⟩ k => by
  subst e
  cases hx
  exact ⟨i, rfl, k H _ (.int _) (.refl gd) (.int _) q⟩

/-! ### subscripts -/
def fIx (d e : D) (Φ : D → Prop) : Prop := ∃ n ds x, e = .int n ∧ d.items = some ds ∧ atI ds n = some x ∧ Φ x
theorem Dens.atI {K : PySem.W.Frag} {H : Hp} {ds : List D} {vs : List V} {n : Int} {d : D} (hs : Dens K H ds vs) (e : L2.atI ds n = some d) : ∃ v, L2.atI vs n = some v ∧ Den K H d v := by
  unfold L2.atI at e ⊢
  rw [← hs.len]
  cases q : ixN ds.length n with
  | none => rw [q] at e; cases e
  | some j =>
    rw [q] at e
    obtain ⟨v, h1, h2⟩ := hs.get (i := j) (d := d) e
    exact ⟨v, h1, h2⟩
def rIxD (K : PySem.W.Frag) : R2 := fun x y H Q => rIxL K x y H Q ∨ rIxT K x y H Q
theorem ix_d : IxR X (rIxD X.K) := ix_list.or ix_tup
theorem opd_ix (hK : X.K = R.K := by rfl) : Op2 R (rIxD X.K) fIx := fun t H x y dx dy Φ Q gd hx hy ⟨n, ds, d, e, hi, ha, q⟩ k => by
  subst e
  rw [hK]
  cases hy
  cases hx with
  | tup ht hs =>
    cases hi
    obtain ⟨v, h1, h2⟩ := hs.atI ha
    exact .inr ⟨_, _, n, v, rfl, rfl, .inl (.inl ht), h1, k H v d (.refl gd) h2 q⟩
  | lst ht hs =>
    cases hi
    obtain ⟨v, h1, h2⟩ := hs.atI ha
    exact .inl ⟨_, _, n, v, rfl, rfl, ht.sq, h1, k H v d (.refl gd) h2 q⟩
  | _ => cases hi
variable {a b : Expr} {wa wb : W T}
theorem E_ix (ha : PE X a (E R wa)) (hb : PE X b (E R wb)) (hs : PlainIx b := by intro _ _; rfl) (hK : X.K = R.K := by rfl) : PE X (.Subscript a b pos) (E R (wBin fIx wa wb)) :=
  PE_imp (pe_ix ix_d ha hb hs) (tOp_E (opd_ix hK))
/-! slices -/
abbrev WO (T : Type) := Env → (Option Int → T → Prop) → T → Prop
def EO {T : Type} (R : Rg T) (w : WO T) : TO := fun σ H Q => ∃ ρ t Φ, EnvOk R t H σ ρ ∧ w ρ Φ t ∧ ∀ H' t' o, R.Go t H t' H' → Φ o t' → Q o H'
theorem PO_imp {X : Cx} {e : Option Expr} {t t' : TO} (h : PO X e t) (i : ∀ σ H Q, t' σ H Q → t σ H Q) : PO X e t' := ⟨fun pins s σ H Q I q => h.run pins s σ H Q I (i σ H Q q)⟩
def wNoO : WO T := fun _ Φ => Φ none
def wSomeO (w : W T) : WO T := fun ρ Φ => w ρ fun d t => ∃ i, d = .int i ∧ Φ (some i) t
theorem EO_none : PO X none (EO R wNoO) := PO_imp po_none fun σ H Q ⟨ρ, t, Φ, ok, q, k⟩ => k H _ none (.refl ok.gd) q
theorem EO_some (h : PE X a (E R wa)) : PO X (some a) (EO R (wSomeO wa)) := PO_imp (po_some h) fun σ H Q ⟨ρ, t, Φ, ok, q, k⟩ =>
  ⟨ρ, _, _, ok, q, fun H1 t1 v d g hD ⟨i, e, q⟩ => by
    subst e
    cases hD
    exact ⟨i, rfl, k H1 _ _ g q⟩⟩
def cutD (xs : List D) (lo hi : Option Int) : List D := (xs.drop (HT.sIx xs.length 0 lo)).take (HT.sIx xs.length xs.length hi - HT.sIx xs.length 0 lo)
theorem Dens.cut {K : PySem.W.Frag} {H : Hp} {ds : List D} {vs : List V} (hs : Dens K H ds vs) (lo hi : Option Int) : Dens K H (cutD ds lo hi) (cutV vs lo hi) := by
  unfold cutD cutV
  rw [hs.len]
  exact (hs.drop _).take _
theorem cutD_whole (xs : List D) (lo hi : Option Int) (h : HT.sIx xs.length 0 lo = 0 ∧ HT.sIx xs.length xs.length hi = xs.length) : cutD xs lo hi = xs := by
  unfold cutD
  rw [h.1, h.2]
  simp
def wSl (w : W T) (wl wh : WO T) : W T := fun ρ Φ => w ρ fun d => wl ρ fun l => wh ρ fun u t => ∃ xs, d = .tup xs ∧ Φ (.tup (cutD xs l u)) t
/-- a slice of a tuple -/
theorem E_slT {lo hi : Option Expr} {p2 : Pos} {wl wh : WO T} (ha : PE X a (E R wa)) (hl : PO X lo (EO R wl)) (hh : PO X hi (EO R wh)) (hK : X.K = R.K := by rfl) : PE X (.Subscript a (.Slice lo hi none p2) pos) (E R (wSl wa wl wh)) :=
  PE_imp (pe_slice sl_tupA ha hl hh) fun σ H Q ⟨ρ, t, Φ, ok, q, k⟩ => by
    refine ⟨ρ, _, _, ok, q, fun H1 t1 v d g1 hD q1 => ⟨ρ, _, _, ok.go g1, q1, fun H2 t2 l g2 q2 => ⟨ρ, _, _, (ok.go g1).go g2, q2, fun H3 t3 u g3 ⟨xs, e, q3⟩ => ?_⟩⟩⟩
    subst e
    rw [hK]
    have hD3 := (hD.ext (g2.ext g1.gd)).ext (g3.ext g2.gd)
    have g := g1.trans (g2.trans g3)
    cases hD3 with
    | @tup a vs _ ht hs =>
      refine ⟨a, vs, rfl, .inl (.inl ht), fun hw => ?_, fun hw p n => ?_⟩
      · refine k H3 _ _ (.tup (cutD xs l u)) g (.tup ht ?_) q3
        rw [cutD_whole xs l u (by rw [hs.len]; exact hw)]
        exact hs
      · obtain ⟨g4, D4⟩ := new_tup (R := R) g3.gd n (hs.cut l u)
        exact k _ _ _ _ (g.trans g4) D4 q3
def wSlL (w : W T) (wl wh : WO T) : WL T := fun ρ Φ => w ρ fun d => wl ρ fun l => wh ρ fun u t => ∃ xs, d = .lst xs ∧ Φ (cutD xs l u) t
theorem EL_slL {lo hi : Option Expr} {p2 : Pos} {wl wh : WO T} (ha : PE X a (E R wa)) (hl : PO X lo (EO R wl)) (hh : PO X hi (EO R wh)) (hK : X.K = R.K := by rfl) : PE X (.Subscript a (.Slice lo hi none p2) pos) (EL R (wSlL wa wl wh)) :=
  PE_imp (pe_slice sl_list ha hl hh) fun σ H Q ⟨ρ, t, Φ, ok, q, k⟩ => by
    refine ⟨ρ, _, _, ok, q, fun H1 t1 v d g1 hD q1 => ⟨ρ, _, _, ok.go g1, q1, fun H2 t2 l g2 q2 => ⟨ρ, _, _, (ok.go g1).go g2, q2, fun H3 t3 u g3 ⟨xs, e, q3⟩ => ?_⟩⟩⟩
    subst e
    rw [hK]
    have hD3 := (hD.ext (g2.ext g1.gd)).ext (g3.ext g2.gd)
    have g := g1.trans (g2.trans g3)
    cases hD3 with
    | @lst a vs _ ht hs =>
      refine ⟨a, vs, rfl, ht.sq, fun p n => ?_⟩
      obtain ⟨g4, nv, D4⟩ := new_lst (R := R) g3.gd n (hs.cut l u)
      exact k _ _ p _ _ (g.trans g4) (none_of_go g n) upd_same nv D4 q3

/-! ### lists put together -/
theorem Inv.lstR {pins : List (Addr × Obj)} {σ : L2.St} {H : Hp} {s : Shared} {l : Addr} {xs : List V} (I : L2.Inv X pins σ H s) (hH : Rd H l (.lst xs)) : xs.length ≤ sizeLine ∧ ∃ (its : List Value) (n : Nat), Vals xs its ∧ xs.length = its.length ∧ s.heap.get? l = some { cls := .type "list", data := .seq its.toArray n } := by
  obtain ⟨z, its, n, r, e⟩ := hH.ok I.hok
  exact ⟨z, its, n, r, r.length, e⟩
def rCatR : R2 := fun x y H Q => ∃ l b xs zs, x = .ref l ∧ y = .ref b ∧ Rd H l (.lst xs) ∧ Rd H b (.lst zs) ∧ xs.length + zs.length ≤ sizeLine ∧ ∀ p, H p = none → Q (.ref p) (upd H p (.lst (xs ++ zs)))
theorem op_catR : OpR X (binaryOp .Add) rCatR := by
  intro pins s σ H x y v u Q I rx ry h
  obtain ⟨l, b, xs, zs, rfl, rfl, hH, hB, hz, q⟩ := h
  cases rx
  cases ry
  obtain ⟨z, its, n, r, hl, e⟩ := Inv.lstR I hH
  obtain ⟨z2, its2, n2, r2, hl2, e2⟩ := Inv.lstR I hB
  refine PySem.P.add_list e e2 ?_ (by rw [List.size_toArray, List.size_toArray]; omega)
  have ea : its.toArray ++ its2.toArray = (its ++ its2).toArray := by simp
  rw [ea]
  exact ⟨.ref _, _, I.lnew (t' := s.toks) (r.append r2) (by rw [List.length_append]; omega), rfl, q _ I.fresh⟩
/-- what lays a new list of two operands, by data -/
def Op2L (R : Rg T) (r : R2) (f : D → D → (List D → Prop) → Prop) : Prop := ∀ t H x y dx dy Φ (Q : VK), R.Gd t H → Den R.K H dx x → Den R.K H dy y → f dx dy Φ → (∀ p vs ds, H p = none → Dens R.K H ds vs → Φ ds → Q (.ref p) (upd H p (.lst vs))) → r x y H Q
theorem EL_bin {op : Operator} {r : R2} {f : D → D → (List D → Prop) → Prop} (ho : OpR X (binaryOp op) r) (hf : Op2L R r f) (ha : PE X a (E R wa)) (hb : PE X b (E R wb)) : PE X (.BinOp a op b pos) (EL R (fun ρ Φ => wa ρ fun x => wb ρ fun y t => f x y fun ds => Φ ds t)) :=
  PE_imp (pe_op ho ha hb) fun σ H Q ⟨ρ, t, Φ, ok, q, k⟩ => by
    refine ⟨ρ, _, _, ok, q, fun H1 t1 v1 d1 g1 D1 q1 => ⟨ρ, _, _, ok.go g1, q1, fun H2 t2 v2 d2 g2 D2 q2 => ?_⟩⟩
    refine hf t2 H2 v1 v2 d1 d2 _ Q g2.gd (D1.ext (g2.ext g1.gd)) D2 q2 fun p vs ds n hD hq => ?_
    obtain ⟨g3, nv, D3⟩ := new_lst (R := R) g2.gd n hD
    have g := g1.trans g2
    exact k _ _ p vs ds (g.trans g3) (none_of_go g n) upd_same nv D3 hq
def fCat (d e : D) (Φ : List D → Prop) : Prop := ∃ xs ys, d = .lst xs ∧ e = .lst ys ∧ xs.length + ys.length ≤ sizeLine ∧ Φ (xs ++ ys)
theorem opd_cat : Op2L R rCatR fCat := fun t H x y dx dy Φ Q gd hx hy ⟨xs, ys, e1, e2, hl, q⟩ k => by
  subst e1 e2
  cases hx with
  | lst ha hs =>
    cases hy with
    | lst hb hs' => exact ⟨_, _, _, _, rfl, rfl, ha.rd, hb.rd, by rw [← hs.len, ← hs'.len]; exact hl, fun p n => k p _ _ n (hs.app hs') q⟩
end
end J

set_option Elab.async false
set_option linter.all false
set_option maxRecDepth 100000
set_option maxHeartbeats 4000000
/-! J4: built-in calls, calls of defs, statements. -/
namespace J
open PySem PySem.Spec L2 RZ
theorem b_len : bootBuiltins "len" = some (.builtin "len") := by decide +kernel
theorem b_abs : bootBuiltins "abs" = some (.builtin "abs") := by decide +kernel
theorem b_sum : bootBuiltins "sum" = some (.builtin "sum") := by decide +kernel
theorem b_max : bootBuiltins "max" = some (.builtin "max") := by decide +kernel
theorem b_min : bootBuiltins "min" = some (.builtin "min") := by decide +kernel
theorem b_all : bootBuiltins "all" = some (.builtin "all") := by decide +kernel
theorem b_any : bootBuiltins "any" = some (.builtin "any") := by decide +kernel
theorem b_isinstance : bootBuiltins "isinstance" = some (.builtin "isinstance") := by decide +kernel
theorem b_sorted : bootBuiltins "sorted" = some (.builtin "sorted") := by decide +kernel
theorem b_tuple : bootBuiltins "tuple" = some (.type "tuple") := by decide +kernel
theorem b_list : bootBuiltins "list" = some (.type "list") := by decide +kernel
theorem b_int : bootBuiltins "int" = some (.type "int") := by decide +kernel
theorem b_bool : bootBuiltins "bool" = some (.type "bool") := by decide +kernel
theorem b_str : bootBuiltins "str" = some (.type "str") := by decide +kernel

section
variable {T : Type} {X : Cx} {R : Rg T} {pos : Pos}
/-! ### built-in calls, by data -/
def OpN (R : Rg T) (r : List V → Hp → VK → Prop) (f : List D → (D → Prop) → Prop) : Prop := ∀ t H vs ds Φ (Q : VK), R.Gd t H → Dens R.K H ds vs → f ds Φ → (∀ H' v d, R.Go t H t H' → Den R.K H' d v → Φ d → Q v H') → r vs H Q
def wCall (f : List D → (D → Prop) → Prop) (w : WA T) : W T := fun ρ Φ => w ρ fun ds t => f ds fun d => Φ d t
theorem E_cb {e : Expr} {r : List V → Hp → VK → Prop} {f : List D → (D → Prop) → Prop} {es : List Expr} {w : WA T} (h : ∀ {t}, PA X es t → PE X e (tCB r t)) (hf : OpN R r f) (ha : PA X es (EA R w)) : PE X e (E R (wCall f w)) :=
  PE_imp (h ha) fun σ H Q ⟨ρ, t, Φ, ok, q, k⟩ => ⟨ρ, _, _, ok, q, fun H1 t1 vs ds g hD hq => hf t1 H1 vs ds _ Q g.gd hD hq fun H2 v d g2 hD2 hq2 => k H2 _ v d (g.trans g2) hD2 hq2⟩
def OpNL (R : Rg T) (r : List V → Hp → VK → Prop) (f : List D → (List D → Prop) → Prop) : Prop := ∀ t H vs ds Φ (Q : VK), R.Gd t H → Dens R.K H ds vs → f ds Φ → (∀ p us es, H p = none → Dens R.K H es us → Φ es → Q (.ref p) (upd H p (.lst us))) → r vs H Q
theorem EL_cb {e : Expr} {r : List V → Hp → VK → Prop} {f : List D → (List D → Prop) → Prop} {es : List Expr} {w : WA T} (h : ∀ {t}, PA X es t → PE X e (tCB r t)) (hf : OpNL R r f) (ha : PA X es (EA R w)) : PE X e (EL R (fun ρ Φ => w ρ fun ds t => f ds fun es => Φ es t)) :=
  PE_imp (h ha) fun σ H Q ⟨ρ, t, Φ, ok, q, k⟩ => ⟨ρ, _, _, ok, q, fun H1 t1 vs ds g hD hq => hf t1 H1 vs ds _ Q g.gd hD hq fun p us es n hE hq2 => by
    obtain ⟨g2, nv, D2⟩ := new_lst (R := R) g.gd n hE
    exact k _ _ p us es (g.trans g2) (none_of_go g n) upd_same nv D2 hq2⟩
theorem Dens.one {K : PySem.W.Frag} {H : Hp} {d : D} {vs : List V} (h : Dens K H [d] vs) : ∃ v, vs = [v] ∧ Den K H d v := by
  cases h with
  | cons h hs => cases hs; exact ⟨_, rfl, h⟩
theorem Dens.two {K : PySem.W.Frag} {H : Hp} {d e : D} {vs : List V} (h : Dens K H [d, e] vs) : ∃ v u, vs = [v, u] ∧ Den K H d v ∧ Den K H e u := by
  cases h with
  | cons h hs =>
    obtain ⟨u, rfl, h2⟩ := hs.one
    exact ⟨_, u, rfl, h, h2⟩
def D.lenI : D → Option (List D)
  | .tup ds => some ds
  | .lst ds => some ds
  | .scr ns => some (ns.map .int)
  | _ => none
theorem lenI_tup (ds : List D) : D.lenI (.tup ds) = some ds := rfl
theorem lenI_lst (ds : List D) : D.lenI (.lst ds) = some ds := rfl
theorem lenI_scr (ns : List Int) : D.lenI (.scr ns) = some (ns.map .int) := rfl
def fLen (ds : List D) (Φ : D → Prop) : Prop := ∃ d xs, ds = [d] ∧ d.lenI = some xs ∧ Φ (.int xs.length)
theorem opn_len (hK : X.K = R.K := by rfl) : OpN R (fun xs H Q => ∃ p ys, xs = [.ref p] ∧ (SqL X.K H p ys ∨ SqT X.K H p ys) ∧ Q (.int ys.length) H) fLen := fun t H vs ds Φ Q gd hD ⟨d, xs, e, hi, q⟩ k => by
  rw [hK]
  subst e
  obtain ⟨v, rfl, hv⟩ := hD.one
  cases hv with
  | tup ht hs => cases hi; exact ⟨_, _, rfl, .inr (.inl (.inl ht)), k H _ (.int _) (.refl gd) (by rw [← hs.len]; exact .int _) q⟩
  | lst ht hs => cases hi; exact ⟨_, _, rfl, .inl ht.sq, k H _ (.int _) (.refl gd) (by rw [← hs.len]; exact .int _) q⟩
  | scr ha => cases hi; exact ⟨_, _, rfl, .inl ha.sq, k H _ (.int _) (.refl gd) (by rw [List.length_map, List.length_map]; exact .int _) q⟩
  | _ => cases hi
def fAbs (ds : List D) (Φ : D → Prop) : Prop := ∃ i : Int, ds = [.int i] ∧ Φ (.int (if i < 0 then -i else i))
theorem opn_abs : OpN R (fun xs H Q => ∃ i, xs = [.int i] ∧ Q (.int (if i < 0 then -i else i)) H) fAbs := fun t H vs ds Φ Q gd hD ⟨i, e, q⟩ k => by
  subst e
  obtain ⟨v, rfl, hv⟩ := hD.one
  cases hv
  exact ⟨i, rfl, k H _ (.int _) (.refl gd) (.int _) q⟩
def fMin2 (ds : List D) (Φ : D → Prop) : Prop := ∃ i j : Int, ds = [.int i, .int j] ∧ Φ (.int (if j < i then j else i))
theorem opn_min2 : OpN R (fun xs H Q => ∃ i j : Int, xs = [.int i, .int j] ∧ Q (.int (if j < i then j else i)) H) fMin2 := fun t H vs ds Φ Q gd hD ⟨i, j, e, q⟩ k => by
  subst e
  obtain ⟨v, u, rfl, hv, hu⟩ := hD.two
  cases hv; cases hu
  exact ⟨i, j, rfl, k H _ (.int _) (.refl gd) (.int _) q⟩
def fMax2 (ds : List D) (Φ : D → Prop) : Prop := ∃ i j : Int, ds = [.int i, .int j] ∧ Φ (.int (if j > i then j else i))
theorem opn_max2 : OpN R (fun xs H Q => ∃ i j : Int, xs = [.int i, .int j] ∧ Q (.int (if j > i then j else i)) H) fMax2 := fun t H vs ds Φ Q gd hD ⟨i, j, e, q⟩ k => by
  subst e
  obtain ⟨v, u, rfl, hv, hu⟩ := hD.two
  cases hv; cases hu
  exact ⟨i, j, rfl, k H _ (.int _) (.refl gd) (.int _) q⟩
def intD : D → Option Int
  | .int i => some i
  | .bl b => some (if b then 1 else 0)
  | _ => none
def fInt (ds : List D) (Φ : D → Prop) : Prop := ∃ d i, ds = [d] ∧ intD d = some i ∧ Φ (.int i)
theorem opn_int : OpN R (fun xs H Q => (∃ i, xs = [.int i] ∧ Q (.int i) H) ∨ ∃ k, xs = [.bl k] ∧ Q (.int (if k then 1 else 0)) H) fInt := fun t H vs ds Φ Q gd hD ⟨d, i, e, hi, q⟩ k => by
  subst e
  obtain ⟨v, rfl, hv⟩ := hD.one
  cases hv with
  | int i => cases hi; exact .inl ⟨_, rfl, k H _ (.int _) (.refl gd) (.int _) q⟩
  | bl b => cases hi; exact .inr ⟨b, rfl, k H _ (.int _) (.refl gd) (.int _) q⟩
  | _ => cases hi
/-! sums, greatest, least of lists and tuples of ints -/
def Sq (K : PySem.W.Frag) (H : Hp) (a : Addr) (xs : List V) : Prop := SqL K H a xs ∨ SqT K H a xs
def rSumS (K : PySem.W.Frag) : List V → Hp → VK → Prop := fun vs H Q => ∃ (a : Addr) (ns : List Int), vs = [V.ref a] ∧ Sq K H a (ns.map V.int) ∧ Q (.int ns.sum) H
theorem cr_sumS (hc : X.calm = true) : CallR X (.builtin "sum") (rSumS X.K) := by
  intro pins s σ H vs us Q I r h
  obtain ⟨a, ns, rfl, hs, q⟩ := h
  rcases hs with hs | hs
  · exact cr_sum hc pins s σ H _ us Q I r ⟨a, ns, rfl, hs, q⟩
  · obtain ⟨its, rv, ht, _⟩ := I.tuple hs
    rw [Vals.ref1 r]
    obtain ⟨xs, hx⟩ := rv.ints.allInts.items
    have hn : PySem.numsOf (intItems xs).toList = ns := by rw [← hx]; exact rv.ints.numsOf
    rw [nums_intItems] at hn
    have ht2 : s.heap.IsTuple a its.toArray := ht
    rw [hx] at ht2
    refine PySem.W.ktm_sumG (I.ok.hd hc) ht2 fun h' tk t' hk => ⟨.int ns.sum, H, I.kept hk, ?_, q⟩
    refine ⟨t', ?_⟩
    rw [preSum_eq, List.take_of_length_le (by simp), hn]

theorem max_rawT {prog : Program} {w : World} {A : Around} {E : Value → Shared → Prop} {s : Shared} {l : Addr} {its : List Value} {ns : List Int} {Q : Value → Shared → Prop} (hh : A.handled = none) (hl : s.heap.IsTuple l its.toArray) (hi : PyProof.Rows.IntsAre its ns) (hne : 0 < ns.length)
    (h : ∀ h' tk M t', (∀ b o, s.heap.get? b = some o → h'.get? b = some o) → M ∈ ns → (∀ a, a ∈ ns → a ≤ M) → Q (.int M t') { s with heap := h', toks := tk }) : wpAny (model prog w) A (call (.builtin "max") [.ref l]) Q E s := by
  obtain ⟨xs, e⟩ := hi.allInts.items
  have hn : numsOf (intItems xs).toList = ns := by rw [← e]; exact hi.numsOf
  rw [nums_intItems] at hn
  subst hn
  rw [e] at hl
  have hsz : 0 < xs.size := by simpa using hne
  obtain ⟨ob, ho, hc, n, hd⟩ := id hl
  have hlt : l < s.heap.objs.size := Heap.lt_size ho
  refine call_max_walk (wpAny_pyIter_tuple hl ?_)
  refine ⟨_, _, _, _, _, _, _, rfl, Walks.tuple (A := A.in1) hh _ l (Nat.ne_of_lt hlt) (intItems xs), ⟨⟨_, Heap.get?_push_size _ rfl, rfl, rfl⟩, hl.at fun o e => Heap.get?_push_of_some _ e⟩, fun b hb => ?_, by simpa [intItems] using hne, CmpOf.ints_gt (numAt xs) (fun _ _ => intItems_at), fun v h' tk hP hk => ?_⟩
  · show b < (s.heap.push _).objs.size
    rw [Heap.size_push]
    rcases List.mem_cons.mp hb with rfl | hb
    · exact Nat.lt_succ_self _
    · rcases List.mem_cons.mp hb with rfl | hb
      · exact Nat.lt_succ_of_lt hlt
      · cases hb
  · have hv : (intItems xs)[argBest (fun i j => decide (numAt xs i > numAt xs j)) (xs.size - 1)]? = some v := by simpa [intItems] using hP
    obtain ⟨t, rfl⟩ := intItems_at hv
    obtain ⟨h1, h2⟩ := argBest_gt (numAt xs) (xs.size - 1)
    refine h h' tk _ t (fun b o e => hk b o (fun hb => ?_) (Heap.get?_push_of_some _ e)) ?_ fun a ha => ?_
    · exact absurd (Heap.lt_size e) ((List.mem_singleton.mp hb) ▸ Nat.lt_irrefl _)
    · rw [numAt_eq]; exact PySem.getD_mem (by rw [List.length_map, Array.length_toList]; omega)
    · obtain ⟨j, hj, rfl⟩ := mem_getD ha
      rw [List.length_map, Array.length_toList] at hj
      rw [← numAt_eq]; exact h2 j (by omega)
def rMaxS (K : PySem.W.Frag) : List V → Hp → VK → Prop := fun vs H Q => ∃ (a : Addr) (ns : List Int), vs = [V.ref a] ∧ Sq K H a (ns.map V.int) ∧ 0 < ns.length ∧ ∀ m, m ∈ ns → (∀ y, y ∈ ns → y ≤ m) → Q (.int m) H
theorem cr_maxS (hc : X.calm = true) : CallR X (.builtin "max") (rMaxS X.K) := by
  intro pins s σ H vs us Q I r h
  obtain ⟨a, ns, rfl, hs, hne, q⟩ := h
  rcases hs with hs | hs
  · exact cr_max hc pins s σ H _ us Q I r ⟨a, ns, rfl, hs, hne, q⟩
  · obtain ⟨its, rv, ht, _⟩ := I.tuple hs
    rw [Vals.ref1 r]
    exact max_rawT (I.ok.hd hc) (show s.heap.IsTuple a its.toArray from ht) rv.ints hne fun h' tk m t' hk h1 h2 => ⟨.int _, H, I.kept hk, ⟨_, rfl⟩, q m h1 h2⟩
def IsInts (d : D) (ns : List Int) : Prop := d = .lst (ns.map .int) ∨ d = .tup (ns.map .int)
theorem IsInts.sq {K : PySem.W.Frag} {H : Hp} {d : D} {ns : List Int} {v : V} (h : IsInts d ns) (hv : Den K H d v) : ∃ a, v = .ref a ∧ Sq K H a (ns.map V.int) := by
  rcases h with e | e
  · subst e
    cases hv with
    | lst ht hs => rw [hs.ints] at ht; exact ⟨_, rfl, .inl ht.sq⟩
  · subst e
    cases hv with
    | tup ht hs => rw [hs.ints] at ht; exact ⟨_, rfl, .inr (.inl (.inl ht))⟩
def fSum (ds : List D) (Φ : D → Prop) : Prop := ∃ d ns, ds = [d] ∧ IsInts d ns ∧ Φ (.int ns.sum)
theorem opn_sum (hK : X.K = R.K := by rfl) : OpN R (rSumS X.K) fSum := fun t H vs ds Φ Q gd hD ⟨d, ns, e, hi, q⟩ k => by
  subst e
  rw [hK]
  obtain ⟨v, rfl, hv⟩ := hD.one
  obtain ⟨a, rfl, hs⟩ := hi.sq hv
  exact ⟨a, ns, rfl, hs, k H _ (.int _) (.refl gd) (.int _) q⟩
def fMax (ds : List D) (Φ : D → Prop) : Prop := ∃ d ns, ds = [d] ∧ IsInts d ns ∧ 0 < ns.length ∧ ∀ m, m ∈ ns → (∀ y ∈ ns, y ≤ m) → Φ (.int m)
theorem opn_max (hK : X.K = R.K := by rfl) : OpN R (rMaxS X.K) fMax := fun t H vs ds Φ Q gd hD ⟨d, ns, e, hi, hl, q⟩ k => by
  subst e
  rw [hK]
  obtain ⟨v, rfl, hv⟩ := hD.one
  obtain ⟨a, rfl, hs⟩ := hi.sq hv
  exact ⟨a, ns, rfl, hs, hl, fun m h1 h2 => k H _ (.int _) (.refl gd) (.int _) (q m h1 h2)⟩
def fAll (ds : List D) (Φ : D → Prop) : Prop := ∃ bs : List Bool, ds = [.lst (bs.map .bl)] ∧ Φ (.bl (bs.all id))
theorem opn_all (hK : X.K = R.K := by rfl) : OpN R (rAll X.K) fAll := fun t H vs ds Φ Q gd hD ⟨bs, e, q⟩ k => by
  subst e
  rw [hK]
  obtain ⟨v, rfl, hv⟩ := hD.one
  cases hv with
  | lst ht hs => rw [hs.bls] at ht; exact ⟨_, bs, rfl, ht.sq, k H _ (.bl _) (.refl gd) (.bl _) q⟩
def fAny (ds : List D) (Φ : D → Prop) : Prop := ∃ bs : List Bool, ds = [.lst (bs.map .bl)] ∧ Φ (.bl (bs.any id))
theorem opn_any (hK : X.K = R.K := by rfl) : OpN R (rAny X.K) fAny := fun t H vs ds Φ Q gd hD ⟨bs, e, q⟩ k => by
  subst e
  rw [hK]
  obtain ⟨v, rfl, hv⟩ := hD.one
  cases hv with
  | lst ht hs => rw [hs.bls] at ht; exact ⟨_, bs, rfl, ht.sq, k H _ (.bl _) (.refl gd) (.bl _) q⟩
/-! tuple(x), list(x) -/
def fTuple (ds : List D) (Φ : D → Prop) : Prop := ∃ d xs, ds = [d] ∧ d.items = some xs ∧ Φ (.tup xs)
theorem opn_tuple (hK : X.K = R.K := by rfl) : OpN R (fun xs H Q => ∃ p ys, xs = [.ref p] ∧ ((SqL X.K H p ys ∧ ∀ l, H l = none → Q (.ref l) (upd H l (.tup ys))) ∨ (SqT X.K H p ys ∧ Q (.ref p) H))) fTuple := fun t H vs ds Φ Q gd hD ⟨d, xs, e, hi, q⟩ k => by
  rw [hK]
  subst e
  obtain ⟨v, rfl, hv⟩ := hD.one
  cases hv with
  | lst ht hs =>
    cases hi
    exact ⟨_, _, rfl, .inl ⟨ht.sq, fun p n => by
      obtain ⟨g, h'⟩ := new_tup (R := R) gd n hs
      exact k _ _ _ g h' q⟩⟩
  | tup ht hs => cases hi; exact ⟨_, _, rfl, .inr ⟨.inl (.inl ht), k H _ (.tup xs) (.refl gd) (.tup ht hs) q⟩⟩
  | _ => cases hi
def fList (ds : List D) (Φ : List D → Prop) : Prop := ∃ d xs, ds = [d] ∧ d.items = some xs ∧ Φ xs
theorem opn_list (hK : X.K = R.K := by rfl) : OpNL R (fun xs H Q => ∃ p ys, xs = [.ref p] ∧ (SqL X.K H p ys ∨ SqT X.K H p ys) ∧ ∀ l, H l = none → Q (.ref l) (upd H l (.lst ys))) fList := fun t H vs ds Φ Q gd hD ⟨d, xs, e, hi, q⟩ k => by
  rw [hK]
  subst e
  obtain ⟨v, rfl, hv⟩ := hD.one
  cases hv with
  | lst ht hs => cases hi; exact ⟨_, _, rfl, .inl ht.sq, fun p n => k p _ xs n hs q⟩
  | tup ht hs => cases hi; exact ⟨_, _, rfl, .inr (.inl (.inl ht)), fun p n => k p _ xs n hs q⟩
  | _ => cases hi
/-! isinstance of data -/
def D.ty : D → String
  | .non => "NoneType"
  | .bl _ => "bool"
  | .int _ => "int"
  | .str _ => "str"
  | .tup _ => "tuple"
  | .lst _ => "list"
  | .hdl _ => "?"
  | .scr _ => "?"
/-- isinstance(d, T) of a built-in T -/
def isiB (t T : String) : Bool := t == T || (t == "bool" && T == "int")
theorem kit_all : ∀ t ∈ ["NoneType", "bool", "int", "str", "tuple", "list"], ∀ T ∈ ["bool", "int", "str", "tuple", "list"], kitB t T = some (isiB t T) := by decide +kernel
theorem Den.ty {K : PySem.W.Frag} {H : Hp} {d : D} {v : V} (h : Den K H d v) (hd : d.ty ≠ "?") : TyX K H v (.type d.ty) := by
  cases h with
  | non => exact .base .non
  | bl b => exact .base (.bl b)
  | int b => exact .base (.int b)
  | str b => exact .base (.str b)
  | tup ht hs =>
    exact .base (.tup ht)
  | lst ht hs =>
    obtain ⟨o, h⟩ := ht
    exact .base (.frz h)
  | hdl a => exact absurd rfl hd
  | scr _ => exact absurd rfl hd
theorem D.ty_mem (d : D) (hd : d.ty ≠ "?") : d.ty ∈ ["NoneType", "bool", "int", "str", "tuple", "list"] := by
  cases d <;> first | exact absurd rfl hd | simp [D.ty]
def wIsi (ty : String) (w : W T) : W T := fun ρ Φ => w ρ fun d t => d.ty ≠ "?" ∧ Φ (.bl (isiB d.ty ty)) t
theorem E_isi {a : Expr} {w : W T} {e : Expr} {ty : String} (hT : ty ∈ ["bool", "int", "str", "tuple", "list"]) (h : PE X a (E R w) → PE X e (tCB (rIsi X.K) (tCons (E R w) (tCons (tC (.ty ty)) tNil)))) (ha : PE X a (E R w)) (hK : X.K = R.K := by rfl) : PE X e (E R (wIsi ty w)) :=
  PE_imp (h ha) fun σ H Q ⟨ρ, t, Φ, ok, q, k⟩ => ⟨ρ, _, _, ok, q, fun H1 t1 v d g hD ⟨hd, hq⟩ => by
    refine ⟨v, .ty ty, .type d.ty, .type ty, isiB d.ty ty, rfl, .ty ty, by rw [hK]; exact hD.ty hd, kit_ty (kit_all d.ty (d.ty_mem hd) ty hT), ?_⟩
    exact k H1 _ _ (.bl _) g (.bl _) hq⟩
end
end J

set_option Elab.async false
set_option linter.all false
set_option maxRecDepth 100000
set_option maxHeartbeats 4000000
/-! J5: calls of defs, statements, a def's promise. -/
namespace J
open PySem PySem.Spec L2 RZ

/-! ### calls of defs -/
abbrev FS := List D → (D → Prop) → Prop
abbrev FST (T : Type) := List D → (D → T → Prop) → T → Prop
/-- under the regime R the promise sp gives what fs says -/
def Tk {T : Type} (R : Rg T) (sp : Sp) (fs : FST T) : Prop := ∀ t H vs ds Φ (Q : VK) E, R.Gd t H → Dens R.K H ds vs → fs ds Φ t → (∀ H' t' v d, R.Go t H t' H' → Den R.K H' d v → Φ d t' → Q v H') → sp vs H Q E
/-- a def that changes nothing -/
def spP (K : PySem.W.Frag) (n : Nat) (fs : FS) : Sp := fun vs H Q _ => ∃ ds Φ, ds.length = n ∧ Dens K H ds vs ∧ fs ds Φ ∧ ∀ H' v d, Same H H' → Den K H' d v → Φ d → Q v H'
def fsT {T : Type} (n : Nat) (fs : FS) : FST T := fun ds Φ t => ds.length = n ∧ fs ds fun d => Φ d t
theorem tk_P {T : Type} {R : Rg T} {n : Nat} {fs : FS} : Tk R (spP R.K n fs) (fsT n fs) := fun t H vs ds Φ Q E gd hD ⟨hn, h⟩ k =>
  ⟨ds, _, hn, hD, h, fun H' v d s hd q => k H' t v d (.same gd s) hd q⟩
def wCallT {T : Type} (f : FST T) (w : WA T) : W T := fun ρ Φ => w ρ fun ds => f ds Φ
section
variable {T : Type} {X : Cx} {R : Rg T} {pos p : Pos}
theorem E_call {CX : CXT} {kk : Nat} {f : Addr} {fd : FuncData} {ps : List Str} {sp : Sp} {E0 : XK} {x : Str} {e : Expr} {es : List Expr} {w : WA T} {fs : FST T} (F : FnOk X.prog X.w X.K X.mg X.base CX kk f fd ps sp) (hr : Room kk X.A) (hg : Gl X x) (hm : X.mg x = some (.ref f)) (hk : PySem.W.keepIn X.K (.ref f) = true) (hb : Binds X.K fd ps []) (hx : Passes CX X E0)
    (tk : Tk R sp fs) (ha : PA X (e :: es) (EA R w)) (hdb : (x == ("__debug__" : Str)) = false := by decide) (he : starEach (e :: es) X.env = (false, eval e X.env) :: starEach es X.env := by rfl) (hpl : (backTo pos (starEach es X.env)).any (·.1) = false := by rfl) :
    PE X (.Call (.Name x p) (e :: es) [] pos) (E R (wCallT fs w)) :=
  PE_imp (pe_call F hr hg hm hk hb .nil hx ha hdb he hpl) fun σ H Q ⟨ρ, t, Φ, ok, q, k⟩ => ⟨ρ, _, _, ok, q, fun H1 t1 vs ds g hD hq => by
    show sp (vs ++ []) H1 Q E0
    rw [List.append_nil]
    exact tk t1 H1 vs ds Φ Q E0 g.gd hD hq fun H' t' v d g2 hd q => k H' t' v d (g.trans g2) hd q⟩
end

/-! ### statements -/
structure DE (T : Type) where
  nx : Env → T → Prop
  rt : D → T → Prop
  bk : Env → T → Prop := fun _ _ => False
  ct : Env → T → Prop := fun _ _ => False
structure Fits {T : Type} (R : Rg T) (H : Hp) (Φ : DE T) (D : Ends) : Prop where
  nx : ∀ σ' H' ρ' t', Ext H H' → EnvOk R t' H' σ' ρ' → Φ.nx ρ' t' → D.nx σ' H'
  rt : ∀ v H' d t', R.Step R.t0 R.H0 t' H' → R.Gd t' H' → Den R.K H' d v → Φ.rt d t' → D.rt v H'
  bk : ∀ σ' H' ρ' t', Ext H H' → EnvOk R t' H' σ' ρ' → Φ.bk ρ' t' → D.bk σ' H'
  ct : ∀ σ' H' ρ' t', Ext H H' → EnvOk R t' H' σ' ρ' → Φ.ct ρ' t' → D.ct σ' H'
abbrev WS (T : Type) := Env → DE T → T → Prop
def S {T : Type} (R : Rg T) (w : WS T) : TS := fun D σ H => ∃ ρ t Φ, EnvOk R t H σ ρ ∧ w ρ Φ t ∧ Fits R H Φ D
theorem Fits.ext {T : Type} {R : Rg T} {H H1 : Hp} {Φ : DE T} {D : Ends} (f : Fits R H Φ D) (x : Ext H H1) : Fits R H1 Φ D :=
  ⟨fun σ' H' ρ' t' x' ok q => f.nx σ' H' ρ' t' (x.trans x') ok q, f.rt, fun σ' H' ρ' t' x' ok q => f.bk σ' H' ρ' t' (x.trans x') ok q, fun σ' H' ρ' t' x' ok q => f.ct σ' H' ρ' t' (x.trans x') ok q⟩
section
variable {T : Type} {X : Cx} {R : Rg T} {pos : Pos} {st : Stmt} {rest : List Stmt} {w1 w2 : WS T} {e : Expr} {w : W T}
def wNilS : WS T := fun ρ Φ => Φ.nx ρ
def wSq (w1 w2 : WS T) : WS T := fun ρ Φ => w1 ρ { Φ with nx := fun ρ' => w2 ρ' Φ }
theorem S_nil : PSs X [] (S R wNilS) := PSs_imp pss_nil fun D σ H ⟨ρ, t, Φ, ok, q, f⟩ => f.nx σ H ρ t .refl ok q
theorem S_cons (h1 : PS X st (S R w1)) (h2 : PSs X rest (S R w2)) : PSs X (st :: rest) (S R (wSq w1 w2)) := PSs_imp (pss_cons h1 h2) fun D σ H ⟨ρ, t, Φ, ok, q, f⟩ =>
  ⟨ρ, _, _, ok, q, fun σ' H' ρ' t' x ok' q' => ⟨ρ', t', Φ, ok', q', f.ext x⟩, f.rt, f.bk, f.ct⟩
theorem S_one (h1 : PS X st (S R w1)) : PSs X [st] (S R w1) := pss_one h1
theorem S_pass : PS X (.Pass pos) (S R wNilS) := PS_imp ps_pass fun D σ H ⟨ρ, t, Φ, ok, q, f⟩ => f.nx σ H ρ t .refl ok q
theorem S_break : PS X (.Break pos) (S R (fun ρ Φ => Φ.bk ρ)) := PS_imp ps_break fun D σ H ⟨ρ, t, Φ, ok, q, f⟩ => f.bk σ H ρ t .refl ok q
theorem S_continue : PS X (.Continue pos) (S R (fun ρ Φ => Φ.ct ρ)) := PS_imp ps_continue fun D σ H ⟨ρ, t, Φ, ok, q, f⟩ => f.ct σ H ρ t .refl ok q
/-- code that the proof never comes to -/
theorem S_never : PS X st (S R (fun _ _ _ => False)) := PS_imp ps_never fun D σ H ⟨ρ, t, Φ, ok, q, f⟩ => q
theorem Ss_never {sts : List Stmt} : PSs X sts (S R (fun _ _ _ => False)) := PSs_imp pss_never fun D σ H ⟨ρ, t, Φ, ok, q, f⟩ => q
def wDrop (w : W T) : WS T := fun ρ Φ => w ρ fun _ => Φ.nx ρ
theorem S_expr (he : PE X e (E R w)) (hs : swapsWith e none pos.line X.env = pure false := by rfl) : PS X (.Expr e pos) (S R (wDrop w)) := PS_imp (ps_expr he hs) fun D σ H ⟨ρ, t, Φ, ok, q, f⟩ =>
  ⟨ρ, _, _, ok, q, fun H1 t1 v d g hD hq => f.nx σ H1 ρ t1 (g.ext ok.gd) (ok.go g) hq⟩
def wRet (w : W T) : WS T := fun ρ Φ => w ρ Φ.rt
theorem S_ret (he : PE X e (E R w)) : PS X (.Return (some e) pos) (S R (wRet w)) := PS_imp (ps_ret he) fun D σ H ⟨ρ, t, Φ, ok, q, f⟩ =>
  ⟨ρ, _, _, ok, q, fun H1 t1 v d g hD hq => f.rt v H1 d t1 (ok.st.trans g.st) g.gd hD hq⟩
theorem S_retN : PS X (.Return none pos) (S R (fun _ Φ => Φ.rt .non)) := PS_imp ps_retN fun D σ H ⟨ρ, t, Φ, ok, q, f⟩ => f.rt .non H .non t ok.st ok.gd .non q
def wIfS (tt : WB T) (w1 w2 : WS T) : WS T := fun ρ Φ => tt ρ fun b t => if b = true then w1 ρ Φ t else w2 ρ Φ t
theorem S_if {c : Expr} {a b : List Stmt} {tt : WB T} (hc : PT X c (EB R tt)) (ha : PSs X a (S R w1)) (hb : PSs X b (S R w2)) : PS X (.If c a b pos) (S R (wIfS tt w1 w2)) := PS_imp (ps_if hc ha hb) fun D σ H ⟨ρ, t, Φ, ok, q, f⟩ =>
  ⟨ρ, _, _, ok, q, fun H1 t1 b g hq => by
    cases b with
    | true => exact ⟨ρ, t1, Φ, ok.go g, hq, f.ext (g.ext ok.gd)⟩
    | false => exact ⟨ρ, t1, Φ, ok.go g, hq, f.ext (g.ext ok.gd)⟩⟩
/-! x = e -/
def wSet (i : Nat) (w : W T) : WS T := fun ρ Φ => w ρ fun d => Φ.nx (ρ.set i (.val d))
theorem tSet {i : Nat} {te : TE} (h : ∀ σ H Q, E R w σ H Q → te σ H Q) : ∀ D σ H, S R (wSet i w) D σ H → tAsg te (gName i) D σ H := fun D σ H ⟨ρ, t, Φ, ok, q, f⟩ =>
  h σ H _ ⟨ρ, _, _, ok, q, fun H1 t1 v d g hD hq => f.nx _ H1 _ t1 (g.ext ok.gd) ((ok.go g).set i hD) hq⟩
theorem S_set {i : Nat} (h : PS X st (tAsg (E R w) (gName i))) : PS X st (S R (wSet i w)) := PS_imp h (tSet fun _ _ _ q => q)
/-- a new list, owned by the name from then on -/
theorem EnvOk.setOwn {t : T} {H : Hp} {σ : L2.St} {ρ : Env} (ok : EnvOk R t H σ ρ) (i : Nat) {p : Addr} {vs : List V} {ds : List D} (e : H p = some (.lst vs)) (hD : Dens R.K H ds vs) (n0 : R.H0 p = none) (nv : ¬ R.Vol t p)
    (hne : ∀ (j : Nat) (es : List D), ρ[j]? = some (.own es) → j ≠ i → σ[j]? ≠ some (some (.ref p))) : EnvOk R t H (σ.set i (some (.ref p))) (ρ.set i (.own ds)) := by
  have key : ∀ {j : Nat} {x : Sl}, (ρ.set i (.own ds))[j]? = some x → (i = j ∧ x = .own ds ∧ i < ρ.length) ∨ (i ≠ j ∧ ρ[j]? = some x) := fun {j x} h => by
    by_cases hij : i = j
    · subst hij
      by_cases hl : i < ρ.length
      · rw [List.getElem?_set_self hl] at h; cases h
        exact .inl ⟨rfl, rfl, hl⟩
      · rw [List.getElem?_eq_none (by rw [List.length_set]; omega)] at h; cases h
    · rw [List.getElem?_set_ne hij] at h
      exact .inr ⟨hij, h⟩
  refine ⟨ok.gd, ok.st, by rw [List.length_set, List.length_set]; exact ok.len, fun j d hj => ?_, fun j ls hj => ?_, fun j k ls es q h1 h2 h3 h4 => ?_, fun j ls hj => ?_, fun j k ls es q h1 h2 h3 h4 => ?_⟩
  rotate_left 3
  · rcases key hj with ⟨_, z, _⟩ | ⟨hij, h⟩
    · cases z
    · rw [List.getElem?_set_ne hij]; exact ok.dct j ls h
  · rcases key h1 with ⟨_, z, _⟩ | ⟨hij, h1⟩
    · cases z
    · rcases key h2 with ⟨_, z, _⟩ | ⟨hik, h2⟩
      · cases z
      · rw [List.getElem?_set_ne hij] at h3
        rw [List.getElem?_set_ne hik] at h4
        exact ok.injd j k ls es q h1 h2 h3 h4
  · rcases key hj with ⟨_, z, _⟩ | ⟨hij, h⟩
    · cases z
    · rw [List.getElem?_set_ne hij]; exact ok.val j d h
  · rcases key hj with ⟨rfl, z, hl⟩ | ⟨hij, h⟩
    · cases z
      exact ⟨p, vs, by rw [List.getElem?_set_self (by rw [← ok.len]; exact hl)], e, hD, n0, nv⟩
    · rw [List.getElem?_set_ne hij]; exact ok.own j ls h
  · rcases key h1 with ⟨rfl, _, hl⟩ | ⟨hij, h1⟩
    · rcases key h2 with ⟨rfl, _, _⟩ | ⟨hik, h2⟩
      · rfl
      · rw [List.getElem?_set_self (by rw [← ok.len]; exact hl)] at h3
        cases h3
        rw [List.getElem?_set_ne hik] at h4
        exact absurd h4 (hne k es h2 (Ne.symm hik))
    · rcases key h2 with ⟨rfl, _, hl⟩ | ⟨hik, h2⟩
      · rw [List.getElem?_set_self (by rw [← ok.len]; exact hl)] at h4
        cases h4
        rw [List.getElem?_set_ne hij] at h3
        exact absurd h3 (hne j ls h1 (Ne.symm hij))
      · rw [List.getElem?_set_ne hij] at h3
        rw [List.getElem?_set_ne hik] at h4
        exact ok.inj j k ls es q h1 h2 h3 h4
/-- a list that was not there is no owned one -/
theorem EnvOk.fresh {t : T} {H : Hp} {σ : L2.St} {ρ : Env} (ok : EnvOk R t H σ ρ) {p : Addr} (n : H p = none) : R.H0 p = none ∧ ∀ (j : Nat) (es : List D), ρ[j]? = some (.own es) → σ[j]? ≠ some (some (.ref p)) := by
  refine ⟨none_of_step ok.gd ok.st n, fun j es h z => ?_⟩
  obtain ⟨q, vs, h1, h2, _⟩ := ok.own j es h
  rw [z] at h1; cases h1
  rw [n] at h2; cases h2
def wOwn (i : Nat) (w : WL T) : WS T := fun ρ Φ => w ρ fun ds => Φ.nx (ρ.set i (.own ds))
theorem S_own {i : Nat} {w : WL T} (h : PS X st (tAsg (EL R w) (gName i))) : PS X st (S R (wOwn i w)) := PS_imp h fun D σ H ⟨ρ, t, Φ, ok, q, f⟩ =>
  ⟨ρ, _, _, ok, q, fun H1 t1 p vs ds g n e nv hD hq => by
    obtain ⟨n0, hne⟩ := ok.fresh n
    exact f.nx _ H1 _ t1 (g.ext ok.gd) ((ok.go g).setOwn i e hD n0 nv fun j es h _ => hne j es h) hq⟩
/-! an owned list is frozen, ahead of a statement or behind it -/
theorem EnvOk.freeze {t : T} {H : Hp} {σ : L2.St} {ρ : Env} (ok : EnvOk R t H σ ρ) {i : Nat} {ds : List D} (h : ρ[i]? = some (.own ds)) : ∃ p vs, σ[i]? = some (some (.ref p)) ∧ H p = some (.lst vs) ∧ ∀ o, Ext H (upd H p (.frz o (.lst vs))) ∧ EnvOk R t (upd H p (.frz o (.lst vs))) σ (ρ.set i (.val (.lst ds))) := by
  obtain ⟨p, vs, h1, h2, h3, h4, hv⟩ := ok.own i ds h
  refine ⟨p, vs, h1, h2, fun o => ?_⟩
  have x : Ext H (upd H p (.frz o (.lst vs))) := ⟨fun a ys q => by rw [upd_ne (fun z => by rw [z, h2] at q; cases q)]; exact q, fun a ob u q => by rw [upd_ne (fun z => by rw [z, h2] at q; cases q)]; exact q⟩
  have hl : i < ρ.length := (List.getElem?_eq_some_iff.mp h).1
  have key : ∀ {j : Nat} {y : Sl}, (ρ.set i (.val (.lst ds)))[j]? = some y → (i = j ∧ y = .val (.lst ds)) ∨ (i ≠ j ∧ ρ[j]? = some y) := fun {j y} h => by
    by_cases hij : i = j
    · subst hij
      rw [List.getElem?_set_self hl] at h; cases h
      exact .inl ⟨rfl, rfl⟩
    · rw [List.getElem?_set_ne hij] at h
      exact .inr ⟨hij, h⟩
  refine ⟨x, R.dep t H _ ok.gd x fun a v => by rw [upd_ne (fun z => hv (by rw [← z]; exact v))], ⟨fun a u q nv => ?_, ok.st.up, ok.st.dn⟩, by rw [List.length_set]; exact ok.len, fun j d hj => ?_, fun j ls hj => ?_, fun j k ls es q a1 a2 a3 a4 => ?_, fun j ls hj => ?_, fun j k ls es q a1 a2 a3 a4 => ?_⟩
  · rw [upd_ne (fun z => by rw [z, h4] at q; cases q)]
    exact ok.st.st a u q nv
  rotate_left 3
  · rcases key hj with ⟨_, z⟩ | ⟨_, h'⟩
    · cases z
    · obtain ⟨q, us, b1, b2, b3, b4, b5⟩ := ok.dct j ls h'
      refine ⟨q, us, b1, ?_, b3.ext x, b4, b5⟩
      rw [upd_ne (fun z => by rw [z, h2] at b2; cases b2)]
      exact b2
  · rcases key a1 with ⟨_, z⟩ | ⟨_, a1⟩
    · cases z
    · rcases key a2 with ⟨_, z⟩ | ⟨_, a2⟩
      · cases z
      · exact ok.injd j k ls es q a1 a2 a3 a4
  · rcases key hj with ⟨rfl, z⟩ | ⟨_, h⟩
    · cases z
      exact ⟨_, h1, .lst ⟨o, upd_same⟩ (h3.ext x)⟩
    · obtain ⟨v, b1, b2⟩ := ok.val j d h
      exact ⟨v, b1, b2.ext x⟩
  · rcases key hj with ⟨_, z⟩ | ⟨hij, h'⟩
    · cases z
    · obtain ⟨q, us, b1, b2, b3, b4, b5⟩ := ok.own j ls h'
      refine ⟨q, us, b1, ?_, b3.ext x, b4, b5⟩
      rw [upd_ne (fun z => hij (ok.inj i j ds ls p h h' h1 (by rw [← z]; exact b1)))]
      exact b2
  · rcases key a1 with ⟨_, z⟩ | ⟨_, a1⟩
    · cases z
    · rcases key a2 with ⟨_, z⟩ | ⟨_, a2⟩
      · cases z
      · exact ok.inj j k ls es q a1 a2 a3 a4
def tFrzB (i : Nat) (t : TS) : TS := fun D σ H => ∃ p vs, σ[i]? = some (some (.ref p)) ∧ H p = some (.lst vs) ∧ ∀ o, t D σ (upd H p (.frz o (.lst vs)))
theorem ps_frzB {i : Nat} {t : TS} (h : PS X st t) : PS X st (tFrzB i t) := ⟨fun pins s σ H D I ⟨p, vs, e1, e2, k⟩ => by
  obtain ⟨o, I2⟩ := inv_freeze I e2
  exact h.run pins s σ _ D I2 (k o)⟩
def wFrzB (i : Nat) (w : WS T) : WS T := fun ρ Φ t => ∃ ds, ρ[i]? = some (.own ds) ∧ w (ρ.set i (.val (.lst ds))) Φ t
theorem S_frzB {i : Nat} (h : PS X st (S R w1)) : PS X st (S R (wFrzB i w1)) := PS_imp (ps_frzB (i := i) h) fun D σ H ⟨ρ, t, Φ, ok, ⟨ds, e, q⟩, f⟩ => by
  obtain ⟨p, vs, h1, h2, k⟩ := ok.freeze e
  exact ⟨p, vs, h1, h2, fun o => ⟨_, t, Φ, (k o).2, q, f.ext (k o).1⟩⟩
def tFrzA (i : Nat) (t : TS) : TS := fun D σ H => t { D with nx := fun σ' H' => ∃ p vs, σ'[i]? = some (some (.ref p)) ∧ H' p = some (.lst vs) ∧ ∀ o, D.nx σ' (upd H' p (.frz o (.lst vs))) } σ H
theorem ps_frzA {i : Nat} {t : TS} (h : PS X st t) : PS X st (tFrzA i t) := ⟨fun pins s σ H D I q => by
  refine thn (h.run pins s σ H _ I q) fun f s1 q1 => ?_
  cases f with
  | next =>
    obtain ⟨σ', H', I', p, vs, e1, e2, k⟩ := q1
    obtain ⟨o, I2⟩ := inv_freeze I' e2
    exact ⟨σ', _, I2, k o⟩
  | ret v => exact q1
  | brk => exact q1
  | cont => exact q1⟩
def wFrzA (i : Nat) (w : WS T) : WS T := fun ρ Φ => w ρ { Φ with nx := fun ρ' t => ∃ ds, ρ'[i]? = some (.own ds) ∧ Φ.nx (ρ'.set i (.val (.lst ds))) t }
theorem S_frzA {i : Nat} (h : PS X st (S R w1)) : PS X st (S R (wFrzA i w1)) := PS_imp (ps_frzA (i := i) h) fun D σ H ⟨ρ, t, Φ, ok, q, f⟩ =>
  ⟨ρ, _, _, ok, q, fun σ' H' ρ' t' x ok' ⟨ds, e, q'⟩ => by
    obtain ⟨p, vs, h1, h2, k⟩ := ok'.freeze e
    exact ⟨p, vs, h1, h2, fun o => f.nx σ' _ _ t' (x.trans (k o).1) (k o).2 q'⟩, f.rt, f.bk, f.ct⟩
/-! several targets -/
def wAsg (w : W T) (p : Pat) : WS T := fun ρ Φ => w ρ fun d t => ∃ ρ', bindP p d ρ = some ρ' ∧ Φ.nx ρ' t
theorem S_asg {p : Pat} (h : PS X st (tAsg (E R w) (EG R p))) : PS X st (S R (wAsg w p)) := PS_imp h fun D σ H ⟨ρ, t, Φ, ok, q, f⟩ =>
  ⟨ρ, _, _, ok, q, fun H1 t1 v d g hD ⟨ρ', hb, hq⟩ => ⟨ρ, t1, d, ρ', ok.go g, hD, hb, fun σ' ok' _ => f.nx σ' H1 ρ' t1 (g.ext ok.gd) ok' hq⟩⟩
/-- values, or new lists to be owned -/
inductive SlsOk {T : Type} (R : Rg T) (H : Hp) (t' : T) (H' : Hp) : List Sl → List V → Prop
  | nil : SlsOk R H t' H' [] []
  | val {d : D} {v : V} {sl : List Sl} {vs : List V} : Den R.K H' d v → SlsOk R H t' H' sl vs → SlsOk R H t' H' (.val d :: sl) (v :: vs)
  | own {p : Addr} {us : List V} {ds : List D} {sl : List Sl} {vs : List V} : H p = none → ¬ R.Vol t' p → H' p = some (.lst us) → Dens R.K H' ds us → (∀ (j : Nat) (es : List D), sl[j]? = some (Sl.own es) → vs[j]? ≠ some (V.ref p)) → SlsOk R H t' H' sl vs → SlsOk R H t' H' (.own ds :: sl) (.ref p :: vs)
abbrev WX (T : Type) := Env → (List Sl → T → Prop) → T → Prop
def EX (R : Rg T) (w : WX T) : TA := fun σ H Q => ∃ ρ t Φ, EnvOk R t H σ ρ ∧ w ρ Φ t ∧ ∀ H' t' vs sl, R.Go t H t' H' → SlsOk R H t' H' sl vs → Φ sl t' → Q vs H'
def wxNil : WX T := fun _ Φ => Φ []
def wxVal (wa : W T) (wr : WX T) : WX T := fun ρ Φ => wa ρ fun x => wr ρ fun xs => Φ (.val x :: xs)
def wxOwn (wa : WL T) (wr : WX T) : WX T := fun ρ Φ => wa ρ fun x => wr ρ fun xs => Φ (.own x :: xs)
theorem EX_nil : PA X [] (EX R wxNil) := PA_imp pa_nil fun σ H Q ⟨ρ, t, Φ, ok, q, k⟩ => k H _ [] [] (.refl ok.gd) .nil q
theorem SlsOk.earlier {t t1 t2 : T} {H H1 H2 : Hp} (g : R.Go t H t1 H1) : ∀ {sl : List Sl} {vs : List V}, SlsOk R H1 t2 H2 sl vs → SlsOk R H t2 H2 sl vs
  | _, _, .nil => .nil
  | _, _, .val h t => .val h (t.earlier g)
  | _, _, .own n nv e h d t => .own (none_of_go g n) nv e h d (t.earlier g)
theorem SlsOk.owns {t' : T} {H H' : Hp} : ∀ {sl : List Sl} {vs : List V} {j : Nat} {es : List D} {p : Addr}, SlsOk R H t' H' sl vs → sl[j]? = some (.own es) → vs[j]? = some (.ref p) → H p = none
  | _, _, j, _, _, .nil, e, _ => by simp at e
  | _, _, 0, _, _, .val _ _, e, _ => by simp at e
  | _, _, j + 1, es, p, .val _ t, e, e' => t.owns (by simpa using e) (by simpa using e')
  | _, _, 0, _, _, .own n _ _ _ _ _, e, e' => by simp at e'; rw [← e']; exact n
  | _, _, j + 1, es, p, .own _ _ _ _ _ t, e, e' => t.owns (by simpa using e) (by simpa using e')
variable {a : Expr} {es : List Expr} {wa : W T} {wr : WX T}
theorem EX_val (ha : PE X a (E R wa)) (hr : PA X es (EX R wr)) (hs : starEach (a :: es) X.env = (false, eval a X.env) :: starEach es X.env := by rfl) : PA X (a :: es) (EX R (wxVal wa wr)) :=
  PA_imp (pa_cons ha hr hs) fun σ H Q ⟨ρ, t, Φ, ok, q, k⟩ => ⟨ρ, _, _, ok, q, fun H1 t1 v d g hD hq => ⟨ρ, _, _, ok.go g, hq, fun H2 t2 vs sl g2 hS hq2 => k H2 _ (v :: vs) (.val d :: sl) (g.trans g2) (.val (hD.ext (g2.ext g.gd)) (hS.earlier g)) hq2⟩⟩
theorem EX_own {wl : WL T} (ha : PE X a (EL R wl)) (hr : PA X es (EX R wr)) (hs : starEach (a :: es) X.env = (false, eval a X.env) :: starEach es X.env := by rfl) : PA X (a :: es) (EX R (wxOwn wl wr)) :=
  PA_imp (pa_cons ha hr hs) fun σ H Q ⟨ρ, t, Φ, ok, q, k⟩ => ⟨ρ, _, _, ok, q, fun H1 t1 p us ds g n e nv hD hq => ⟨ρ, _, _, ok.go g, hq, fun H2 t2 vs sl g2 hS hq2 => by
    refine k H2 _ (.ref p :: vs) (.own ds :: sl) (g.trans g2) (.own n (g2.st.nvol (ne_none e) nv) (g2.st.st p _ e nv) (hD.ext (g2.ext g.gd)) (fun j es h z => ?_) (hS.earlier g)) hq2
    have := hS.owns h z
    rw [e] at this; cases this⟩⟩
def bindX : List Nat → List Sl → Env → Option Env
  | [], [], ρ => some ρ
  | i :: is, s :: ss, ρ => bindX is ss (ρ.set i s)
  | _, _, _ => none
/-- the slots get what stands in a row -/
theorem bindX_ok {t t' : T} {H H' : Hp} (gd : R.Gd t H) : ∀ (is : List Nat) {sl : List Sl} {vs : List V} {σ : L2.St} {ρ ρ' : Env}, is.Nodup → EnvOk R t' H' σ ρ → SlsOk R H t' H' sl vs → R.Step R.t0 R.H0 t H →
    (∀ (j : Nat) (es : List D) (p : Addr), ρ[j]? = some (Sl.own es) → σ[j]? = some (some (V.ref p)) → ∀ (k : Nat) (ls : List D), sl[k]? = some (Sl.own ls) → vs[k]? ≠ some (V.ref p)) → bindX is sl ρ = some ρ' →
    EnvOk R t' H' ((is.zip vs).foldl (fun s iv => s.set iv.1 (some iv.2)) σ) ρ'
  | [], _, _, _, _, _, _, ok, .nil, _, _, e => by cases e; exact ok
  | i :: is, _, _, σ, ρ, _, nd, ok, .val (d := d) (v := v) h t, st, hne, e => by
    refine bindX_ok gd is (List.nodup_cons.mp nd).2 (ok.set i h) t st (fun j es p h1 h2 k ls h3 h4 => ?_) e
    have hij : i ≠ j := fun z => by
      subst z
      by_cases hl : i < ρ.length
      · rw [List.getElem?_set_self hl] at h1; cases h1
      · rw [List.getElem?_eq_none (by rw [List.length_set]; omega)] at h1; cases h1
    rw [List.getElem?_set_ne hij] at h1 h2
    exact hne j es p h1 h2 (k + 1) ls (by simpa using h3) (by simpa using h4)
  | i :: is, _, _, σ, ρ, _, nd, ok, .own (p := p) (ds := ds) n nv e0 hD hd t, st, hne, e => by
    have n0 : R.H0 p = none := none_of_step gd st n
    refine bindX_ok gd is (List.nodup_cons.mp nd).2 (ok.setOwn i e0 hD n0 nv fun j es h _ z => hne j es p h z 0 ds rfl rfl) t st (fun j es q h1 h2 k ls h3 h4 => ?_) e
    by_cases hij : i = j
    · subst hij
      by_cases hl : i < σ.length
      · rw [List.getElem?_set_self hl] at h2; cases h2
        exact hd k ls h3 h4
      · rw [List.getElem?_eq_none (by rw [List.length_set]; omega)] at h2; cases h2
    · rw [List.getElem?_set_ne hij] at h1 h2
      exact hne j es q h1 h2 (k + 1) ls (by simpa using h3) (by simpa using h4)
theorem SlsOk.len {t' : T} {H H' : Hp} : ∀ {sl : List Sl} {vs : List V}, SlsOk R H t' H' sl vs → sl.length = vs.length
  | _, _, .nil => rfl
  | _, _, .val _ t => by rw [List.length_cons, List.length_cons, t.len]
  | _, _, .own _ _ _ _ _ t => by rw [List.length_cons, List.length_cons, t.len]
/-- a, b = x, y -/
def wPar (is : List Nat) (w : WX T) : WS T := fun ρ Φ => w ρ fun sl t => ∃ ρ', bindX is sl ρ = some ρ' ∧ Φ.nx ρ' t
theorem bindX_go {t t' : T} {H H' : Hp} {is : List Nat} {sl : List Sl} {vs : List V} {σ : L2.St} {ρ ρ' : Env} (nd : is.Nodup) (ok : EnvOk R t H σ ρ) (g : R.Go t H t' H') (h : SlsOk R H t' H' sl vs) (e : bindX is sl ρ = some ρ') :
    EnvOk R t' H' ((is.zip vs).foldl (fun s iv => s.set iv.1 (some iv.2)) σ) ρ' := by
  refine bindX_ok ok.gd is nd (ok.go g) h ok.st (fun j es p h1 h2 k ls h3 h4 => ?_) e
  have := h.owns h3 h4
  obtain ⟨q, us, a1, a2, _⟩ := ok.own j es h1
  rw [h2] at a1; cases a1
  rw [this] at a2; cases a2
theorem S_par2 {i j : Nat} {wx : WX T} (hij : i ≠ j) (h : PS X st (tPar i j (EX R wx))) : PS X st (S R (wPar [i, j] wx)) := PS_imp h fun D σ H ⟨ρ, t, Φ, ok, q, f⟩ =>
  ⟨ρ, _, _, ok, q, fun H1 t1 vs sl g hS ⟨ρ', hb, hq⟩ => by
    have ok' := bindX_go (by simp [hij]) ok g hS hb
    have hl := hS.len
    match sl, vs, hS, hb, hl with
    | [s1, s2], [v1, v2], hS, hb, _ => exact ⟨v1, v2, rfl, f.nx _ H1 ρ' t1 (g.ext ok.gd) ok' hq⟩
    | [], [], hS, hb, _ => cases hb
    | [s1], [v1], hS, hb, _ => cases hb
    | s1 :: s2 :: s3 :: sl, v1 :: v2 :: v3 :: vs, hS, hb, _ => cases hb⟩
theorem S_par3 {i j l : Nat} {wx : WX T} (hij : i ≠ j) (hil : i ≠ l) (hjl : j ≠ l) (h : PS X st (tPar3 i j l (EX R wx))) : PS X st (S R (wPar [i, j, l] wx)) := PS_imp h fun D σ H ⟨ρ, t, Φ, ok, q, f⟩ =>
  ⟨ρ, _, _, ok, q, fun H1 t1 vs sl g hS ⟨ρ', hb, hq⟩ => by
    have ok' := bindX_go (by simp [hij, hil, hjl]) ok g hS hb
    have hl := hS.len
    match sl, vs, hS, hb, hl with
    | [s1, s2, s3], [v1, v2, v3], hS, hb, _ => exact ⟨v1, v2, v3, rfl, f.nx _ H1 ρ' t1 (g.ext ok.gd) ok' hq⟩
    | [], [], hS, hb, _ => cases hb
    | [s1], [v1], hS, hb, _ => cases hb
    | [s1, s2], [v1, v2], hS, hb, _ => cases hb
    | s1 :: s2 :: s3 :: s4 :: sl, v1 :: v2 :: v3 :: v4 :: vs, hS, hb, _ => cases hb⟩
/-! loops -/
def wWhile (tt : WB T) (wb : WS T) : WS T := fun ρ Φ t => ∃ I : Nat → Env → T → Prop, (∃ m, I m ρ t) ∧ ∀ m ρ t, I m ρ t → tt ρ (fun b t => if b = true then wb ρ { Φ with nx := fun ρ' t' => ∃ m', m' < m ∧ I m' ρ' t', ct := fun ρ' t' => ∃ m', m' < m ∧ I m' ρ' t', bk := Φ.nx } t else Φ.nx ρ t) t
theorem S_while {c : Expr} {body : List Stmt} {tt : WB T} {wb : WS T} (hp : PassesOwn (model X.prog X.w) X.A X.env X.xe) (hc : PT X c (EB R tt)) (hb : PSs X body (S R wb)) : PS X (.While c body [] pos) (S R (wWhile tt wb)) := PS_imp (ps_while hp hc hb) fun D σ H ⟨ρ, t, Φ, ok, ⟨I, ⟨m0, i0⟩, turn⟩, f⟩ => by
  refine ⟨fun m σ1 H1 => ∃ ρ1 t1, Ext H H1 ∧ EnvOk R t1 H1 σ1 ρ1 ∧ I m ρ1 t1, ⟨m0, ρ, t, .refl, ok, i0⟩, ?_⟩
  rintro m σ1 H1 ⟨ρ1, t1, x1, ok1, i1⟩
  refine ⟨ρ1, t1, _, ok1, turn m ρ1 t1 i1, fun H2 t2 b g hq => ?_⟩
  have x2 := x1.trans (g.ext ok1.gd)
  cases b with
  | true =>
    simp only [if_true] at hq ⊢
    refine ⟨fun σ' H' => ∃ ρ' t' m', m' < m ∧ Ext H H' ∧ EnvOk R t' H' σ' ρ' ∧ I m' ρ' t', fun σ' H' ⟨ρ', t', m', hm, x', ok', i'⟩ => ⟨m', hm, ρ', t', x', ok', i'⟩, ρ1, t2, _, ok1.go g, hq, ?_⟩
    exact ⟨fun σ' H' ρ' t' x ok' ⟨m', hm, i'⟩ => ⟨ρ', t', m', hm, x2.trans x, ok', i'⟩, f.rt, fun σ' H' ρ' t' x ok' q => f.nx σ' H' ρ' t' (x2.trans x) ok' q, fun σ' H' ρ' t' x ok' ⟨m', hm, i'⟩ => ⟨ρ', t', m', hm, x2.trans x, ok', i'⟩⟩
  | false =>
    simp only [Bool.false_eq_true, if_false] at hq ⊢
    exact f.nx σ1 H2 ρ1 t2 x2 (ok1.go g) hq
def wFor (wi : WL T) (p : Pat) (wb : WS T) : WS T := fun ρ Φ => wi ρ fun ds t => ∃ I : Nat → Env → T → Prop, I 0 ρ t ∧ (∀ k ρ1 t1 d, I k ρ1 t1 → ds[k]? = some d → ∃ ρ2, bindP p d ρ1 = some ρ2 ∧ wb ρ2 { Φ with nx := I (k + 1), ct := I (k + 1), bk := Φ.nx } t1) ∧ ∀ ρ1 t1, I ds.length ρ1 t1 → Φ.nx ρ1 t1
theorem S_for {tg iter : Expr} {body : List Stmt} {wi : WL T} {p : Pat} {wb : WS T} (hp : PassesOwn (model X.prog X.w) X.A X.env X.xe) (hc : X.calm = true) (hi : PI X tg iter (EI R wi)) (hg : PG X tg (EG R p)) (hb : PSs X body (S R wb))
    (hs : ∀ x, foldedSetIterable iter X.env x = pure x := by intro _; rfl) : PS X (.For tg iter body [] pos) (S R (wFor wi p wb)) := PS_imp (ps_for hp hc hi hg hb hs) fun D σ H ⟨ρ, t, Φ, ok, q, f⟩ => by
  refine ⟨ρ, _, _, ok, q, fun H1 t1 J ds g1 wd ⟨I, i0, turn, done⟩ => ?_⟩
  have x1 := g1.ext ok.gd
  refine for_it wd (fun i σ2 H2 => ∃ ρ2 t2, Ext H1 H2 ∧ EnvOk R t2 H2 σ2 ρ2 ∧ I i ρ2 t2) ⟨ρ, t1, .refl, ok.go g1, i0⟩ (fun i σ2 H2 _ ⟨ρ2, t2, x, ok2, _⟩ => ⟨x, t2, ok2.gd⟩) ?_ ?_
  · rintro i x σ2 H2 H3 hi ⟨ρ2, t2, x2, ok2, i2⟩ ⟨g3, d, hd, hx⟩
    have g3 := g3 t2 ok2.gd
    obtain ⟨ρ3, hb, hq⟩ := turn i ρ2 t2 d i2 hd
    have x3 := x2.trans (g3.ext ok2.gd)
    refine ⟨ρ2, t2, d, ρ3, ok2.go g3, hx, hb, fun σ' ok' _ => ⟨ρ3, t2, _, ok', hq, ?_⟩⟩
    exact ⟨fun σ' H' ρ' t' x ok' i' => ⟨ρ', t', x3.trans x, ok', i'⟩, f.rt, fun σ' H' ρ' t' x ok' q => f.nx σ' H' ρ' t' (x1.trans (x3.trans x)) ok' q, fun σ' H' ρ' t' x ok' i' => ⟨ρ', t', x3.trans x, ok', i'⟩⟩
  · rintro σ2 H2 ⟨ρ2, t2, x2, ok2, i2⟩
    exact f.nx σ2 H2 ρ2 t2 (x1.trans x2) ok2 (done ρ2 t2 i2)
/-! an owned list is changed -/
theorem EnvOk.write {t : T} {H : Hp} {σ : L2.St} {ρ : Env} (ok : EnvOk R t H σ ρ) {i : Nat} {ds es : List D} {p : Addr} {vs us : List V} (h : ρ[i]? = some (.own ds)) (h1 : σ[i]? = some (some (.ref p))) (hD : Dens R.K H es us) :
    Ext H (upd H p (.lst us)) ∧ EnvOk R t (upd H p (.lst us)) σ (ρ.set i (.own es)) := by
  obtain ⟨p', vs', h1', h2, h3, h4, hv⟩ := ok.own i ds h
  rw [h1] at h1'; cases h1'
  have x : Ext H (upd H p (.lst us)) := ⟨fun a ys q => by rw [upd_ne (fun z => by rw [z, h2] at q; cases q)]; exact q, fun a ob u q => by rw [upd_ne (fun z => by rw [z, h2] at q; cases q)]; exact q⟩
  have hl : i < ρ.length := (List.getElem?_eq_some_iff.mp h).1
  have key : ∀ {j : Nat} {y : Sl}, (ρ.set i (.own es))[j]? = some y → (i = j ∧ y = .own es) ∨ (i ≠ j ∧ ρ[j]? = some y) := fun {j y} h => by
    by_cases hij : i = j
    · subst hij
      rw [List.getElem?_set_self hl] at h; cases h
      exact .inl ⟨rfl, rfl⟩
    · rw [List.getElem?_set_ne hij] at h
      exact .inr ⟨hij, h⟩
  refine ⟨x, R.dep t H _ ok.gd x fun a v => by rw [upd_ne (fun z => hv (by rw [← z]; exact v))], ⟨fun a u q nv => ?_, ok.st.up, ok.st.dn⟩, by rw [List.length_set]; exact ok.len, fun j d hj => ?_, fun j ls hj => ?_, fun j k ls fs q a1 a2 a3 a4 => ?_, fun j ls hj => ?_, fun j k ls fs q a1 a2 a3 a4 => ?_⟩
  · rw [upd_ne (fun z => by rw [z, h4] at q; cases q)]
    exact ok.st.st a u q nv
  rotate_left 3
  · rcases key hj with ⟨_, z⟩ | ⟨_, h'⟩
    · cases z
    · obtain ⟨q, ws, b1, b2, b3, b4, b5⟩ := ok.dct j ls h'
      refine ⟨q, ws, b1, ?_, b3.ext x, b4, b5⟩
      rw [upd_ne (fun z => by rw [z, h2] at b2; cases b2)]
      exact b2
  · rcases key a1 with ⟨_, z⟩ | ⟨_, a1⟩
    · cases z
    · rcases key a2 with ⟨_, z⟩ | ⟨_, a2⟩
      · cases z
      · exact ok.injd j k ls fs q a1 a2 a3 a4
  · rcases key hj with ⟨_, z⟩ | ⟨_, h⟩
    · cases z
    · obtain ⟨v, b1, b2⟩ := ok.val j d h
      exact ⟨v, b1, b2.ext x⟩
  · rcases key hj with ⟨rfl, z⟩ | ⟨hij, h'⟩
    · cases z
      exact ⟨p, us, h1, upd_same, hD.ext x, h4, hv⟩
    · obtain ⟨q, ws, b1, b2, b3, b4, b5⟩ := ok.own j ls h'
      refine ⟨q, ws, b1, ?_, b3.ext x, b4, b5⟩
      rw [upd_ne (fun z => hij (ok.inj i j ds ls p h h' h1 (by rw [← z]; exact b1)))]
      exact b2
  · have conv : ∀ {j : Nat} {ls : List D}, (ρ.set i (.own es))[j]? = some (.own ls) → ∃ ls', ρ[j]? = some (.own ls') := fun {j ls} hj => by
      rcases key hj with ⟨rfl, _⟩ | ⟨_, h'⟩
      · exact ⟨_, h⟩
      · exact ⟨_, h'⟩
    obtain ⟨_, b1⟩ := conv a1
    obtain ⟨_, b2⟩ := conv a2
    exact ok.inj j k _ _ q b1 b2 a3 a4
def wAppend (i : Nat) (w : W T) : WS T := fun ρ Φ t => ∃ ds, ρ[i]? = some (.own ds) ∧ w ρ (fun d t => ds.length < sizeLine ∧ Φ.nx (ρ.set i (.own (ds ++ [d]))) t) t
theorem S_append {i : Nat} (h : PS X st (tDrop (tBM X.K "list" rAppend (tVar i) (tCons (E R w) tNil)))) : PS X st (S R (wAppend i w)) := PS_imp h fun D σ H ⟨ρ, t, Φ, ok, ⟨ds, e, q⟩, f⟩ => by
  obtain ⟨p, vs, h1, h2, h3, h4, _⟩ := ok.own i ds e
  refine ⟨_, h1, .inl ⟨rfl, vs, .inl (.inl h2)⟩, ρ, _, _, ok, q, fun H1 t1 v d g hD ⟨hl, hq⟩ => ?_⟩
  have ok1 := ok.go g
  obtain ⟨p', vs', h1', h2', h3', _⟩ := ok1.own i ds e
  rw [h1] at h1'; cases h1'
  obtain ⟨x, ok2⟩ := ok1.write (vs := vs') e h1 (h3'.app (.cons hD .nil))
  exact ⟨p, vs', v, rfl, rfl, h2', by rw [← h3'.len]; exact hl, f.nx σ _ _ t1 ((g.ext ok.gd).trans x) ok2 hq⟩
def wExtend (i : Nat) (w : WL T) : WS T := fun ρ Φ t => ∃ ds, ρ[i]? = some (.own ds) ∧ w ρ (fun es t => ds.length + es.length ≤ sizeLine ∧ Φ.nx (ρ.set i (.own (ds ++ es))) t) t
theorem S_extend {i : Nat} {wl : WL T} (h : PS X st (tDrop (tBM X.K "list" rExtend (tVar i) (tCons (EL R wl) tNil)))) : PS X st (S R (wExtend i wl)) := PS_imp h fun D σ H ⟨ρ, t, Φ, ok, ⟨ds, e, q⟩, f⟩ => by
  obtain ⟨p, vs, h1, h2, h3, h4, _⟩ := ok.own i ds e
  refine ⟨_, h1, .inl ⟨rfl, vs, .inl (.inl h2)⟩, ρ, _, _, ok, q, fun H1 t1 b us es g n eb nv hD ⟨hl, hq⟩ => ?_⟩
  have ok1 := ok.go g
  obtain ⟨p', vs', h1', h2', h3', _⟩ := ok1.own i ds e
  rw [h1] at h1'; cases h1'
  obtain ⟨x, ok2⟩ := ok1.write (vs := vs') e h1 (h3'.app hD)
  exact ⟨p, b, vs', us, rfl, rfl, h2', eb, by rw [← h3'.len, ← hD.len]; exact hl, f.nx σ _ _ t1 ((g.ext ok.gd).trans x) ok2 hq⟩
/-- xs[k] = e -/
def wSetIx (i : Nat) (w wk : W T) : WS T := fun ρ Φ t => ∃ ds, ρ[i]? = some (.own ds) ∧ w ρ (fun d => wk ρ fun k t => ∃ n j, k = .int n ∧ ixN ds.length n = some j ∧ Φ.nx (ρ.set i (.own (ds.set j d))) t) t
theorem S_setIx {i : Nat} {wk : W T} (h : PS X st (tAsg (E R w) (gSub (tVar i) (E R wk) rSetL))) : PS X st (S R (wSetIx i w wk)) := PS_imp h fun D σ H ⟨ρ, t, Φ, ok, ⟨ds, e, q⟩, f⟩ => by
  refine ⟨ρ, _, _, ok, q, fun H1 t1 v d g hD hq => ?_⟩
  have ok1 := ok.go g
  obtain ⟨p, vs, h1, h2, h3, h4, _⟩ := ok1.own i ds e
  refine ⟨_, h1, ρ, _, _, ok1, hq, fun H2 t2 u k g2 hk ⟨n, j, ek, hj, hq2⟩ => ?_⟩
  subst ek
  cases hk
  have ok2 := ok1.go g2
  obtain ⟨p', vs', h1', h2', h3', _⟩ := ok2.own i ds e
  rw [h1] at h1'; cases h1'
  obtain ⟨x, ok3⟩ := ok2.write (vs := vs') e h1 (h3'.setD j (hD.ext (g2.ext g.gd)))
  exact ⟨p, vs', n, j, rfl, rfl, h2', by rw [← h3'.len]; exact hj, f.nx σ _ _ t2 (((g.trans g2).ext ok.gd).trans x) ok3 hq2⟩
/-! an owned list is read -/
def wOwnIx (i : Nat) (wk : W T) : W T := fun ρ Φ t => ∃ ds, ρ[i]? = some (.own ds) ∧ wk ρ (fun k t => ∃ n d, k = .int n ∧ atI ds n = some d ∧ Φ d t) t
theorem E_ownIx {i : Nat} {a : Expr} {wk : W T} (h : PE X a (tOp (rIxL X.K) (tVar i) (E R wk))) : PE X a (E R (wOwnIx i wk)) := PE_imp h fun σ H Q ⟨ρ, t, Φ, ok, ⟨ds, e, q⟩, k⟩ => by
  obtain ⟨p, vs, h1, h2, h3, h4, _⟩ := ok.own i ds e
  refine ⟨_, h1, ρ, _, _, ok, q, fun H1 t1 u kd g hk ⟨n, d, ek, hd, hq⟩ => ?_⟩
  subst ek
  cases hk
  obtain ⟨p', vs', h1', h2', h3', _⟩ := (ok.go g).own i ds e
  rw [h1] at h1'; cases h1'
  obtain ⟨v, a1, a2⟩ := h3'.atI hd
  exact ⟨p, vs', n, v, rfl, rfl, .inl (.inl h2'), a1, k H1 _ v d g a2 hq⟩
def wOwnLen (i : Nat) : W T := fun ρ Φ t => ∃ ds, ρ[i]? = some (.own ds) ∧ Φ (.int ds.length) t
theorem E_ownLen {i : Nat} {a : Expr} (h : PE X a (tCB (fun xs H Q => ∃ p ys, xs = [.ref p] ∧ (SqL X.K H p ys ∨ SqT X.K H p ys) ∧ Q (.int ys.length) H) (tCons (tVar i) tNil))) : PE X a (E R (wOwnLen i)) := PE_imp h fun σ H Q ⟨ρ, t, Φ, ok, ⟨ds, e, q⟩, k⟩ => by
  obtain ⟨p, vs, h1, h2, h3, h4, _⟩ := ok.own i ds e
  exact ⟨_, h1, p, vs, rfl, .inl (.inl (.inl h2)), k H _ _ (.int _) (.refl ok.gd) (by rw [← h3.len]; exact .int _) q⟩
end

/-! ### a def's promise by its body -/
def startE (N : List Str) (ds : List D) : Env := ds.map .val ++ List.replicate (N.length - ds.length) .no
theorem start_ok {T : Type} {R : Rg T} {t : T} {N : List Str} {ds : List D} {vs : List V} {H : Hp} (gd : R.Gd t H) (h0 : R.H0 = H) (ht : R.t0 = t) (h : Dens R.K H ds vs) : EnvOk R t H (L2.start N vs) (startE N ds) := by
  have hl := h.len
  have no : ∀ (i : Nat) (x : Sl), (startE N ds)[i]? = some x → (∃ d, ds[i]? = some d ∧ x = .val d) ∨ x = .no := fun i x e => by
    unfold startE at e
    by_cases hi : i < ds.length
    · rw [List.getElem?_append_left (by rw [List.length_map]; exact hi), List.getElem?_map] at e
      cases q : ds[i]? with
      | none => rw [q] at e; cases e
      | some d => rw [q] at e; cases e; exact .inl ⟨d, rfl, rfl⟩
    · rw [List.getElem?_append_right (by rw [List.length_map]; omega), List.getElem?_replicate] at e
      split at e
      · cases e; exact .inr rfl
      · cases e
  refine ⟨gd, by rw [h0, ht]; exact .refl, by unfold startE L2.start; simp [hl], fun i d e => ?_, fun i es e => ?_, fun i j es fs p e _ _ _ => ?_, fun i es e => ?_, fun i j es fs p e _ _ _ => ?_⟩
  · rcases no i _ e with ⟨d', e', z⟩ | z
    · cases z
      obtain ⟨v, a1, a2⟩ := h.get e'
      refine ⟨v, ?_, a2⟩
      unfold L2.start
      rw [List.getElem?_append_left (by rw [List.length_map]; exact (List.getElem?_eq_some_iff.mp a1).1), List.getElem?_map, a1]
      rfl
    · cases z
  · rcases no i _ e with ⟨d', e', z⟩ | z <;> cases z
  · rcases no i _ e with ⟨d', e', z⟩ | z <;> cases z
  · rcases no i _ e with ⟨d', e', z⟩ | z <;> cases z
  · rcases no i _ e with ⟨d', e', z⟩ | z <;> cases z
section
variable {P : Program} {w : World} {K : PySem.W.Frag} {mg : Str → Option Value} {base : Heap}
/-- a def that changes nothing: its body under the pure regime -/
theorem ok_P {x qual : Str} {st : Stmt} {f : Addr} {fd : FuncData} {N ps : List Str} {k n : Nat} {fs : FS} {ww : WS Unit} (F : Fun K x qual st f fd) (sc : FnScope N ps (defScope st)) (hn : ps.length = n)
    (hb : ∀ (cdv : Value) (A : Around) (outer : List PySem.Env) (s : Shared) (H : Hp) (E : XK), Room k (A.deeper (PyProof.Rows.envOfC qual (defScope st) s.heap.objs.size f cdv)) →
      PSs (cxOf CX0 P w K mg base N qual (defScope st) f cdv A outer s H E).nox (defBody st) (S (Rg.pure K H) ww))
    (hv : ∀ ds Φ, ds.length = n → fs ds Φ → ww (startE N ds) { nx := fun _ _ => Φ .non, rt := fun d _ => Φ d } ()) : FnOk P w K mg base CX0 (k + 1) f fd ps (spP K n fs) := by
  refine F.ok sc (fun vs H Q E h => ?_) (fun cdv A outer s H vs Q E hr h => ?_)
  · obtain ⟨ds, Φ, hl, hD, _⟩ := h
    rw [← hD.len, hl, hn]
  · obtain ⟨ds, Φ, hl, hD, hf, q⟩ := h
    refine ⟨_, hb cdv A outer s H E hr, startE N ds, (), _, start_ok (R := Rg.pure K H) trivial rfl rfl hD, hv ds Φ hl hf, ?_⟩
    exact ⟨fun σ' H' ρ' t' _ ok' hq => q H' .non .non (Rg.pure_same ok'.st) .non hq, fun v H' d t' st _ hd hq => q H' v d (Rg.pure_same st) hd hq, fun _ _ _ _ _ _ z => z.elim, fun _ _ _ _ _ _ z => z.elim⟩
end
end J

set_option Elab.async false
set_option linter.all false
set_option maxRecDepth 100000
set_option maxHeartbeats 4000000
/-! J6: callees by name, more forms. -/
namespace J
open PySem PySem.Spec L2 RZ

/-- a def that can be called by the name x -/
structure Cal (P : Program) (w : World) (K : PySem.W.Frag) (mg : Str → Option Value) (base : Heap) (k : Nat) (x : Str) (ps : List Str) (sp : Sp) : Prop where
  ex : ∃ (f : Addr) (fd : FuncData), FnOk P w K mg base CX0 k f fd ps sp ∧ mg x = some (.ref f) ∧ PySem.W.keepIn K (.ref f) = true ∧ Binds K fd ps []
section
variable {T : Type} {X : Cx} {R : Rg T} {pos p : Pos}
theorem E_callC {kk : Nat} {ps : List Str} {sp : Sp} {x : Str} {e : Expr} {es : List Expr} {w : WA T} {fs : FST T} (c : Cal X.prog X.w X.K X.mg X.base kk x ps sp) (hr : Room kk X.A) (hg : Gl X x)
    (tk : Tk R sp fs) (ha : PA X (e :: es) (EA R w)) (hdb : (x == ("__debug__" : Str)) = false := by decide) (he : starEach (e :: es) X.env = (false, eval e X.env) :: starEach es X.env := by rfl) (hpl : (backTo pos (starEach es X.env)).any (·.1) = false := by rfl) :
    PE X (.Call (.Name x p) (e :: es) [] pos) (E R (wCallT fs w)) := by
  obtain ⟨f, fd, F, hm, hk, hb⟩ := c.ex
  exact E_call F hr hg hm hk hb pass0 tk ha hdb he hpl
theorem Cal.mk' {P : Program} {w : World} {K : PySem.W.Frag} {mg : Str → Option Value} {base : Heap} {k : Nat} {x nm qual : Str} {ps : List Str} {sp : Sp} {st : Stmt} {f : Addr} {fd : FuncData} (F : Fun K nm qual st f fd) (G : FnOk P w K mg base CX0 k f fd ps sp) (hm : mg x = some (.ref f)) (b : Binds K fd ps []) : Cal P w K mg base k x ps sp :=
  ⟨f, fd, G, hm, F.kp, b⟩
variable {a b c : Expr} {wa wb wc : W T}
theorem EB_chain {op op' : CmpOp} {r r' : R2} {f f' : D → D → (D → Prop) → Prop} (ho : OpR X (compareOp op) r) (ho' : OpR X (compareOp op') r') (hf : Op2 R r f) (hf' : Op2 R r' f') (ha : PE X a (E R wa)) (hb : PE X b (E R wb)) (hc : PE X c (E R wc))
    (hm : lastMarks [op, op'] [b, c] = false := by rfl) : PT X (.Compare a [op, op'] [b, c] pos) (EB R (wB (wChain f f' wa wb wc))) := PT_imp (pt_chain ho ho' ha hb hc hm) (tTest_E (tChain_E hf hf'))
theorem EL_lc2 {elt tg iter tg1 iter1 : Expr} {ifs ifs1 : List Expr} {scope : Scope} {own : List (Str × Nat)} {vs1 : List Nat} {wi wi1 : WL T} {p p1 : Pat} {wt wt1 : WB T} {we : W T} (hc : X.calm = true) (hN : X.N.Nodup) (ok : BlkOk X.N X.env.scope scope own) (hv : ∀ i ∈ vs1, i ∈ own.map (·.2)) (hp : ∀ i ∈ p.vs, i ∈ own.map (·.2)) (hp1 : ∀ i ∈ p1.vs, i ∈ vs1)
    (hi : PI X tg iter (EI R wi))
    (hg : ∀ (s : Shared) (H : Hp) (C : Addr) (cl : List (Str × Addr)) (fp : List Addr), PG (X.blk s H scope (compEnvC scope cl C X.env) fp) tg (EG R p)) (ht : ∀ (s : Shared) (H : Hp) (C : Addr) (cl : List (Str × Addr)) (fp : List Addr), PTs (X.blk s H scope (compEnvC scope cl C X.env) fp) ifs (EB R wt))
    (hi1 : ∀ (s : Shared) (H : Hp) (C : Addr) (cl : List (Str × Addr)) (fp : List Addr), PI (X.blk s H scope (compEnvC scope cl C X.env) fp) tg1 iter1 (EI R wi1))
    (hg1 : ∀ (s : Shared) (H : Hp) (C : Addr) (cl : List (Str × Addr)) (fp : List Addr), PG (X.blk s H scope (compEnvC scope cl C X.env) fp) tg1 (EG R p1)) (ht1 : ∀ (s : Shared) (H : Hp) (C : Addr) (cl : List (Str × Addr)) (fp : List Addr), PTs (X.blk s H scope (compEnvC scope cl C X.env) fp) ifs1 (EB R wt1))
    (he : ∀ (s : Shared) (H : Hp) (C : Addr) (cl : List (Str × Addr)) (fp : List Addr), PE (X.blk s H scope (compEnvC scope cl C X.env) fp) elt (E R we)) (hs : ∀ x, foldedSetIterable iter X.env x = pure x := by intro _; rfl) (hs1 : ∀ env x, foldedSetIterable iter1 env x = pure x := by intro _ _; rfl) :
    PE X (.ListComp elt [⟨tg, iter, ifs, 0⟩, ⟨tg1, iter1, ifs1, 0⟩] scope pos) (EL R (wLc2 wi p (own.map (·.2)) wt wi1 p1 vs1 wt1 we)) := PE_imp (pe_lc2 hc hN hi ok hv hg ht hi1 hg1 ht1 he hs hs1) (tLc2_EL hp hp1)
theorem tAsg_EL {i : Nat} {t : TE} {w : WL T} (h : ∀ σ H Q, EL R w σ H Q → t σ H Q) : ∀ D σ H, tAsg (EL R w) (gName i) D σ H → tAsg t (gName i) D σ H := fun D σ H q => h σ H _ q
theorem PS_setLc {i : Nat} {y : Str} {py : Pos} {elt tg iter : Expr} {ifs : List Expr} {scope : Scope} {own : List (Str × Nat)} {spos : Pos} {wi : WL T} {p : Pat} {wt : WB T} {we : W T} (hc : X.calm = true) (hN : X.N.Nodup) (ok : BlkOk X.N X.env.scope scope own) (hp : ∀ i ∈ p.vs, i ∈ own.map (·.2))
    (hi : PI X tg iter (EI R wi))
    (hg : ∀ (s : Shared) (H : Hp) (C : Addr) (cl : List (Str × Addr)) (fp : List Addr), PG (X.blk s H scope (compEnvC scope cl C X.env) fp) tg (EG R p)) (ht : ∀ (s : Shared) (H : Hp) (C : Addr) (cl : List (Str × Addr)) (fp : List Addr), PTs (X.blk s H scope (compEnvC scope cl C X.env) fp) ifs (EB R wt))
    (he : ∀ (s : Shared) (H : Hp) (C : Addr) (cl : List (Str × Addr)) (fp : List Addr), PE (X.blk s H scope (compEnvC scope cl C X.env) fp) elt (E R we)) (hy : X.N[i]? = some y := by rfl) (hyl : X.env.scope.names.lookup y = some .local := by rfl)
    (hsw : swapsWith (.ListComp elt [⟨tg, iter, ifs, 0⟩] scope pos) (some (.Name y py)) spos.line X.env = pure true := by exact sw_true rfl rfl rfl (by decide +kernel)) (hs : ∀ x, foldedSetIterable iter X.env x = pure x := by intro _; rfl) :
    PS X (.Assign [.Name y py] (.ListComp elt [⟨tg, iter, ifs, 0⟩] scope pos) spos) (tAsg (EL R (wLc wi p (own.map (·.2)) wt we)) (gName i)) := PS_imp (ps_setLc hc hN hy hyl hsw hi ok hg ht he hs) (tAsg_EL (tLc_EL hp))
theorem PS_setLc2 {i : Nat} {y : Str} {py : Pos} {elt tg iter tg1 iter1 : Expr} {ifs ifs1 : List Expr} {scope : Scope} {own : List (Str × Nat)} {vs1 : List Nat} {spos : Pos} {wi wi1 : WL T} {p p1 : Pat} {wt wt1 : WB T} {we : W T} (hc : X.calm = true) (hN : X.N.Nodup) (ok : BlkOk X.N X.env.scope scope own) (hv : ∀ i ∈ vs1, i ∈ own.map (·.2)) (hp : ∀ i ∈ p.vs, i ∈ own.map (·.2)) (hp1 : ∀ i ∈ p1.vs, i ∈ vs1)
    (hi : PI X tg iter (EI R wi))
    (hg : ∀ (s : Shared) (H : Hp) (C : Addr) (cl : List (Str × Addr)) (fp : List Addr), PG (X.blk s H scope (compEnvC scope cl C X.env) fp) tg (EG R p)) (ht : ∀ (s : Shared) (H : Hp) (C : Addr) (cl : List (Str × Addr)) (fp : List Addr), PTs (X.blk s H scope (compEnvC scope cl C X.env) fp) ifs (EB R wt))
    (hi1 : ∀ (s : Shared) (H : Hp) (C : Addr) (cl : List (Str × Addr)) (fp : List Addr), PI (X.blk s H scope (compEnvC scope cl C X.env) fp) tg1 iter1 (EI R wi1))
    (hg1 : ∀ (s : Shared) (H : Hp) (C : Addr) (cl : List (Str × Addr)) (fp : List Addr), PG (X.blk s H scope (compEnvC scope cl C X.env) fp) tg1 (EG R p1)) (ht1 : ∀ (s : Shared) (H : Hp) (C : Addr) (cl : List (Str × Addr)) (fp : List Addr), PTs (X.blk s H scope (compEnvC scope cl C X.env) fp) ifs1 (EB R wt1))
    (he : ∀ (s : Shared) (H : Hp) (C : Addr) (cl : List (Str × Addr)) (fp : List Addr), PE (X.blk s H scope (compEnvC scope cl C X.env) fp) elt (E R we)) (hy : X.N[i]? = some y := by rfl) (hyl : X.env.scope.names.lookup y = some .local := by rfl)
    (hsw : swapsWith (.ListComp elt [⟨tg, iter, ifs, 0⟩, ⟨tg1, iter1, ifs1, 0⟩] scope pos) (some (.Name y py)) spos.line X.env = pure true := by exact sw_true rfl rfl rfl (by decide +kernel)) (hs : ∀ x, foldedSetIterable iter X.env x = pure x := by intro _; rfl) (hs1 : ∀ env x, foldedSetIterable iter1 env x = pure x := by intro _ _; rfl) :
    PS X (.Assign [.Name y py] (.ListComp elt [⟨tg, iter, ifs, 0⟩, ⟨tg1, iter1, ifs1, 0⟩] scope pos) spos) (tAsg (EL R (wLc2 wi p (own.map (·.2)) wt wi1 p1 vs1 wt1 we)) (gName i)) := PS_imp (ps_setLc2 hc hN hy hyl hsw hi ok hv hg ht hi1 hg1 ht1 he hs hs1) (tAsg_EL (tLc2_EL hp hp1))
theorem E_gint {x : Str} {i : Int} {t : Tok} (hg : Gl X x) (hm : X.mg x = some (.int i t)) (hd : (x == ("__debug__" : Str)) = false := by decide) : PE X (.Name x pos) (E R (wC (.int i))) := E_c (pe_glob (v := .int i) hg hm ⟨t, rfl⟩ hd) fun _ => .int i
/-! [x] * n of a list -/
def rRepR : R2 := fun x y H Q => ∃ l k xs, x = .ref l ∧ y = .int k ∧ Rd H l (.lst xs) ∧ -(2 ^ 63) ≤ k ∧ k < 2 ^ 63 ∧ xs.length * k.toNat ≤ sizeLine ∧
  ∀ p, H p = none → Q (.ref p) (upd H p (.lst (List.replicate k.toNat xs).flatten))
theorem op_repR : OpR X (binaryOp .Mult) rRepR := by
  intro pins s σ H x y v u Q I rx ry h
  obtain ⟨l, k, xs, rfl, rfl, hH, h1, h2, hz, q⟩ := h
  cases rx
  obtain ⟨t, rfl⟩ := ry
  obtain ⟨z, its, n, r, hl, e⟩ := Inv.lstR I hH
  have hlen : its.toArray.size * k.toNat ≤ sizeLine := by rw [List.size_toArray, ← hl]; exact hz
  have hcap : ¬ its.toArray.size * k.toNat > (2 ^ 63 - 1) / 8 := by
    have : (sizeLine : Nat) ≤ (2 ^ 63 - 1) / 8 := by decide
    omega
  have hfit : ¬ (!Builtin.List.listFitsIndex k) = true := by
    rw [PySem.fitsIndex_both h1 h2]
    exact Bool.false_ne_true
  have hlong : ¬ Builtin.List.listTooLong (its.toArray.size * k.toNat) = true := by
    rw [notLongL hlen]
    exact Bool.false_ne_true
  have hnew : List.foldl (fun x1 x2 => x1 ++ x2) #[] (List.replicate (if its.toArray.isEmpty = true then 0 else k.toNat) its.toArray) = (List.replicate k.toNat its).flatten.toArray := by
    have f0 : ∀ m : Nat, List.foldl (fun x1 x2 => x1 ++ x2) #[] (List.replicate m its.toArray) = (List.replicate m its).flatten.toArray := fun m => by
      have := foldl_rep its m []
      rw [List.nil_append] at this
      exact this
    rw [f0]
    cases its with
    | nil => simp
    | cons a r' => rw [if_neg (by simp)]
  refine wpAny_binaryOp_repeat_ref (T := "list") (U := "int") (by decide) ⟨_, e, rfl⟩ (fun s' => typeIs_int s' k t) PySem.noFill_list_mul PySem.F.fills_int_mul PySem.F.slot_int_rmul PySem.repeat_list PySem.F.slot_int_index.lookup
    (call_meets PySem.F.slot_int_rmul (typeIs_int s k t) PySem.F.entry_int_rmul (PySem.F.args_int_rmul_2 _ _) (PySem.int___rmul___int_list k t l its.toArray n)
      ⟨e, rfl, ⟨_, e, rfl⟩, call_meets PySem.F.slot_list_mul ⟨_, e, rfl⟩ PySem.F.entry_list_mul (PySem.F.args_list_mul_2 _ _) (AutoListH.list___mul___list_int_3 l its.toArray n k t hfit hcap hlong) ⟨e, ?_⟩⟩)
  rw [hnew]
  exact ⟨.ref _, _, I.lnew (t' := s.toks) (r.rep k.toNat) (by rw [PyProof.Rows.lm_len_rep_flat, Nat.mul_comm]; exact hz), rfl, q _ I.fresh⟩
def fRep (d e : D) (Φ : List D → Prop) : Prop := ∃ xs k, d = .lst xs ∧ e = .int k ∧ -(2 ^ 63) ≤ k ∧ k < 2 ^ 63 ∧ xs.length * k.toNat ≤ sizeLine ∧ Φ (List.replicate k.toNat xs).flatten
theorem opd_rep : Op2L R rRepR fRep := fun t H x y dx dy Φ Q gd hx hy ⟨xs, k, e1, e2, h1, h2, h3, q⟩ kk => by
  subst e1 e2
  cases hx with
  | lst ha hs =>
    cases hy
    exact ⟨_, k, _, rfl, rfl, ha.rd, h1, h2, by rw [← hs.len]; exact h3, fun p n => kk p _ _ n (hs.rep _) q⟩
/-! x += e -/
def wAug (i : Nat) (f : D → D → (D → Prop) → Prop) (w : W T) : WS T := fun ρ Φ t => ∃ d, ρ[i]? = some (.val d) ∧ w ρ (fun e t => f d e fun z => Φ.nx (ρ.set i (.val z)) t) t
end

/-- what the module's names hold (built-ins are not overwritten) -/
structure Bt (mg : Str → Option Value) : Prop where
  b_len : mg "len" = none
  b_abs : mg "abs" = none
  b_sum : mg "sum" = none
  b_max : mg "max" = none
  b_min : mg "min" = none
  b_all : mg "all" = none
  b_any : mg "any" = none
  b_int : mg "int" = none
  b_bool : mg "bool" = none
  b_str : mg "str" = none
  b_tuple : mg "tuple" = none
  b_list : mg "list" = none
  b_isinstance : mg "isinstance" = none
  b_range : mg "range" = none
  b_enumerate : mg "enumerate" = none
  b_zip : mg "zip" = none
  b_sorted : mg "sorted" = none
end J

set_option Elab.async false
set_option linter.all false
set_option maxRecDepth 100000
set_option maxHeartbeats 4000000
/-! J7: encodings; comprehension lemmas over data; plain functions and their small laws. -/
namespace J
open PySem PySem.Spec L2 RZ
abbrev dI (r : List Int) : D := .tup (r.map .int)
abbrev dLI (r : List Int) : D := .lst (r.map .int)
abbrev dRows (rows : List (List Int)) : D := .tup (rows.map fun r => dI r)
abbrev dTel (d : Int) (rows : List (List Int)) : D := .tup [.str "teller", .int d, dRows rows]
abbrev dSta (g : List (List Int)) : D := .tup [.str "stakes", dRows g]
abbrev dGar (d : Int) (rows : List (List Int)) : D := .tup [.str "garbler", .int d, dRows rows]
abbrev dRat (q : Int × Int) : D := .tup [.int q.1, .int q.2]
def optI : Option Int → D
  | none => .non
  | some i => .int i

/-! ### comprehensions -/
section
variable {T : Type}
theorem lcRun_fm {f : D → (List D → T → Prop) → T → Prop} (g : D → List D) : ∀ (ds acc : List D) (Φ : List D → T → Prop) (t : T), (∀ d ∈ ds, ∀ K t, K (g d) t → f d K t) → Φ (acc ++ ds.flatMap g) t → lcRun f ds acc Φ t
  | [], acc, Φ, t, _, q => by simpa [lcRun] using q
  | d :: r, acc, Φ, t, h, q => h d List.mem_cons_self _ t (lcRun_fm g r (acc ++ g d) Φ t (fun e he => h e (List.mem_cons_of_mem _ he)) (by simpa [List.append_assoc] using q))
/-- over the images of other data -/
theorem lcRun_fmOf {α : Type} {f : D → (List D → T → Prop) → T → Prop} (enc : α → D) (g : α → List D) (xs : List α) {Φ : List D → T → Prop} {t : T} (h : ∀ x ∈ xs, ∀ K t, K (g x) t → f (enc x) K t) (q : Φ (xs.flatMap g) t) : lcRun f (xs.map enc) [] Φ t := by
  have key : ∀ (xs : List α) (acc : List D) (Φ : List D → T → Prop), (∀ x ∈ xs, ∀ K t, K (g x) t → f (enc x) K t) → Φ (acc ++ xs.flatMap g) t → lcRun f (xs.map enc) acc Φ t := by
    intro xs
    induction xs with
    | nil => intro acc Φ _ q; simpa [lcRun] using q
    | cons x r ih =>
      intro acc Φ h q
      exact h x List.mem_cons_self _ t (ih (acc ++ g x) Φ (fun e he => h e (List.mem_cons_of_mem _ he)) (by simpa [List.append_assoc] using q))
  exact key xs [] Φ h (by simpa using q)
theorem lcRun_mapOf {α : Type} {f : D → (List D → T → Prop) → T → Prop} (enc : α → D) (g : α → D) (xs : List α) {Φ : List D → T → Prop} {t : T} (h : ∀ x ∈ xs, ∀ K t, K [g x] t → f (enc x) K t) (q : Φ (xs.map g) t) : lcRun f (xs.map enc) [] Φ t :=
  lcRun_fmOf enc (fun x => [g x]) xs h (by
    have e : ∀ l : List α, l.flatMap (fun d => [g d]) = l.map g := fun l => by
      induction l with
      | nil => rfl
      | cons a b ih => rw [List.flatMap_cons, ih]; rfl
    rw [e]; exact q)
/-- with what cannot be told ahead (draws) -/
theorem lcRun_inv {f : D → (List D → T → Prop) → T → Prop} {Φ : List D → T → Prop} {t : T} (P : Nat → List D → T → Prop) (ds : List D) (h0 : P 0 [] t)
    (hs : ∀ (k : Nat) (d : D) (acc : List D) (K : List D → T → Prop) (t : T), ds[k]? = some d → P k acc t → (∀ ys t, P (k + 1) (acc ++ ys) t → K ys t) → f d K t) (hd : ∀ acc t, P ds.length acc t → Φ acc t) : lcRun f ds [] Φ t := by
  have key : ∀ (n : Nat) (k : Nat) (acc : List D) (t : T), ds.length - k = n → k ≤ ds.length → P k acc t → lcRun f (ds.drop k) acc Φ t := by
    intro n
    induction n with
    | zero =>
      intro k acc t e hk p
      have : k = ds.length := by omega
      subst this
      rw [List.drop_length]
      exact hd acc t p
    | succ n ih =>
      intro k acc t e hk p
      have hlt : k < ds.length := by omega
      rw [List.drop_eq_getElem_cons hlt]
      exact hs k ds[k] acc _ t (by simp [hlt]) p fun ys t py => ih (k + 1) (acc ++ ys) t (by omega) (by omega) py
  exact key _ 0 [] t rfl (Nat.zero_le _) h0
theorem lc2In_mapOf {β : Type} {p1 : Pat} {vs1 : List Nat} {wt1 : WB T} {we : W T} {ρ : Env} (enc : β → D) (g : β → D) : ∀ (ys : List β) (acc : List D) (K : List D → T → Prop) (t : T),
    (∀ y ∈ ys, ∃ ρ', bindP p1 (enc y) (wipeE ρ vs1) = some ρ' ∧ (∀ (Kb : Bool → T → Prop) t, Kb true t → wt1 ρ' Kb t) ∧ ∀ (K' : D → T → Prop) t, K' (g y) t → we ρ' K' t) → acc.length + ys.length ≤ sizeLine → K (acc ++ ys.map g) t → lc2In p1 vs1 wt1 we ρ (ys.map enc) acc K t
  | [], acc, K, t, _, _, q => by simpa [lc2In] using q
  | y :: r, acc, K, t, h, hl, q => by
    obtain ⟨ρ', hb, ht, he⟩ := h y List.mem_cons_self
    rw [List.length_cons] at hl
    refine ⟨ρ', hb, ht _ t ?_⟩
    rw [if_pos rfl]
    refine he _ t ⟨by omega, lc2In_mapOf enc g r (acc ++ [g y]) K t (fun e he => h e (List.mem_cons_of_mem _ he)) (by rw [List.length_append]; simp; omega) (by simpa [List.append_assoc] using q)⟩
theorem lc2_mapOf {α β : Type} {p p1 : Pat} {vs vs1 : List Nat} {wt wt1 : WB T} {wi1 : WL T} {we : W T} {ρ : Env} (enc : α → D) (inner : α → List β) (enc1 : β → D) (g : α → β → D) (xs : List α) {Φ : List D → T → Prop} {t : T}
    (h : ∀ x ∈ xs, ∃ ρ', bindP p (enc x) (wipeE ρ vs) = some ρ' ∧ (∀ (Kb : Bool → T → Prop) t, Kb true t → wt ρ' Kb t) ∧ (∀ (Kl : List D → T → Prop) t, Kl ((inner x).map enc1) t → wi1 ρ' Kl t) ∧
      ∀ y ∈ inner x, ∃ ρ'', bindP p1 (enc1 y) (wipeE ρ' vs1) = some ρ'' ∧ (∀ (Kb : Bool → T → Prop) t, Kb true t → wt1 ρ'' Kb t) ∧ ∀ (K' : D → T → Prop) t, K' (g x y) t → we ρ'' K' t)
    (hl : (xs.flatMap inner).length ≤ sizeLine) (q : Φ (xs.flatMap fun x => (inner x).map (g x)) t) : lc2Out p vs wt wi1 p1 vs1 wt1 we ρ (xs.map enc) [] Φ t := by
  have key : ∀ (xs : List α) (acc : List D) (Φ : List D → T → Prop), (∀ x ∈ xs, ∃ ρ', bindP p (enc x) (wipeE ρ vs) = some ρ' ∧ (∀ (Kb : Bool → T → Prop) t, Kb true t → wt ρ' Kb t) ∧ (∀ (Kl : List D → T → Prop) t, Kl ((inner x).map enc1) t → wi1 ρ' Kl t) ∧
      ∀ y ∈ inner x, ∃ ρ'', bindP p1 (enc1 y) (wipeE ρ' vs1) = some ρ'' ∧ (∀ (Kb : Bool → T → Prop) t, Kb true t → wt1 ρ'' Kb t) ∧ ∀ (K' : D → T → Prop) t, K' (g x y) t → we ρ'' K' t) →
      acc.length + (xs.flatMap inner).length ≤ sizeLine → Φ (acc ++ xs.flatMap fun x => (inner x).map (g x)) t → lc2Out p vs wt wi1 p1 vs1 wt1 we ρ (xs.map enc) acc Φ t := by
    intro xs
    induction xs with
    | nil => intro acc Φ _ _ q; simpa [lc2Out] using q
    | cons x r ih =>
      intro acc Φ h hl q
      obtain ⟨ρ', hb, ht, hi, hy⟩ := h x List.mem_cons_self
      rw [List.flatMap_cons, List.length_append] at hl
      refine ⟨ρ', hb, ht _ t ?_⟩
      rw [if_pos rfl]
      refine hi _ t (lc2In_mapOf enc1 (g x) (inner x) acc _ t hy (by omega) ?_)
      refine ih _ Φ (fun e he => h e (List.mem_cons_of_mem _ he)) ?_ ?_
      · rw [List.length_append, List.length_map]; omega
      · rw [List.flatMap_cons] at q
        simpa [List.append_assoc] using q
  exact key xs [] Φ h (by simpa using hl) (by simpa using q)
theorem yes_ok (ρ : Env) (Kb : Bool → T → Prop) (t : T) (h : Kb true t) : wYes ρ Kb t := h
end
end J

set_option Elab.async false
set_option linter.all false
set_option maxRecDepth 100000
set_option maxHeartbeats 4000000
/-! J8: plain functions, what the package's defs do on right values. -/
namespace J
open PySem PySem.Spec L2 RZ
def isNum (d : D) (lo : Int) (hi : Option Int) : Bool := match d with
  | .int i => decide (lo ≤ i) && (match hi with | none => true | some h => decide (i ≤ h))
  | _ => false
def gcdI (a b : Int) : Int := (Int.gcd a b : Nat)
def gcdL (ns : List Int) : Int := ns.foldl gcdI 0
def dot (xs ys : List Int) : Int := ((xs.zip ys).map fun p => p.1 * p.2).sum
def wid (rows : List (List Int)) : Nat := (rows.headD []).length
def cols (rows : List (List Int)) : List (List Int) := (List.range (wid rows)).map fun y => rows.map fun r => r.getD y 0
def sumsAt (g : List (List Int)) (c : List Int) : List Int := g.map fun a => dot a c
def maxL : List Int → Int
  | [] => 0
  | x :: xs => xs.foldl max x
def worthN (rows g : List (List Int)) : Int := ((cols rows).map fun c => maxL (sumsAt g c)).sum
def ratN (a b : Int) : Int × Int := (a / gcdI a b, b / gcdI a b)
def Sm (n : Nat) (x : Int) : Prop := x.natAbs < 2 ^ n
structure RowsOk (rows : List (List Int)) (total : Int) (most wide : Nat) : Prop where
  l1 : 1 ≤ rows.length
  l2 : rows.length ≤ most
  w1 : 1 ≤ wid rows
  w2 : wid rows ≤ wide
  len : ∀ r ∈ rows, r.length = wid rows
  nn : ∀ r ∈ rows, ∀ x ∈ r, 0 ≤ x
  sum : ∀ r ∈ rows, r.sum = total
structure IsTel (d : Int) (rows : List (List Int)) : Prop where
  d1 : 1 ≤ d
  d2 : d ≤ 10 ^ 30
  ok : RowsOk rows d 6 12
structure IsGar (d : Int) (rows : List (List Int)) : Prop where
  d1 : 1 ≤ d
  ok : RowsOk rows d 12 12
structure IsSta (g : List (List Int)) : Prop where
  l1 : 1 ≤ g.length
  l2 : g.length ≤ 12
  w1 : 1 ≤ wid g
  w2 : wid g ≤ 6
  len : ∀ r ∈ g, r.length = wid g
  sm : ∀ r ∈ g, ∀ x ∈ r, Sm 400000 x
/-! specs -/
def fs_is_number : FS := fun ds Φ => ∃ d lo hi, ds = [d, .int lo, optI hi] ∧ d.ty ≠ "?" ∧ Φ (.bl (isNum d lo hi))
def fs_divisor : FS := fun ds Φ => ∃ a b : Int, ds = [.int a, .int b] ∧ Φ (.int (gcdI a b))
def fs_common_tellers : FS := fun ds Φ => ∃ d ns, ds = [d] ∧ IsInts d ns ∧ Φ (.int (gcdL ns))
def fs_ratio : FS := fun ds Φ => ∃ a b : Int, ds = [.int a, .int b] ∧ 0 < b ∧ Sm 8000 b ∧ Φ (dRat (ratN a b))
def fs_columns_of : FS := fun ds Φ => ∃ d rows, ds = [dTel d rows] ∧ IsTel d rows ∧ Φ (.lst ((cols rows).map fun c => dI c))
theorem gcdI_nn (a b : Int) : 0 ≤ gcdI a b := Int.natCast_nonneg _
theorem gcdI_pos {a b : Int} (h : 0 < b) : 0 < gcdI a b := by
  unfold gcdI
  have : 0 < Int.gcd a b := Int.gcd_pos_of_ne_zero_right a (by omega)
  omega
theorem gcdI_le {a b : Int} (h : 0 < b) : gcdI a b ≤ b := by
  unfold gcdI
  exact Int.le_of_dvd h (Int.gcd_dvd_right a b)
theorem gcdI_fmod (a b : Int) : gcdI b (a.fmod b) = gcdI a b := by
  unfold gcdI
  congr 1
  rw [Int.gcd_comm a b]
  have : a.fmod b = a - b * (a.fdiv b) := Int.fmod_def a b
  rw [this, Int.sub_eq_add_neg, ← Int.mul_neg]
  exact Int.gcd_add_mul_left_right ..
theorem gcdI_zero (a : Int) : gcdI a 0 = (if a < 0 then -a else a) := by
  unfold gcdI
  rw [Int.gcd_zero_right]
  split <;> omega
theorem fmod_lt (a : Int) {b : Int} (h : b ≠ 0) : (a.fmod b).natAbs < b.natAbs := by
  rcases Int.lt_or_gt_of_ne h with h | h
  · have e := Int.neg_fmod_neg (-a) (-b)
    rw [Int.neg_neg, Int.neg_neg] at e
    have h1 := Int.fmod_nonneg_of_pos (-a) (show 0 < -b by omega)
    have h2 := Int.fmod_lt_of_pos (-a) (show 0 < -b by omega)
    omega
  · have h1 := Int.fmod_nonneg_of_pos a h
    have h2 := Int.fmod_lt_of_pos a h
    omega
theorem atI_0 {α : Type} (a : α) (l : List α) : atI (a :: l) 0 = some a := atI_nat (j := 0) rfl
theorem atI_1 {α : Type} (a b : α) (l : List α) : atI (a :: b :: l) 1 = some b := atI_nat (j := 1) rfl
theorem atI_2 {α : Type} (a b c : α) (l : List α) : atI (a :: b :: c :: l) 2 = some c := atI_nat (j := 2) rfl
theorem atI_map {α β : Type} (f : α → β) (l : List α) (n : Int) : atI (l.map f) n = (atI l n).map f := by
  unfold atI
  rw [List.length_map]
  cases ixN l.length n with
  | none => rfl
  | some j => simp
theorem atI_getD {r : List Int} {y : Nat} (h : y < r.length) : atI r (y : Int) = some (r.getD y 0) := by
  refine atI_nat ?_
  rw [List.getD_eq_getElem?_getD, List.getElem?_eq_getElem h]
  rfl
theorem map_at {α β : Type} {f : α → β} {l : List α} {k : Nat} {y : β} (h : (l.map f)[k]? = some y) : ∃ x, l[k]? = some x ∧ y = f x := by
  rw [List.getElem?_map] at h
  cases e : l[k]? with
  | none => rw [e] at h; cases h
  | some x => rw [e] at h; cases h; exact ⟨x, rfl, rfl⟩
theorem items_tup (ds : List D) : D.items (.tup ds) = some ds := rfl
theorem items_lst (ds : List D) : D.items (.lst ds) = some ds := rfl
theorem isT_tup (ds : List D) : D.isT (.tup ds) = true := rfl
theorem isT_lst (ds : List D) : D.isT (.lst ds) = false := rfl
theorem addD_int (i j : Int) : addD (.int i) (.int j) = some (.int (i + j)) := rfl
theorem addD_tup (i j : List D) : addD (.tup i) (.tup j) = some (.tup (i ++ j)) := rfl
theorem intD_int (i : Int) : intD (.int i) = some i := rfl
theorem intD_bl (b : Bool) : intD (.bl b) = some (if b then 1 else 0) := rfl
theorem small_int (i : Int) : D.small (.int i) := trivial
theorem range_at {k n : Nat} {d : D} (h : (rangeD 0 n)[k]? = some d) : k < n ∧ d = .int k := by
  unfold rangeD at h
  obtain ⟨i, h1, rfl⟩ := map_at h
  rw [List.getElem?_range (by
    rcases Nat.lt_or_ge k n with h | h
    · exact h
    · rw [List.getElem?_eq_none (by simpa using h)] at h1; cases h1)] at h1
  cases h1
  refine ⟨?_, by simp⟩
  rcases Nat.lt_or_ge k n with h | h
  · exact h
  · simp [h] at *
theorem rangeD_eq (n : Nat) : rangeD 0 n = (List.range n).map fun i => D.int (i : Nat) := by
  unfold rangeD
  refine List.map_congr_left fun i _ => ?_
  rw [Int.zero_add]
theorem sizeL : (sizeLine : Nat) = 16777216 := sizeLine_eq
theorem head_wid {rows : List (List Int)} (h : 1 ≤ rows.length) : ∃ r rs, rows = r :: rs ∧ wid rows = r.length := by
  cases rows with
  | nil => simp at h
  | cons r rs => exact ⟨r, rs, rfl, rfl⟩
theorem IsInts.items {d : D} {ns : List Int} (h : IsInts d ns) : d.items = some (ns.map .int) := by
  rcases h with rfl | rfl <;> rfl
theorem take_succ_at {α : Type} {l : List α} {k : Nat} {x : α} (h : l[k]? = some x) : l.take (k + 1) = l.take k ++ [x] := by
  rw [List.take_add_one, h]; rfl
theorem gcdL_take {ns : List Int} {k : Nat} {n : Int} (h : ns[k]? = some n) : gcdL (ns.take (k + 1)) = gcdI (gcdL (ns.take k)) n := by
  rw [take_succ_at h]
  unfold gcdL
  rw [List.foldl_append]
  rfl
theorem eq_int (a b : Int) : D.eq (.int a) (.int b) = decide (a = b) := by
  simp only [D.eq, D.toP, PyData.eqv]
  exact Bool.beq_eq_decide_eq a b
theorem shp_int (a : Int) : D.shp (.int a) := by
  simp [D.shp, D.toP, SeqAt.shaped, PyData.canLay0, PyData.depth]

/-! more specs -/
def lowR (g : Int) (rows : List (List Int)) : List (List Int) := rows.map fun r => r.map (· / g)
def sumG (g h : List (List Int)) : List (List Int) := g.flatMap fun a => h.map fun b => (a.zip b).map fun p => p.1 + p.2
def prodAt (r : List Int) (more : List (List Int)) (z : Nat) : Int := ((List.range r.length).map fun y => r.getD y 0 * (more.getD y []).getD z 0).sum
def prodR (rows more : List (List Int)) : List (List Int) := rows.map fun r => (List.range (wid more)).map fun z => prodAt r more z
def bestL (s : List Int) : List Int := ((List.range s.length).filter fun a => decide (s.getD a 0 = maxL s)).map fun (a : Nat) => (a : Int)
def fs_are_rows_tellers : FS := fun ds Φ => ∃ (rows : List (List Int)) (total : Int) (most wide : Nat), ds = [dRows rows, .int total, .int most, .int wide] ∧ RowsOk rows total most wide ∧ most ≤ 12 ∧ wide ≤ 12 ∧ Φ (.bl true)
def fs_is_teller : FS := fun ds Φ => ∃ d rows, ds = [dTel d rows] ∧ IsTel d rows ∧ Φ (.bl true)
def fs_check_teller : FS := fun ds Φ => ∃ d rows, ds = [dTel d rows] ∧ IsTel d rows ∧ Φ .non
def fs_check_word : FS := fun ds Φ => ∃ d rows n, ds = [dTel d rows, .int n] ∧ IsTel d rows ∧ 0 ≤ n ∧ n < wid rows ∧ Φ .non
def fs_made : FS := fun ds Φ => ∃ d rows, ds = [.int d, dRows rows] ∧ 1 ≤ rows.length ∧ rows.length ≤ 12 ∧ wid rows ≤ 12 ∧ (∀ r ∈ rows, r.length = wid rows) ∧ 0 < d ∧ Sm 8000 d ∧ d / gcdL (d :: rows.flatten) ≤ 10 ^ 30 ∧
  Φ (dTel (d / gcdL (d :: rows.flatten)) (lowR (gcdL (d :: rows.flatten)) rows))
def fs_are_stakes : FS := fun ds Φ => ∃ g, ds = [dSta g] ∧ IsSta g ∧ Φ (.bl true)
def fs_are_stakes_for : FS := fun ds Φ => ∃ (g : List (List Int)) (many : Int), ds = [.int many, dSta g] ∧ IsSta g ∧ many = wid g ∧ Φ (.bl true)
def fs_check_stakes : FS := fun ds Φ => ∃ g, ds = [dSta g] ∧ IsSta g ∧ Φ .non
def fs_check_stakes_for : FS := fun ds Φ => ∃ (g : List (List Int)) (many : Int), ds = [.int many, dSta g] ∧ IsSta g ∧ many = wid g ∧ Φ .non
def fs_sums_at : FS := fun ds Φ => ∃ g c, ds = [dSta g, dI c] ∧ IsSta g ∧ (∀ x ∈ c, Sm 400000 x) ∧ Φ (dLI (sumsAt g c))
def fs_worth_told : FS := fun ds Φ => ∃ d rows g, ds = [dTel d rows, dSta g] ∧ IsTel d rows ∧ IsSta g ∧ wid g = rows.length ∧ Φ (dRat (ratN (worthN rows g) d))
def fs_worth : FS := fs_worth_told
def fs_best_deeds : FS := fun ds Φ => ∃ d rows g n, ds = [dTel d rows, dSta g, .int n] ∧ IsTel d rows ∧ IsSta g ∧ wid g = rows.length ∧ 0 ≤ n ∧ n < wid rows ∧ Φ (dI (bestL (sumsAt g ((cols rows).getD n.toNat []))))
def fs_unheard : FS := fun ds Φ => ∃ g, ds = [dSta g] ∧ IsSta g ∧ Φ (.int (maxL (g.map List.sum)))
def fs_check_second : FS := fun ds Φ => ∃ g h, ds = [dSta g, dSta h] ∧ IsSta g ∧ IsSta h ∧ wid g = wid h ∧ Φ .non
def fs_made_stakes : FS := fun ds Φ => ∃ g : List (List Int), ds = [.lst (g.map fun r => dI r)] ∧ g.length ≤ 12 ∧ Φ (dSta g)
def fs_stakes_sum : FS := fun ds Φ => ∃ g h, ds = [dSta g, dSta h] ∧ IsSta g ∧ IsSta h ∧ wid g = wid h ∧ g.length * h.length ≤ 12 ∧ Φ (dSta (sumG g h))
def fs_stakes_either : FS := fun ds Φ => ∃ g h, ds = [dSta g, dSta h] ∧ IsSta g ∧ IsSta h ∧ wid g = wid h ∧ g.length + h.length ≤ 12 ∧ Φ (dSta (g ++ h))
def fs_is_whole : FS := fun ds Φ => ∃ i lo : Int, ds = [.int i, .int lo] ∧ Φ (.bl (decide (lo ≤ i)))
def fs_common_garblers : FS := fun ds Φ => ∃ d ns, ds = [d] ∧ IsInts d ns ∧ (∀ x ∈ ns, 0 ≤ x) ∧ Φ (.int (gcdL ns))
def fs_are_rows_garblers : FS := fun ds Φ => ∃ (rows : List (List Int)) (total : Int) (most : Nat), ds = [dRows rows, .int total, .int most] ∧ RowsOk rows total most 12 ∧ most ≤ 12 ∧ Φ (.bl true)
def fs_is_garbler : FS := fun ds Φ => ∃ d rows, ds = [dGar d rows] ∧ IsGar d rows ∧ Φ (.bl true)
def fs_check_garbler : FS := fun ds Φ => ∃ d rows e m, ds = [dTel d rows, dGar e m] ∧ IsTel d rows ∧ IsGar e m ∧ m.length = wid rows ∧ Φ .non
def fs_product : FS := fun ds Φ => ∃ rows more, ds = [dRows rows, dRows more] ∧ rows.length ≤ 12 ∧ (∀ r ∈ rows, r.length = more.length ∧ ∀ x ∈ r, Sm 400000 x) ∧ 1 ≤ more.length ∧ more.length ≤ 12 ∧ wid more ≤ 12 ∧ (∀ r ∈ more, r.length = wid more ∧ ∀ x ∈ r, Sm 400000 x) ∧ Φ (dRows (prodR rows more))
def fs_lowered_rows : FS := fun ds Φ => ∃ d rows, ds = [.int d, dRows rows] ∧ rows.length ≤ 12 ∧ (∀ r ∈ rows, r.length ≤ 12 ∧ ∀ x ∈ r, 0 ≤ x) ∧ 0 < d ∧ Sm 8000 d ∧
  Φ (.tup [.int (d / gcdL (d :: rows.flatten)), dRows (lowR (gcdL (d :: rows.flatten)) rows)])
def fs_garbled : FS := fun ds Φ => ∃ d rows e m, ds = [dTel d rows, dGar e m] ∧ IsTel d rows ∧ IsGar e m ∧ m.length = wid rows ∧ Sm 7000 e ∧ (d * e) / gcdL ((d * e) :: (prodR rows m).flatten) ≤ 10 ^ 30 ∧
  Φ (dTel ((d * e) / gcdL ((d * e) :: (prodR rows m).flatten)) (lowR (gcdL ((d * e) :: (prodR rows m).flatten)) (prodR rows m)))
def dirL (c : List Int) : List Int := c.map (· / gcdL c)
def fs_direction_of : FS := fun ds Φ => ∃ c, ds = [dI c] ∧ c.length ≤ 12 ∧ (∀ x ∈ c, 0 ≤ x ∧ Sm 8000 x) ∧ Φ (if 0 < gcdL c then dI (dirL c) else .non)
def fs__law_gcd : FS := fs_divisor
def fs__law_ratio : FS := fs_ratio
def fs__law_less : FS := fun ds Φ => ∃ p q : Int × Int, ds = [dRat p, dRat q] ∧ Sm 400000 p.1 ∧ Sm 400000 p.2 ∧ Sm 400000 q.1 ∧ Sm 400000 q.2 ∧ Φ (.bl (decide (p.1 * q.2 < q.1 * p.2)))
def fs__law_columns : FS := fs_columns_of
def fs__law_sums : FS := fun ds Φ => ∃ g c, ds = [dI c, dSta g] ∧ IsSta g ∧ (∀ x ∈ c, Sm 400000 x) ∧ Φ (dLI (sumsAt g c))
def fs__law_worth : FS := fs_worth_told
def fs__law_sum : FS := fun ds Φ => ∃ p q : Int × Int, ds = [dRat p, dRat q] ∧ Sm 3000 p.1 ∧ Sm 3000 p.2 ∧ Sm 3000 q.1 ∧ Sm 3000 q.2 ∧ 0 < p.2 ∧ 0 < q.2 ∧ Φ (dRat (ratN (p.1 * q.2 + q.1 * p.2) (p.2 * q.2)))
/-! small laws for these -/
theorem all_true {α : Type} (xs : List α) (Φ : D → Prop) (h : Φ (.bl true)) : fAll [.lst (xs.map fun _ => D.bl true)] Φ := by
  refine ⟨xs.map fun _ => true, by simp [Function.comp_def], ?_⟩
  have : (xs.map fun _ => true).all id = true := by simp
  rw [this]; exact h
theorem eq_str (a b : Str) : D.eq (.str a) (.str b) = (a == b) := by simp only [D.eq, D.toP, PyData.eqv]
theorem gcdL_dvd : ∀ {ns : List Int} {x : Int}, x ∈ ns → gcdL ns ∣ x := by
  have key : ∀ (ns : List Int) (a : Int), (ns.foldl gcdI a ∣ a) ∧ ∀ x ∈ ns, ns.foldl gcdI a ∣ x := by
    intro ns
    induction ns with
    | nil => intro a; exact ⟨Int.dvd_refl a, fun x h => by simp at h⟩
    | cons y r ih =>
      intro a
      obtain ⟨h1, h2⟩ := ih (gcdI a y)
      refine ⟨Int.dvd_trans h1 (Int.gcd_dvd_left a y), fun x hx => ?_⟩
      rcases List.mem_cons.mp hx with rfl | hx
      · exact Int.dvd_trans h1 (Int.gcd_dvd_right a x)
      · exact h2 x hx
  exact fun {ns x} h => (key ns 0).2 x h
theorem gcdL_nn (ns : List Int) : 0 ≤ gcdL ns := by
  have key : ∀ (ns : List Int) (a : Int), 0 ≤ a → 0 ≤ ns.foldl gcdI a := by
    intro ns
    induction ns with
    | nil => intro a h; exact h
    | cons y r ih => intro a _; exact ih _ (gcdI_nn a y)
  exact key ns 0 (Int.le_refl 0)
theorem gcdL_pos {d : Int} {l : List Int} (h : 0 < d) : 0 < gcdL (d :: l) ∧ gcdL (d :: l) ≤ d := by
  have h1 : gcdL (d :: l) ∣ d := gcdL_dvd List.mem_cons_self
  have h2 := gcdL_nn (d :: l)
  have h3 := Int.le_of_dvd h h1
  refine ⟨?_, h3⟩
  rcases Int.lt_or_eq_of_le h2 with h | h
  · exact h
  · rw [← h] at h1
    have := Int.zero_dvd.mp h1
    omega
theorem Sm.mono {a b : Nat} {x : Int} (h : Sm a x) (hab : a ≤ b) : Sm b x := Nat.lt_of_lt_of_le h (Nat.pow_le_pow_right (by decide) hab)
theorem Sm.le {a : Nat} {x y : Int} (h : Sm a y) (h0 : 0 ≤ x) (h1 : x ≤ y) : Sm a x := by
  unfold Sm at *; omega
theorem Sm.mul {a b : Nat} {x y : Int} (h : Sm a x) (h' : Sm b y) : Sm (a + b) (x * y) := wide_lt h h'
theorem Sm.div {a : Nat} {x y : Int} (h : Sm a x) : Sm a (x / y) := Nat.lt_of_le_of_lt (Int.natAbs_ediv_le_natAbs x y) h
theorem sm30 : Sm 100 ((10 : Int) ^ 30) := by unfold Sm; decide
theorem Sm.cmul {a b : Nat} {x y : Int} (h : Sm a x) (h' : Sm b y) (h0 : 0 < a) (h1 : 0 < b) (hh : a + b ≤ 1000000) : CMulW x y := wide_mul h h' h0 h1 hh
theorem Sm.cdiv {b : Nat} {x y : Int} (h' : Sm b y) (h : 0 < y) (h0 : 0 < b) (hh : b ≤ 9000) : CDivW x y := wide_div h h' h0 hh
theorem small_d {d : Int} {rows : List (List Int)} (h : IsTel d rows) : Sm 100 d := sm30.le (by have := h.d1; omega) h.d2
theorem le_sum : ∀ {r : List Int} {x : Int}, (∀ y ∈ r, 0 ≤ y) → x ∈ r → x ≤ r.sum
  | y :: r, x, h, hx => by
    have h1 := h y List.mem_cons_self
    have h2 : 0 ≤ r.sum := by
      have : ∀ (l : List Int), (∀ y ∈ l, 0 ≤ y) → 0 ≤ l.sum := by
        intro l
        induction l with
        | nil => intro _; exact Int.le_refl 0
        | cons a b ih =>
          intro h
          rw [List.sum_cons]
          have h1 := h a List.mem_cons_self
          have h2 := ih fun y hy => h y (List.mem_cons_of_mem _ hy)
          omega
      exact this r fun y hy => h y (List.mem_cons_of_mem _ hy)
    rw [List.sum_cons]
    rcases List.mem_cons.mp hx with rfl | hx
    · omega
    · have := le_sum (fun y hy => h y (List.mem_cons_of_mem _ hy)) hx
      omega
theorem RowsOk.le {rows : List (List Int)} {d : Int} {a b : Nat} (h : RowsOk rows d a b) {r : List Int} (hr : r ∈ rows) {x : Int} (hx : x ∈ r) : x ≤ d := by
  rw [← h.sum r hr]; exact le_sum (h.nn r hr) hx
theorem RowsOk.sm {rows : List (List Int)} {d : Int} {a b n : Nat} (h : RowsOk rows d a b) (hd : Sm n d) {r : List Int} (hr : r ∈ rows) {x : Int} (hx : x ∈ r) : Sm n x := hd.le (h.nn r hr x hx) (h.le hr hx)
theorem maxL_mem : ∀ {ns : List Int}, 0 < ns.length → maxL ns ∈ ns ∧ ∀ y ∈ ns, y ≤ maxL ns
  | x :: xs, _ => by
    have key : ∀ (l : List Int) (a : Int), (l.foldl max a = a ∨ l.foldl max a ∈ l) ∧ a ≤ l.foldl max a ∧ ∀ y ∈ l, y ≤ l.foldl max a := by
      intro l
      induction l with
      | nil => intro a; exact ⟨.inl rfl, Int.le_refl a, fun y h => by simp at h⟩
      | cons b r ih =>
        intro a
        obtain ⟨h1, h2, h3⟩ := ih (max a b)
        show (r.foldl max (max a b) = a ∨ r.foldl max (max a b) ∈ b :: r) ∧ a ≤ r.foldl max (max a b) ∧ ∀ y ∈ b :: r, y ≤ r.foldl max (max a b)
        refine ⟨?_, by omega, fun y hy => ?_⟩
        · rcases h1 with h1 | h1
          · by_cases hab : a ≤ b
            · right; rw [h1]; have : max a b = b := by omega
              rw [this]; exact List.mem_cons_self
            · left; rw [h1]; omega
          · exact .inr (List.mem_cons_of_mem _ h1)
        · rcases List.mem_cons.mp hy with rfl | hy
          · omega
          · exact h3 y hy
    obtain ⟨h1, h2, h3⟩ := key xs x
    refine ⟨?_, fun y hy => ?_⟩
    · rcases h1 with h1 | h1
      · show xs.foldl max x ∈ x :: xs
        rw [h1]; exact List.mem_cons_self
      · exact List.mem_cons_of_mem _ h1
    · rcases List.mem_cons.mp hy with rfl | hy
      · exact h2
      · exact h3 y hy
theorem maxL_eq {ns : List Int} {m : Int} (h1 : m ∈ ns) (h2 : ∀ y ∈ ns, y ≤ m) : maxL ns = m := by
  have hl : 0 < ns.length := List.length_pos_of_mem h1
  obtain ⟨a, b⟩ := maxL_mem hl
  have := b m h1
  have := h2 _ a
  omega

/-! what tests of data say -/
theorem tyq_tup (xs : List D) : ((D.tup xs).ty ≠ "?") = True := eq_true (by simp [D.ty])
theorem tyq_lst (xs : List D) : ((D.lst xs).ty ≠ "?") = True := eq_true (by simp [D.ty])
theorem tyq_int (i : Int) : ((D.int i).ty ≠ "?") = True := eq_true (by simp [D.ty])
theorem tyq_str (i : Str) : ((D.str i).ty ≠ "?") = True := eq_true (by simp [D.ty])
theorem tyq_bl (i : Bool) : ((D.bl i).ty ≠ "?") = True := eq_true (by simp [D.ty])
theorem tyq_non : (D.non.ty ≠ "?") = True := eq_true (by simp [D.ty])
theorem isi_tt (xs : List D) : isiB (D.tup xs).ty "tuple" = true := by simp [D.ty, isiB]
theorem isi_ss (x : Str) : isiB (D.str x).ty "str" = true := by simp [D.ty, isiB]
theorem isi_ii (x : Int) : isiB (D.int x).ty "int" = true := by simp [D.ty, isiB]
theorem isi_ib (x : Int) : isiB (D.int x).ty "bool" = false := by simp [D.ty, isiB]
theorem shp_teller : D.shp (.str "teller") := by
  show SeqAt.shaped (.str _) = true
  decide +kernel
theorem shp_stakes : D.shp (.str "stakes") := by
  show SeqAt.shaped (.str _) = true
  decide +kernel
theorem shp_garbler : D.shp (.str "garbler") := by
  show SeqAt.shaped (.str _) = true
  decide +kernel
theorem shp_eq_int (i : Int) : (D.int i).shp = True := eq_true (shp_int i)
theorem shp_eq_teller : (D.str "teller").shp = True := eq_true shp_teller
theorem shp_eq_stakes : (D.str "stakes").shp = True := eq_true shp_stakes
theorem shp_eq_garbler : (D.str "garbler").shp = True := eq_true shp_garbler
theorem eq_str_self (a : Str) : D.eq (.str a) (.str a) = true := by rw [eq_str]; simp
theorem head_at {rows : List (List Int)} (h : 1 ≤ rows.length) : ∃ r, r ∈ rows ∧ r.length = wid rows ∧ atI (rows.map fun r => D.tup (r.map D.int)) 0 = some (.tup (r.map D.int)) := by
  obtain ⟨r, rs, rfl, hw⟩ := head_wid h
  exact ⟨r, List.mem_cons_self, hw.symm, atI_0 _ _⟩
theorem flat_len {rows : List (List Int)} {a b : Nat} (h1 : rows.length ≤ a) (h2 : ∀ r ∈ rows, r.length ≤ b) : rows.flatten.length ≤ a * b := by
  induction rows generalizing a with
  | nil => simp
  | cons r rs ih =>
    rw [List.flatten_cons, List.length_append]
    rw [List.length_cons] at h1
    have := ih (a := a - 1) (by omega) fun x hx => h2 x (List.mem_cons_of_mem _ hx)
    have h3 := h2 r List.mem_cons_self
    have h4 : a * b = (a - 1) * b + b := by
      have : a = (a - 1) + 1 := by omega
      conv => lhs; rw [this]
      rw [Nat.add_mul, Nat.one_mul]
    omega
theorem flatMap_id' (rows : List (List Int)) : rows.flatMap (fun r => r) = rows.flatten := by
  induction rows with
  | nil => rfl
  | cons a b ih => rw [List.flatMap_cons, List.flatten_cons, ih]
theorem flatMap_int (rows : List (List Int)) : (rows.flatMap fun r => r.map D.int) = rows.flatten.map D.int := by
  induction rows with
  | nil => rfl
  | cons a b ih => rw [List.flatMap_cons, List.flatten_cons, List.map_append, ih]

theorem zipD_int (a c : List Int) : zipD (a.map .int) (c.map .int) = (a.zip c).map fun p => D.tup [.int p.1, .int p.2] := by
  unfold zipD
  rw [List.zip_map, List.map_map]
  rfl

theorem cols_len (rows : List (List Int)) : (cols rows).length = wid rows := by simp [cols]
theorem mem_cols {rows : List (List Int)} {c : List Int} (h : c ∈ cols rows) : ∃ y, y < wid rows ∧ c = rows.map fun r => r.getD y 0 := by
  obtain ⟨y, hy, rfl⟩ := List.mem_map.mp h
  exact ⟨y, List.mem_range.mp hy, rfl⟩
theorem cols_mem {rows : List (List Int)} {c : List Int} {x : Int} (hl : ∀ r ∈ rows, r.length = wid rows) (h : c ∈ cols rows) (hx : x ∈ c) : ∃ r ∈ rows, x ∈ r := by
  obtain ⟨y, hy, rfl⟩ := mem_cols h
  obtain ⟨r, hr, rfl⟩ := List.mem_map.mp hx
  refine ⟨r, hr, ?_⟩
  rw [List.getD_eq_getElem?_getD, List.getElem?_eq_getElem (by rw [hl r hr]; exact hy)]
  exact List.getElem_mem _
theorem cols_sm {rows : List (List Int)} {d : Int} {a b n : Nat} (h : RowsOk rows d a b) (hd : Sm n d) {c : List Int} (hc : c ∈ cols rows) {x : Int} (hx : x ∈ c) : Sm n x := by
  obtain ⟨r, hr, hxr⟩ := cols_mem h.len hc hx
  exact h.sm hd hr hxr

theorem enumD_int (ns : List Int) : enumD (ns.map .int) = (List.range ns.length).map fun i => D.tup [.int (i : Nat), .int (ns.getD i 0)] := by
  unfold enumD
  rw [List.length_map]
  refine List.map_congr_left fun i hi => ?_
  have hi := List.mem_range.mp hi
  rw [List.getD_eq_getElem?_getD, List.getElem?_map, List.getElem?_eq_getElem hi, List.getD_eq_getElem?_getD, List.getElem?_eq_getElem hi]
  rfl
theorem sum_nn : ∀ {l : List Int}, (∀ y ∈ l, 0 ≤ y) → 0 ≤ l.sum
  | [], _ => Int.le_refl 0
  | a :: l, h => by
    rw [List.sum_cons]
    have h1 := h a List.mem_cons_self
    have h2 := sum_nn (l := l) fun y hy => h y (List.mem_cons_of_mem _ hy)
    omega
theorem getD_nn {l : List Int} (h : ∀ y ∈ l, 0 ≤ y) (i : Nat) : 0 ≤ l.getD i 0 := by
  rw [List.getD_eq_getElem?_getD]
  cases e : l[i]? with
  | none => exact Int.le_refl 0
  | some x => exact h x (List.mem_of_getElem? e)
theorem getD_nil_nn {m : List (List Int)} (h : ∀ r ∈ m, ∀ x ∈ r, 0 ≤ x) (i : Nat) : ∀ x ∈ m.getD i [], 0 ≤ x := by
  rw [List.getD_eq_getElem?_getD]
  cases e : m[i]? with
  | none => intro x hx; simp at hx
  | some r => exact h r (List.mem_of_getElem? e)
theorem prodAt_nn {r : List Int} {m : List (List Int)} (h1 : ∀ y ∈ r, 0 ≤ y) (h2 : ∀ r ∈ m, ∀ x ∈ r, 0 ≤ x) (z : Nat) : 0 ≤ prodAt r m z := by
  unfold prodAt
  refine sum_nn fun y hy => ?_
  obtain ⟨k, hk, rfl⟩ := List.mem_map.mp hy
  exact Int.mul_nonneg (getD_nn h1 k) (getD_nn (getD_nil_nn h2 k) z)
theorem getD_mem {l : List Int} {i : Nat} (h : i < l.length) : l.getD i 0 ∈ l := by
  rw [List.getD_eq_getElem?_getD, List.getElem?_eq_getElem h]
  exact List.getElem_mem _
end J

set_option Elab.async false
set_option linter.all false
set_option maxRecDepth 100000
set_option maxHeartbeats 4000000
/-! J9: dicts whose keys are tuples of ints; tuple * int. -/
namespace J
open PySem PySem.Spec L2 RZ

def lookK (kvs : List (List Int × D)) (k : List Int) : Option D := (kvs.find? fun kv => decide (kv.1 = k)).map (·.2)
def putD (kvs : List (List Int × D)) (k : List Int) (d : D) : List (List Int × D) :=
  if (kvs.any fun kv => decide (kv.1 = k)) = true then kvs.map (fun kv => if kv.1 = k then (kv.1, d) else kv) else kvs ++ [(k, d)]
theorem inl_inj : ∀ {a b : List Int}, a.map (Sum.inl : Int → Key) = b.map Sum.inl → a = b
  | [], [], _ => rfl
  | [], _ :: _, h => by simp at h
  | _ :: _, [], h => by simp at h
  | x :: a, y :: b, h => by
    rw [List.map_cons, List.map_cons] at h
    injection h with h1 h2
    rw [Sum.inl.inj h1, inl_inj h2]
theorem inl_kV (k : List Int) : (k.map (Sum.inl : Int → Key)).map kV = k.map V.int := by
  rw [List.map_map]; rfl
section
variable {K : PySem.W.Frag} {H : Hp}
theorem DK.len : ∀ {kvs : List (List Int × D)} {us : List (List Key × V)}, DK K H kvs us → kvs.length = us.length
  | _, _, .nil => rfl
  | _, _, .cons _ hs => by rw [List.length_cons, List.length_cons, hs.len]
theorem DK.keys : ∀ {kvs : List (List Int × D)} {us : List (List Key × V)}, DK K H kvs us → us.map (·.1) = (kvs.map (·.1)).map (·.map Sum.inl)
  | _, _, .nil => rfl
  | _, _, .cons _ hs => by rw [List.map_cons, List.map_cons, List.map_cons, hs.keys]
theorem DK.look {k : List Int} : ∀ {kvs : List (List Int × D)} {us : List (List Key × V)}, DK K H kvs us → (lookK kvs k = none ∧ valV us (k.map Sum.inl) = none) ∨ ∃ d v, lookK kvs k = some d ∧ valV us (k.map Sum.inl) = some v ∧ Den K H d v
  | _, _, .nil => .inl ⟨rfl, rfl⟩
  | _, _, .cons (k := k') (d := d) (v := v) (kvs := kvs) (us := us) h hs => by
    by_cases e : k' = k
    · subst e
      exact .inr ⟨d, v, by simp [lookK], valV_pos rfl, h⟩
    · have e' : ¬ k'.map (Sum.inl : Int → Key) = k.map Sum.inl := fun z => e (inl_inj z)
      have h1 : lookK ((k', d) :: kvs) k = lookK kvs k := by simp [lookK, List.find?_cons, e]
      have h2 : valV ((k'.map (Sum.inl : Int → Key), v) :: us) (k.map Sum.inl) = valV us (k.map Sum.inl) := valV_neg e'
      rw [h1, h2]
      exact DK.look hs
theorem DK.anyEq {k : List Int} : ∀ {kvs : List (List Int × D)} {us : List (List Key × V)}, DK K H kvs us → (kvs.any fun kv => decide (kv.1 = k)) = us.any fun kv => decide (kv.1 = k.map Sum.inl)
  | _, _, .nil => rfl
  | _, _, .cons (k := k') h hs => by
    rw [List.any_cons, List.any_cons, DK.anyEq hs]
    congr 1
    by_cases e : k' = k
    · subst e; simp
    · have e' : ¬ k'.map (Sum.inl : Int → Key) = k.map Sum.inl := fun z => e (inl_inj z)
      simp [e, e']
theorem DK.mapPut {k : List Int} {d : D} {v : V} (hv : Den K H d v) : ∀ {kvs : List (List Int × D)} {us : List (List Key × V)}, DK K H kvs us →
    DK K H (kvs.map (fun kv => if kv.1 = k then (kv.1, d) else kv)) (us.map (fun kv => if kv.1 = k.map Sum.inl then (kv.1, v) else kv))
  | _, _, .nil => .nil
  | _, _, .cons (k := k') h hs => by
    rw [List.map_cons, List.map_cons]
    by_cases e : k' = k
    · subst e
      rw [if_pos rfl, if_pos rfl]
      exact .cons hv (DK.mapPut hv hs)
    · have e' : ¬ k'.map (Sum.inl : Int → Key) = k.map Sum.inl := fun z => e (inl_inj z)
      rw [if_neg e, if_neg e']
      exact .cons h (DK.mapPut hv hs)
theorem DK.app : ∀ {kvs kvs' : List (List Int × D)} {us us' : List (List Key × V)}, DK K H kvs us → DK K H kvs' us' → DK K H (kvs ++ kvs') (us ++ us')
  | _, _, _, _, .nil, h => h
  | _, _, _, _, .cons h hs, h' => .cons h (hs.app h')
theorem DK.put {k : List Int} {d : D} {v : V} {kvs : List (List Int × D)} {us : List (List Key × V)} (h : DK K H kvs us) (hv : Den K H d v) : DK K H (putD kvs k d) (putK us (k.map Sum.inl) v) := by
  unfold putD putK
  rw [h.anyEq]
  split
  · exact DK.mapPut hv h
  · exact h.app (.cons hv .nil)
end
section
variable {T : Type} {X : Cx} {R : Rg T} {pos : Pos}
/-! x = {} -/
def wDctNew (i : Nat) : WS T := fun ρ Φ => Φ.nx (ρ.set i (.dct []))
theorem EnvOk.setDct {t : T} {H : Hp} {σ : L2.St} {ρ : Env} (ok : EnvOk R t H σ ρ) (i : Nat) {p : Addr} {us : List (List Key × V)} {kvs : List (List Int × D)} (e : H p = some (.dT us)) (hD : DK R.K H kvs us) (n0 : R.H0 p = none) (nv : ¬ R.Vol t p)
    (hne : ∀ (j : Nat) (es : List (List Int × D)), ρ[j]? = some (.dct es) → j ≠ i → σ[j]? ≠ some (some (.ref p))) : EnvOk R t H (σ.set i (some (.ref p))) (ρ.set i (.dct kvs)) := by
  have key : ∀ {j : Nat} {x : Sl}, (ρ.set i (.dct kvs))[j]? = some x → (i = j ∧ x = .dct kvs ∧ i < ρ.length) ∨ (i ≠ j ∧ ρ[j]? = some x) := fun {j x} h => by
    by_cases hij : i = j
    · subst hij
      by_cases hl : i < ρ.length
      · rw [List.getElem?_set_self hl] at h; cases h
        exact .inl ⟨rfl, rfl, hl⟩
      · rw [List.getElem?_eq_none (by rw [List.length_set]; omega)] at h; cases h
    · rw [List.getElem?_set_ne hij] at h
      exact .inr ⟨hij, h⟩
  refine ⟨ok.gd, ok.st, by rw [List.length_set, List.length_set]; exact ok.len, fun j d hj => ?_, fun j ls hj => ?_, fun j k ls es q h1 h2 h3 h4 => ?_, fun j ls hj => ?_, fun j k ls es q h1 h2 h3 h4 => ?_⟩
  · rcases key hj with ⟨_, z, _⟩ | ⟨hij, h⟩
    · cases z
    · rw [List.getElem?_set_ne hij]; exact ok.val j d h
  · rcases key hj with ⟨_, z, _⟩ | ⟨hij, h⟩
    · cases z
    · rw [List.getElem?_set_ne hij]; exact ok.own j ls h
  · rcases key h1 with ⟨_, z, _⟩ | ⟨hij, h1⟩
    · cases z
    · rcases key h2 with ⟨_, z, _⟩ | ⟨hik, h2⟩
      · cases z
      · rw [List.getElem?_set_ne hij] at h3
        rw [List.getElem?_set_ne hik] at h4
        exact ok.inj j k ls es q h1 h2 h3 h4
  · rcases key hj with ⟨rfl, z, hl⟩ | ⟨hij, h⟩
    · cases z
      exact ⟨p, us, by rw [List.getElem?_set_self (by rw [← ok.len]; exact hl)], e, hD, n0, nv⟩
    · rw [List.getElem?_set_ne hij]; exact ok.dct j ls h
  · rcases key h1 with ⟨rfl, _, hl⟩ | ⟨hij, h1⟩
    · rcases key h2 with ⟨rfl, _, _⟩ | ⟨hik, h2⟩
      · rfl
      · rw [List.getElem?_set_self (by rw [← ok.len]; exact hl)] at h3
        cases h3
        rw [List.getElem?_set_ne hik] at h4
        exact absurd h4 (hne k es h2 (Ne.symm hik))
    · rcases key h2 with ⟨rfl, _, hl⟩ | ⟨hik, h2⟩
      · rw [List.getElem?_set_self (by rw [← ok.len]; exact hl)] at h4
        cases h4
        rw [List.getElem?_set_ne hij] at h3
        exact absurd h3 (hne j ls h1 (Ne.symm hij))
      · rw [List.getElem?_set_ne hij] at h3
        rw [List.getElem?_set_ne hik] at h4
        exact ok.injd j k ls es q h1 h2 h3 h4
theorem S_dctNew {i : Nat} {st : Stmt} (h : PS X st (tAsg tDNewT (gName i))) : PS X st (S R (wDctNew i)) := PS_imp h fun D σ H ⟨ρ, t, Φ, ok, q, f⟩ => by
  intro p n
  have g : R.Go t H t (upd H p (.dT [])) := .new ok.gd n
  obtain ⟨n0, _⟩ := ok.fresh n
  refine f.nx _ _ _ t (g.ext ok.gd) ((ok.go g).setDct i upd_same .nil n0 (not_vol ok.gd n) fun j es h _ z => ?_) q
  obtain ⟨p', us, h1, h2, _⟩ := ok.dct j es h
  rw [z] at h1; cases h1
  rw [n] at h2; cases h2
theorem EnvOk.writeD {t : T} {H : Hp} {σ : L2.St} {ρ : Env} (ok : EnvOk R t H σ ρ) {i : Nat} {ds es : List (List Int × D)} {p : Addr} {us : List (List Key × V)} (h : ρ[i]? = some (.dct ds)) (h1 : σ[i]? = some (some (.ref p))) (hD : DK R.K H es us) :
    Ext H (upd H p (.dT us)) ∧ EnvOk R t (upd H p (.dT us)) σ (ρ.set i (.dct es)) := by
  obtain ⟨p', vs', h1', h2, h3, h4, hv⟩ := ok.dct i ds h
  rw [h1] at h1'; cases h1'
  have x : Ext H (upd H p (.dT us)) := ⟨fun a ys q => by rw [upd_ne (fun z => by rw [z, h2] at q; cases q)]; exact q, fun a ob u q => by rw [upd_ne (fun z => by rw [z, h2] at q; cases q)]; exact q⟩
  have hl : i < ρ.length := (List.getElem?_eq_some_iff.mp h).1
  have key : ∀ {j : Nat} {y : Sl}, (ρ.set i (.dct es))[j]? = some y → (i = j ∧ y = .dct es) ∨ (i ≠ j ∧ ρ[j]? = some y) := fun {j y} h => by
    by_cases hij : i = j
    · subst hij
      rw [List.getElem?_set_self hl] at h; cases h
      exact .inl ⟨rfl, rfl⟩
    · rw [List.getElem?_set_ne hij] at h
      exact .inr ⟨hij, h⟩
  refine ⟨x, R.dep t H _ ok.gd x fun a v => by rw [upd_ne (fun z => hv (by rw [← z]; exact v))], ⟨fun a u q nv => ?_, ok.st.up, ok.st.dn⟩, by rw [List.length_set]; exact ok.len, fun j d hj => ?_, fun j ls hj => ?_, fun j k ls fs q a1 a2 a3 a4 => ?_, fun j ls hj => ?_, fun j k ls fs q a1 a2 a3 a4 => ?_⟩
  · rw [upd_ne (fun z => by rw [z, h4] at q; cases q)]
    exact ok.st.st a u q nv
  · rcases key hj with ⟨_, z⟩ | ⟨_, h⟩
    · cases z
    · obtain ⟨v, b1, b2⟩ := ok.val j d h
      exact ⟨v, b1, b2.ext x⟩
  · rcases key hj with ⟨_, z⟩ | ⟨_, h'⟩
    · cases z
    · obtain ⟨q, ws, b1, b2, b3, b4, b5⟩ := ok.own j ls h'
      refine ⟨q, ws, b1, ?_, b3.ext x, b4, b5⟩
      rw [upd_ne (fun z => by rw [z, h2] at b2; cases b2)]
      exact b2
  · rcases key a1 with ⟨_, z⟩ | ⟨_, a1⟩
    · cases z
    · rcases key a2 with ⟨_, z⟩ | ⟨_, a2⟩
      · cases z
      · exact ok.inj j k ls fs q a1 a2 a3 a4
  · rcases key hj with ⟨rfl, z⟩ | ⟨hij, h'⟩
    · cases z
      exact ⟨p, us, h1, upd_same, hD.ext x, h4, hv⟩
    · obtain ⟨q, ws, b1, b2, b3, b4, b5⟩ := ok.dct j ls h'
      refine ⟨q, ws, b1, ?_, b3.ext x, b4, b5⟩
      rw [upd_ne (fun z => hij (ok.injd i j ds ls p h h' h1 (by rw [← z]; exact b1)))]
      exact b2
  · have conv : ∀ {j : Nat} {ls : List (List Int × D)}, (ρ.set i (.dct es))[j]? = some (.dct ls) → ∃ ls', ρ[j]? = some (.dct ls') := fun {j ls} hj => by
      rcases key hj with ⟨rfl, _⟩ | ⟨_, h'⟩
      · exact ⟨_, h⟩
      · exact ⟨_, h'⟩
    obtain ⟨_, b1⟩ := conv a1
    obtain ⟨_, b2⟩ := conv a2
    exact ok.injd j k _ _ q b1 b2 a3 a4
theorem Den.keyT {K : PySem.W.Frag} {H : Hp} {k : List Int} {v : V} (h : Den K H (.tup (k.map .int)) v) : ∃ b, v = .ref b ∧ H b = some (.tup ((k.map (Sum.inl : Int → Key)).map kV)) := by
  cases h with
  | tup ht hs => rw [hs.ints] at ht; exact ⟨_, rfl, by rw [inl_kV]; exact ht⟩
/-! x.get(k, d), x[k], x[k] = e, sorted(x) -/
def wDctGet (i : Nat) (wk wd : W T) : W T := fun ρ Φ t => ∃ kvs, ρ[i]? = some (.dct kvs) ∧ wk ρ (fun kd t => ∃ k, kd = dI k ∧ wd ρ (fun d => Φ ((lookK kvs k).getD d)) t) t
theorem E_dctGet {i : Nat} {a : Expr} {wk wd : W T} (h : PE X a (tDGet2 (tVar i) (E R wk) (E R wd))) : PE X a (E R (wDctGet i wk wd)) := PE_imp h fun σ H Q ⟨ρ, t, Φ, ok, ⟨kvs, e, q⟩, kk⟩ => by
  obtain ⟨p, us, h1, h2, h3, h4, _⟩ := ok.dct i kvs e
  refine ⟨_, h1, p, rfl, .inr ⟨us, .inl h2⟩, ρ, _, _, ok, q, fun H1 t1 y kd g1 hk ⟨k, ek, q1⟩ => ?_⟩
  subst ek
  refine ⟨ρ, _, _, ok.go g1, q1, fun H2 t2 z d g2 hd q2 => ?_⟩
  have g := g1.trans g2
  have ok2 := ok.go g
  obtain ⟨p', us', h1', h2', h3', _⟩ := ok2.dct i kvs e
  rw [h1] at h1'; cases h1'
  obtain ⟨b, rfl, hb⟩ := (hk.ext (g2.ext g1.gd)).keyT
  refine ⟨_, DGet.t h2' hb, ?_⟩
  rcases h3'.look (k := k) with ⟨a1, a2⟩ | ⟨d', v', a1, a2, a3⟩
  · rw [a2]
    rw [a1] at q2
    exact kk H2 _ z d g hd q2
  · rw [a2]
    rw [a1] at q2
    exact kk H2 _ v' d' g a3 q2
def wDctIx (i : Nat) (wk : W T) : W T := fun ρ Φ t => ∃ kvs, ρ[i]? = some (.dct kvs) ∧ wk ρ (fun kd t => ∃ k d, kd = dI k ∧ lookK kvs k = some d ∧ Φ d t) t
theorem E_dctIx {i : Nat} {a : Expr} {wk : W T} (h : PE X a (tDGet (tVar i) (E R wk))) : PE X a (E R (wDctIx i wk)) := PE_imp h fun σ H Q ⟨ρ, t, Φ, ok, ⟨kvs, e, q⟩, kk⟩ => by
  obtain ⟨p, us, h1, h2, h3, h4, _⟩ := ok.dct i kvs e
  refine ⟨_, h1, ρ, _, _, ok, q, fun H1 t1 y kd g1 hk ⟨k, d, ek, hl, q1⟩ => ?_⟩
  subst ek
  have ok2 := ok.go g1
  obtain ⟨p', us', h1', h2', h3', _⟩ := ok2.dct i kvs e
  rw [h1] at h1'; cases h1'
  obtain ⟨b, rfl, hb⟩ := hk.keyT
  rcases h3'.look (k := k) with ⟨a1, a2⟩ | ⟨d', v', a1, a2, a3⟩
  · rw [a1] at hl; cases hl
  · rw [a1] at hl; cases hl
    exact ⟨p, v', rfl, by rw [← a2]; exact DGet.t h2' hb, kk H1 _ v' d g1 a3 q1⟩
def wDctPut (i : Nat) (wk we : W T) : WS T := fun ρ Φ t => ∃ kvs, ρ[i]? = some (.dct kvs) ∧ we ρ (fun d => wk ρ fun kd t => ∃ k, kd = dI k ∧ kvs.length < sizeLine ∧ Φ.nx (ρ.set i (.dct (putD kvs k d))) t) t
theorem S_dctPut {i : Nat} {st : Stmt} {wk we : W T} (h : PS X st (sDPut (tVar i) (E R wk) (E R we))) : PS X st (S R (wDctPut i wk we)) := PS_imp h fun D σ H ⟨ρ, t, Φ, ok, ⟨kvs, e, q⟩, f⟩ => by
  refine ⟨ρ, _, _, ok, q, fun H1 t1 v d g1 hd q1 => ?_⟩
  have ok1 := ok.go g1
  obtain ⟨p, us, h1, h2, h3, h4, _⟩ := ok1.dct i kvs e
  refine ⟨_, h1, ρ, _, _, ok1, q1, fun H2 t2 y kd g2 hk ⟨k, ek, hl, q2⟩ => ?_⟩
  subst ek
  have ok2 := ok1.go g2
  obtain ⟨p', us', h1', h2', h3', _⟩ := ok2.dct i kvs e
  rw [h1] at h1'; cases h1'
  obtain ⟨b, rfl, hb⟩ := hk.keyT
  obtain ⟨x, ok3⟩ := ok2.writeD (es := putD kvs k d) e h1 (h3'.put (k := k) (hd.ext (g2.ext g1.gd)))
  exact ⟨p, _, rfl, DPut.t h2' hb (by rw [← h3'.len]; exact hl), f.nx σ _ _ t2 (((g1.trans g2).ext ok.gd).trans x) ok3 q2⟩
end
end J

set_option Elab.async false
set_option linter.all false
set_option maxRecDepth 100000
set_option maxHeartbeats 4000000
/-! J10: tuple * int from 1 on; sorted(d) of a dict whose keys are tuples of ints. -/
namespace J
open PySem PySem.Spec L2 PyProof.Rows
theorem tuple_mul1 (l : Addr) (items : Array Value) (n : Nat) (dd : Option Addr) (sl : Array (Option Value)) (u : Tok) :
    Meets (Builtin.«tuple.__mul__» ⟨[.ref l, .int 1 u], []⟩) (fun _ R s => s.heap.get? l = some { cls := .type "tuple", dict := dd, data := .seq items n, slots := sl } ∧
      R (.ok (.ret (Value.ref l))) s) :=
  .of_wp fun prog w A R s h => by
    obtain ⟨hp, g, d, tk, os⟩ := s
    obtain ⟨hl, h⟩ := h
    have f1 := AutoSeq1.idx_int
    have c0 : (decide ((1 : Int) < -(2 ^ 63)) || decide ((1 : Int) ≥ 2 ^ 63)) = false := by decide
    have c1 : (items.isEmpty || (1 : Int) == 1) = true := by simp
    wp_walk using wpAny_loadPart' hl
    repeat (first
      | (refine wpAny_ite_false (decide_eq_false (by rw [c0]; exact Bool.false_ne_true)) ?_; wp_walk using wpAny_loadPart' hl)
      | (refine wpAny_ite_true (decide_eq_true (by rw [c1])) ?_; wp_walk using wpAny_loadPart' hl))
    exact ⟨_, rfl, h⟩
section
variable {T : Type} {X : Cx} {R : Rg T}
theorem op_rep1 : OpR X (binaryOp .Mult) (fun x y H Q => ∃ l xs, x = .ref l ∧ y = .int 1 ∧ SqT X.K H l xs ∧ Q (.ref l) H) := by
  intro pins s σ H x y v u Q I rx ry h
  obtain ⟨l, xs, rfl, rfl, hT, q⟩ := h
  cases rx
  obtain ⟨t, rfl⟩ := ry
  obtain ⟨its, r, ⟨⟨cls, dd, data, sl⟩, ho, hc, n, hd⟩, hs⟩ := I.tuple hT
  simp only at hc hd
  subst hc hd
  refine wpAny_binaryOp_repeat_ref (T := "tuple") (U := "int") (by decide) ⟨_, ho, rfl⟩ (fun s' => typeIs_int s' 1 t) noFill_tuple_mul F.fills_int_mul F.slot_int_rmul repeat_tuple F.slot_int_index.lookup
    (call_meets F.slot_int_rmul (typeIs_int s 1 t) F.entry_int_rmul (F.args_int_rmul_2 _ _) (int_rmul_tuple 1 t l its.toArray n dd sl)
      ⟨ho, rfl, ⟨_, ho, rfl⟩, call_meets F.slot_tuple_mul ⟨_, ho, rfl⟩ F.entry_tuple_mul (F.args_tuple_mul_2 _ _) (tuple_mul1 l its.toArray n dd sl t) ⟨ho, ?_⟩⟩)
  exact ⟨.ref l, H, I, rfl, q⟩
def fRepT (d e : D) (Φ : D → Prop) : Prop := ∃ xs k, d = .tup xs ∧ e = .int k ∧ xs ≠ [] ∧ 1 ≤ k ∧ k ≤ 1000 ∧ xs.length ≤ 1000 ∧ Φ (.tup (List.replicate k.toNat xs).flatten)
theorem op_repA : OpR X (binaryOp .Mult) (fun x y H Q => (∃ l xs, x = .ref l ∧ y = .int 1 ∧ SqT X.K H l xs ∧ Q (.ref l) H) ∨ rRepT X.K x y H Q) := op_rep1.or op_repT
theorem opd_repT (hK : X.K = R.K := by rfl) : Op2 R (fun x y H Q => (∃ l xs, x = .ref l ∧ y = .int 1 ∧ SqT X.K H l xs ∧ Q (.ref l) H) ∨ rRepT X.K x y H Q) fRepT := fun t H x y dx dy Φ Q gd hx hy ⟨xs, k, e1, e2, hne, h1, h2, hl, q⟩ kk => by
  subst e1 e2
  rw [hK]
  cases hy
  cases hx with
  | @tup a vs _ ht hs =>
    by_cases hk : k = 1
    · subst hk
      refine .inl ⟨a, vs, rfl, rfl, .inl (.inl ht), kk H _ (.tup xs) (.refl gd) (.tup ht hs) ?_⟩
      simpa using q
    · refine .inr ⟨a, k, vs, rfl, rfl, .inl (.inl ht), fun e => hne (by subst e; cases hs; rfl), by omega, h2, by rw [← hs.len]; exact hl, fun p n => ?_⟩
      obtain ⟨g, h'⟩ := new_tup (R := R) gd n (hs.rep k.toNat)
      exact kk _ _ _ g h' q
/-! sorted(d) -/
def rSortDT : List V → Hp → VK → Prop := fun xs H Q => ∃ (a : Addr) (us : List (List Key × V)) (ks : List (List Int)) (d : Nat) (B : Int), xs = [.ref a] ∧ H a = some (.dT us) ∧ us.map (·.1) = ks.map (·.map Sum.inl) ∧ 1 ≤ d ∧ us.length < 64 ∧ (∀ k ∈ ks, k.length = d ∧ TS.Bd B k) ∧
  ∀ (ys : List (List Int)) (bs : List Addr) (p : Addr), ys.Perm ks → ys.Pairwise (fun n m => TS.code B n ≤ TS.code B m) → Paired (fun y b => H b = some (.tup (y.map V.int))) ys bs → H p = none → Q (.ref p) (upd H p (.lst (bs.map V.ref)))
theorem refs_paired {s : Heap} {H : Hp} : ∀ (l : List Value), (∀ v ∈ l, ∃ b, v = .ref b ∧ H b = some (.tup ((TS.intsOf s v).map V.int))) → ∃ bs : List Addr, l = bs.map Value.ref ∧ Paired (fun y b => H b = some (.tup (y.map V.int))) (l.map (TS.intsOf s)) bs
  | [], _ => ⟨[], rfl, .nil⟩
  | v :: l, h => by
    obtain ⟨b, rfl, hb⟩ := h v List.mem_cons_self
    obtain ⟨bs, e, p⟩ := refs_paired l fun u hu => h u (List.mem_cons_of_mem _ hu)
    exact ⟨b :: bs, by rw [e, List.map_cons], .cons hb p⟩
theorem cr_sortDT (hc : X.calm = true) : CallR X (.builtin "sorted") rSortDT := by
  intro pins s σ H xs us0 Q I r h
  obtain ⟨a, us, kks, d, B, rfl, ha, hks, hd1, h64, hB, q⟩ := h
  obtain ⟨u, rfl, rx⟩ := r.one
  cases rx
  obtain ⟨z, hs, ks, pr, o, es, ep, ho, hx, hdt, he, hn⟩ := (show ObjOk X.prog X.w H s.heap a (.dT us) from I.hok a _ ha)
  have l1 : es.size = ks.length := size_of_entries he
  have l2 : us.length = ks.length := Paired.length pr
  have l3 : ks.length = kks.length := by
    have := congrArg List.length hks
    rw [List.length_map, List.length_map] at this
    omega
  refine Calls.call_function_entry PyProof.Rows.kind_sorted PyProof.Rows.plain_sorted PyProof.Rows.entry_sorted (PyProof.Rows.args_sorted1 _) ?_
  unfold Builtin.«sorted»
  refine wpAny_bind (m := checkCount "sorted" 1 1 _) (wpAny_pure ?_)
  refine wpAny_bind (PySem.W.kdu_collect (A := X.A.in1) (kdl_raw hs hx hdt) (I.ok.hd hc) ho (by omega) fun h' tk acc kp it => ?_)
  have ea : acc.toList = ks.map fun x => Value.ref x.2.1 := by
    have hl : acc.toList.length = ks.length := by rw [Array.length_toList, it.1]; exact l1
    apply List.ext_getElem?
    intro j
    rw [List.getElem?_map]
    cases hj : acc.toList[j]? with
    | none =>
      have h1 := List.getElem?_eq_none_iff.mp hj
      rw [List.getElem?_eq_none (by omega)]
      all_goals rfl
    | some v =>
      obtain ⟨en, hen, hv⟩ := it.2 j v (by rw [← Array.getElem?_toList]; exact hj)
      have qe := entry_at he j
      rw [hen] at qe
      cases hb : ks[j]? with
      | none =>
        rw [hb] at qe
        exact nomatch (show some en = none from qe)
      | some b =>
        rw [hb] at qe
        have e2 : en = entryOfKey (tupleKind (mixKind X.prog X.w)) b := Option.some.inj qe
        rw [hv, e2]
        all_goals rfl
  have hkk : ks.map (·.1) = kks.map (·.map Sum.inl) := by
    rw [← hks]
    have : ∀ {us : List (List Key × V)} {ks : List (List Key × Addr × Value)}, KT H us ks → ks.map (·.1) = us.map (·.1) := by
      intro us ks r
      induction r with
      | nil => rfl
      | cons h t ih => rw [List.map_cons, List.map_cons, ih, h.1]
    exact this pr
  have hin : ∀ x ∈ ks, ∃ k ∈ kks, x.1 = k.map Sum.inl ∧ H x.2.1 = some (.tup (k.map V.int)) := by
    intro x hx
    have hm : x.1 ∈ ks.map (·.1) := List.mem_map_of_mem hx
    rw [hkk] at hm
    obtain ⟨k, hk, e⟩ := List.mem_map.mp hm
    refine ⟨k, hk, e.symm, ?_⟩
    have : ∀ {us : List (List Key × V)} {ks : List (List Key × Addr × Value)}, KT H us ks → ∀ x ∈ ks, H x.2.1 = some (.tup (x.1.map kV)) := by
      intro us ks r
      induction r with
      | nil => intro x hx; simp at hx
      | cons h t ih =>
        intro x hx
        rcases List.mem_cons.mp hx with rfl | hx
        · rw [← h.1]; exact h.2.1
        · exact ih x hx
    rw [this pr x hx, ← e, inl_kV]
  have I1 : Inv X pins σ H { s with heap := h', toks := tk } := I.kept kp
  have hal : acc.toList.length = ks.length := by rw [ea, List.length_map]
  refine wpAny_bind (wpAny_newList ?_ (by rw [hal, sizeLine_eq]; omega))
  have hoL : (h'.push (seqObj "list" acc.toList.toArray 0)).get? h'.objs.size = some (seqObj "list" acc.toList.toArray 0) := Heap.get?_push_size _ rfl
  show wpAny _ _ _ _ _ { s with heap := h'.push (seqObj "list" acc.toList.toArray 0), toks := tk }
  have I2 : Inv X pins σ H { s with heap := h'.push (seqObj "list" acc.toList.toArray 0), toks := tk } := I1.kept fun b o e => Heap.get?_push_of_some _ e
  have hti : ∀ x ∈ ks, ∃ k ∈ kks, H x.2.1 = some (.tup (k.map V.int)) ∧ TS.TupInts (h'.push (seqObj "list" acc.toList.toArray 0)) (.ref x.2.1) k ∧ x.1 = k.map Sum.inl := by
    intro x hx
    obtain ⟨k, hk, e1, e2⟩ := hin x hx
    exact ⟨k, hk, e2, tupI_raw I2 (.inl (.inl e2)), e1⟩
  have hok : TS.TupsOk (h'.push (seqObj "list" acc.toList.toArray 0)) d B acc.toList := by
    intro v hv
    rw [ea] at hv
    obtain ⟨x, hx, rfl⟩ := List.mem_map.mp hv
    obtain ⟨k, hk, _, e2, _⟩ := hti x hx
    exact ⟨k, e2, (hB k hk).1, (hB k hk).2⟩
  have hperm : acc.toList.map (TS.intsOf (h'.push (seqObj "list" acc.toList.toArray 0))) = kks := by
    have e3 : (acc.toList.map (TS.intsOf (h'.push (seqObj "list" acc.toList.toArray 0)))).map (fun k => k.map (Sum.inl : Int → Key)) = kks.map (·.map Sum.inl) := by
      rw [← hkk, ea, List.map_map, List.map_map]
      refine List.map_congr_left fun x hx => ?_
      obtain ⟨k, hk, _, e2, e1⟩ := hti x hx
      show (TS.intsOf _ (Value.ref x.2.1)).map Sum.inl = x.1
      rw [ea] at e2
      rw [e2.ints, e1]
    have inj : ∀ {a b : List (List Int)}, a.map (fun k => k.map (Sum.inl : Int → Key)) = b.map (·.map Sum.inl) → a = b := by
      intro a
      induction a with
      | nil => intro b h; cases b with
        | nil => rfl
        | cons => simp at h
      | cons x r ih =>
        intro b h
        cases b with
        | nil => simp at h
        | cons y r' =>
          rw [List.map_cons, List.map_cons] at h
          injection h with h1 h2
          rw [inl_inj h1, ih h2]
    exact inj e3
  refine wpAny_bind (wpAny_holding (wpAny_call_entry PyProof.Rows.slot_list_sort ⟨_, hoL, rfl⟩ PyProof.Rows.entry_list_sort
    (TS.sort_tups (s := { s with heap := h'.push (seqObj "list" acc.toList.toArray 0), toks := tk }) hoL (by rw [hal]; omega) hd1 hok (fun v => TS.code B (TS.intsOf (h'.push (seqObj "list" acc.toList.toArray 0)) v)) (fun v _ ns t => by
      show TS.code B (TS.intsOf _ v) = _
      rw [t.ints]) fun out g1 g2 => ⟨_, rfl, ?_⟩) (PyProof.Rows.args_list_sort _)))
  obtain ⟨e', he'⟩ := PyProof.Rows.sortedHeap_at (vs := acc.toList) (out := out) hoL
  obtain ⟨bs, eb, hp⟩ := refs_paired (s := h'.push (seqObj "list" acc.toList.toArray 0)) (H := H) out.toList fun v hv => by
    have hv := g1.mem_iff.mp hv
    rw [ea] at hv
    obtain ⟨x, hx, rfl⟩ := List.mem_map.mp hv
    obtain ⟨k, hk, e1, e2, _⟩ := hti x hx
    exact ⟨_, rfl, by rw [e2.ints]; exact e1⟩
  have hlen : (bs.map V.ref).length ≤ sizeLine := by
    have := g1.length_eq
    rw [eb, List.length_map] at this
    rw [List.length_map, this, hal]; omega
  refine wpAny_pure ⟨_, rfl, .ref h'.objs.size, upd H h'.objs.size (.lst (bs.map V.ref)), I1.laid (t' := tk) (fun b u e => ?_) (Nat.le_refl _)
    (show ObjOk X.prog X.w _ _ _ (.lst (bs.map V.ref)) from ⟨hlen, out.toList, e', by rw [eb]; exact vals_refs _, by rw [Array.toArray_toList]; exact he'⟩), rfl, q _ bs _ (by rw [← hperm]; exact g1.map _) ?_ hp (I1.hok.fresh (Nat.le_refl _))⟩
  · have hb : b < h'.objs.size := Heap.lt_size e
    rw [PyProof.Rows.sortedHeap_old (Nat.ne_of_lt hb) (by rw [size_push']; exact Nat.lt_succ_of_lt hb)]
    exact Heap.get?_push_of_some _ e
  · rw [List.pairwise_map]
    exact g2
def wDctSorted (i : Nat) : WL T := fun ρ Φ t => ∃ kvs, ρ[i]? = some (.dct kvs) ∧ ∃ (d : Nat) (B : Int), 1 ≤ d ∧ kvs.length < 64 ∧ (∀ kv ∈ kvs, kv.1.length = d ∧ TS.Bd B kv.1) ∧
  ∀ ys : List (List Int), ys.Perm (kvs.map (·.1)) → ys.Pairwise (fun n m => TS.code B n ≤ TS.code B m) → Φ (ys.map fun y => dI y) t
theorem dens_refs {K : PySem.W.Frag} {H : Hp} {ys : List (List Int)} {bs : List Addr} (h : Paired (fun y b => H b = some (.tup (y.map V.int))) ys bs) : Dens K H (ys.map fun y => dI y) (bs.map V.ref) := by
  induction h with
  | nil => exact .nil
  | cons h t ih => exact .cons (.tup h (by
      have : ∀ l : List Int, Dens K H (l.map D.int) (l.map V.int) := fun l => by
        induction l with
        | nil => exact .nil
        | cons a b ih => exact .cons (.int a) ih
      exact this _)) ih
theorem EL_dctSorted {i : Nat} {a : Expr} (h : PE X a (tCB rSortDT (tCons (tVar i) tNil))) : PE X a (EL R (wDctSorted i)) := PE_imp h fun σ H Q ⟨ρ, t, Φ, ok, ⟨kvs, e, d, B, h1, h2, h3, q⟩, kk⟩ => by
  obtain ⟨p, us, a1, a2, a3, a4, _⟩ := ok.dct i kvs e
  refine ⟨_, a1, p, us, kvs.map (·.1), d, B, rfl, a2, a3.keys, h1, by rw [← a3.len]; exact h2, fun k hk => ?_, fun ys bs p' hy hs hp n => ?_⟩
  · obtain ⟨kv, hkv, rfl⟩ := List.mem_map.mp hk
    exact h3 kv hkv
  · obtain ⟨g, nv, D'⟩ := new_lst (R := R) ok.gd n (dens_refs (K := R.K) hp)
    exact kk _ _ _ _ _ g n upd_same nv D' (q ys hy hs)
end
theorem hu1 {k : Nat} {A : Around} (r : Room k A) : A.units + 1 < cLine := by have := r.units; omega
end J

set_option Elab.async false
set_option linter.all false
set_option maxRecDepth 100000
set_option maxHeartbeats 4000000
/-! J11: plain forms, plainly. -/
namespace J
open PySem PySem.Spec L2 RZ
abbrev KN := List (List Int × List Int)
def lookN (kvs : KN) (k : List Int) : Option (List Int) := (kvs.find? fun kv => decide (kv.1 = k)).map (·.2)
def putN (kvs : KN) (k : List Int) (d : List Int) : KN :=
  if (kvs.any fun kv => decide (kv.1 = k)) = true then kvs.map (fun kv => if kv.1 = k then (kv.1, d) else kv) else kvs ++ [(k, d)]
abbrev encK (kv : List Int × List Int) : List Int × D := (kv.1, dI kv.2)
theorem lookK_enc (k : List Int) : ∀ kvs : KN, lookK (kvs.map encK) k = (lookN kvs k).map fun v => dI v
  | [] => rfl
  | kv :: kvs => by
    have ih := lookK_enc k kvs
    unfold lookK lookN at *
    rw [List.map_cons, List.find?_cons, List.find?_cons]
    by_cases h : kv.1 = k
    · simp [h]
    · simp only [h, decide_false]
      exact ih
theorem putD_enc (k v : List Int) (kvs : KN) : putD (kvs.map encK) k (dI v) = (putN kvs k v).map encK := by
  unfold putD putN
  have e : ((kvs.map encK).any fun kv => decide (kv.1 = k)) = kvs.any fun kv => decide (kv.1 = k) := by rw [List.any_map]; rfl
  rw [e]
  split
  · rw [List.map_map, List.map_map]
    refine List.map_congr_left fun kv _ => ?_
    simp only [Function.comp]
    split <;> rfl
  · rw [List.map_append]; rfl
def addV (a b : List Int) : List Int := (a.zip b).map fun p => p.1 + p.2
def addWay (n : Nat) (kvs : KN) (c : List Int) : KN := if 0 < gcdL c then putN kvs (dirL c) (addV ((lookN kvs (dirL c)).getD (List.replicate n 0)) c) else kvs
def wayD (n : Nat) (cs : List (List Int)) : KN := cs.foldl (addWay n) []
def bigB : Int := 2 ^ 8000
def tran (n : Nat) (cs : List (List Int)) : List (List Int) := (List.range n).map fun x => cs.map fun c => c.getD x 0
def plainOut (d : Int) (n : Nat) (cs : List (List Int)) : D := dTel (d / gcdL (d :: (tran n cs).flatten)) (lowR (gcdL (d :: (tran n cs).flatten)) (tran n cs))
def plainQ (d : Int) (n : Nat) (columns : List (List Int)) (Φ : D → Prop) : Prop := ∀ ys : List (List Int), ys.Perm ((wayD n columns).map (·.1)) → ys.Pairwise (fun a b => TS.code bigB a ≤ TS.code bigB b) → Φ (plainOut d n (ys.map fun y => (lookN (wayD n columns) y).getD []))
structure ColsOk (n : Nat) (cs : List (List Int)) : Prop where
  l : cs.length ≤ 12
  n1 : 1 ≤ n
  n2 : n ≤ 6
  len : ∀ c ∈ cs, c.length = n
  nn : ∀ c ∈ cs, ∀ x ∈ c, 0 ≤ x
  sm : ∀ c ∈ cs, ∀ x ∈ c, Sm 8000 x
  ex : ∃ c ∈ cs, 0 < gcdL c
def fs_plain_of : FS := fun ds Φ => ∃ d columns n, ds = [.int d, .lst (columns.map fun c => dI c)] ∧ 0 < d ∧ d ≤ 10 ^ 30 ∧ ColsOk n columns ∧ plainQ d n columns Φ
def fs_plain_told : FS := fun ds Φ => ∃ d rows, ds = [dTel d rows] ∧ IsTel d rows ∧ plainQ d rows.length (cols rows) Φ
def fs_plain : FS := fs_plain_told
/-! ways -/
structure WayOk (n : Nat) (kvs : KN) : Prop where
  kl : ∀ kv ∈ kvs, kv.1.length = n
  vl : ∀ kv ∈ kvs, kv.2.length = n
  bd : ∀ kv ∈ kvs, TS.Bd bigB kv.1
theorem putN_mem {kvs : KN} {k v : List Int} {kv : List Int × List Int} (h : kv ∈ putN kvs k v) : kv ∈ kvs ∨ kv = (k, v) := by
  unfold putN at h
  split at h
  · obtain ⟨kv', h1, h2⟩ := List.mem_map.mp h
    split at h2
    · rename_i he; right; rw [← h2, he]
    · left; rw [← h2]; exact h1
  · rcases List.mem_append.mp h with h | h
    · exact .inl h
    · right; simpa using h
theorem putN_len {kvs : KN} {k v : List Int} : (putN kvs k v).length ≤ kvs.length + 1 := by
  unfold putN
  split
  · rw [List.length_map]; omega
  · rw [List.length_append]; simp
theorem lookN_mem {kvs : KN} {k v : List Int} (h : lookN kvs k = some v) : (k, v) ∈ kvs := by
  unfold lookN at h
  cases e : kvs.find? fun kv => decide (kv.1 = k) with
  | none => rw [e] at h; cases h
  | some kv =>
    rw [e] at h
    cases h
    have h1 := List.mem_of_find?_eq_some e
    have h2 := List.find?_some e
    have h3 : kv.1 = k := by simpa using h2
    rw [← h3]; exact h1
theorem dirL_nn {c : List Int} (h : ∀ x ∈ c, 0 ≤ x ∧ Sm 8000 x) : TS.Bd bigB (dirL c) := by
  intro m hm
  obtain ⟨x, hx, rfl⟩ := List.mem_map.mp hm
  obtain ⟨h0, h1⟩ := h x hx
  have h2 : Sm 8000 (x / gcdL c) := h1.div
  have h3 := Int.ediv_nonneg h0 (gcdL_nn c)
  refine ⟨h3, ?_⟩
  unfold Sm at h2
  unfold bigB
  have : ((x / gcdL c).natAbs : Int) < ((2 ^ 8000 : Nat) : Int) := Int.ofNat_lt.mpr h2
  rw [Int.natAbs_of_nonneg h3] at this
  rw [Int.natCast_pow] at this
  exact this
theorem addV_len {a b : List Int} {n : Nat} (h1 : a.length = n) (h2 : b.length = n) : (addV a b).length = n := by
  unfold addV; rw [List.length_map, List.length_zip, h1, h2]; omega
theorem wayOk_add {n : Nat} {kvs : KN} {c : List Int} (h : WayOk n kvs) (hl : c.length = n) (hc : ∀ x ∈ c, 0 ≤ x ∧ Sm 8000 x) : WayOk n (addWay n kvs c) := by
  unfold addWay
  split
  · have hv : ((lookN kvs (dirL c)).getD (List.replicate n 0)).length = n := by
      cases e : lookN kvs (dirL c) with
      | none => simp
      | some v => exact h.vl _ (lookN_mem e)
    refine ⟨fun kv hk => ?_, fun kv hk => ?_, fun kv hk => ?_⟩
    · rcases putN_mem hk with hk | rfl
      · exact h.kl kv hk
      · show (dirL c).length = n
        rw [dirL, List.length_map, hl]
    · rcases putN_mem hk with hk | rfl
      · exact h.vl kv hk
      · exact addV_len hv hl
    · rcases putN_mem hk with hk | rfl
      · exact h.bd kv hk
      · exact dirL_nn hc
  · exact h
theorem wayD_take {n : Nat} {cs : List (List Int)} {k : Nat} {c : List Int} (h : cs[k]? = some c) : wayD n (cs.take (k + 1)) = addWay n (wayD n (cs.take k)) c := by
  rw [take_succ_at h]
  unfold wayD
  rw [List.foldl_append]
  rfl
theorem wayD_ok {n : Nat} {cs : List (List Int)} (h : ColsOk n cs) : ∀ k, WayOk n (wayD n (cs.take k)) ∧ (wayD n (cs.take k)).length ≤ k := by
  intro k
  induction k with
  | zero => exact ⟨⟨fun _ h => by simp [wayD] at h, fun _ h => by simp [wayD] at h, fun _ h => by simp [wayD] at h⟩, by simp [wayD]⟩
  | succ k ih =>
    cases e : cs[k]? with
    | none =>
      have : cs.take (k + 1) = cs.take k := by
        have := List.getElem?_eq_none_iff.mp e
        rw [List.take_of_length_le (by omega), List.take_of_length_le (by omega)]
      rw [this]
      exact ⟨ih.1, by omega⟩
    | some c =>
      have hm := List.mem_of_getElem? e
      rw [wayD_take e]
      refine ⟨wayOk_add ih.1 (h.len c hm) fun x hx => ⟨h.nn c hm x hx, h.sm c hm x hx⟩, ?_⟩
      unfold addWay
      split
      · exact Nat.le_trans putN_len (by omega)
      · omega
theorem putN_ne {kvs : KN} {k v : List Int} : (putN kvs k v) ≠ [] := by
  unfold putN
  split
  · rename_i h
    intro e
    have := List.map_eq_nil_iff.mp e
    subst this
    simp at h
  · simp
theorem wayD_ne {n : Nat} {cs : List (List Int)} (h : ∃ c ∈ cs, 0 < gcdL c) : wayD n cs ≠ [] := by
  have key : ∀ (cs : List (List Int)) (kvs : KN), (kvs ≠ [] ∨ ∃ c ∈ cs, 0 < gcdL c) → cs.foldl (addWay n) kvs ≠ [] := by
    intro cs
    induction cs with
    | nil =>
      intro kvs h
      rcases h with h | ⟨c, h, _⟩
      · exact h
      · simp at h
    | cons c r ih =>
      intro kvs h
      refine ih (addWay n kvs c) ?_
      unfold addWay
      by_cases hc : 0 < gcdL c
      · rw [if_pos hc]; exact .inl putN_ne
      · rw [if_neg hc]
        rcases h with h | ⟨x, hx, hg⟩
        · exact .inl h
        · rcases List.mem_cons.mp hx with rfl | hx
          · exact absurd hg hc
          · exact .inr ⟨x, hx, hg⟩
  exact key cs [] (.inr h)
theorem lookN_key {kvs : KN} {k : List Int} (h : k ∈ kvs.map (·.1)) : ∃ v, lookN kvs k = some v ∧ (k, v) ∈ kvs := by
  cases e : lookN kvs k with
  | some v => exact ⟨v, rfl, lookN_mem e⟩
  | none =>
    unfold lookN at e
    rw [Option.map_eq_none_iff, List.find?_eq_none] at e
    obtain ⟨kv, h1, h2⟩ := List.mem_map.mp h
    have := e kv h1
    simp [h2] at this
theorem gcdL_zero_iff {c : List Int} (h : ¬ 0 < gcdL c) : ∀ x ∈ c, x = 0 := by
  intro x hx
  have h1 : gcdL c = 0 := by have := gcdL_nn c; omega
  have h2 := gcdL_dvd hx
  rw [h1] at h2
  exact Int.zero_dvd.mp h2
theorem tel_cols {d : Int} {rows : List (List Int)} (h : IsTel d rows) : ColsOk rows.length (cols rows) := by
  have d1 := h.d1
  refine ⟨by rw [cols_len]; exact h.ok.w2, h.ok.l1, h.ok.l2, fun c hc => ?_, fun c hc x hx => ?_, fun c hc x hx => (cols_sm h.ok (small_d h) hc hx).mono (by decide), ?_⟩
  · obtain ⟨y, hy, rfl⟩ := mem_cols hc
    rw [List.length_map]
  · obtain ⟨r, hr, hxr⟩ := cols_mem h.ok.len hc hx
    exact h.ok.nn r hr x hxr
  · -- one column is not all zero: the first row sums to d
    apply Classical.byContradiction
    intro hn
    obtain ⟨r0, rs, hr, hw⟩ := head_wid h.ok.l1
    have hr0 : r0 ∈ rows := by rw [hr]; exact List.mem_cons_self
    have hs := h.ok.sum r0 hr0
    have hz : ∀ x ∈ r0, x = 0 := by
      intro x hx
      obtain ⟨y, hy, rfl⟩ := List.mem_iff_getElem.mp hx
      have hc : (rows.map fun r => r.getD y 0) ∈ cols rows := List.mem_map.mpr ⟨y, List.mem_range.mpr (by omega), rfl⟩
      have := gcdL_zero_iff (fun z => hn ⟨_, hc, z⟩) (r0.getD y 0) (List.mem_map.mpr ⟨r0, hr0, rfl⟩)
      rw [List.getD_eq_getElem?_getD, List.getElem?_eq_getElem hy] at this
      exact this
    have : r0.sum = 0 := by
      have : ∀ l : List Int, (∀ x ∈ l, x = 0) → l.sum = 0 := by
        intro l
        induction l with
        | nil => intro _; rfl
        | cons a b ih => intro h; rw [List.sum_cons, h a List.mem_cons_self, ih fun x hx => h x (List.mem_cons_of_mem _ hx)]; rfl
      exact this r0 hz
    omega
theorem gcdL_all0 {c : List Int} (h : ∀ x ∈ c, x = 0) : gcdL c = 0 := by
  have key : ∀ (c : List Int), (∀ x ∈ c, x = 0) → c.foldl gcdI 0 = 0 := by
    intro c
    induction c with
    | nil => intro _; rfl
    | cons a b ih =>
      intro h
      rw [List.foldl_cons, h a List.mem_cons_self]
      exact ih fun x hx => h x (List.mem_cons_of_mem _ hx)
  exact key c h
theorem gcdL_sm {c : List Int} {n : Nat} (h : ∀ x ∈ c, 0 ≤ x ∧ Sm n x) (hg : 0 < gcdL c) : Sm n (gcdL c) := by
  apply Classical.byContradiction
  intro hn
  have : gcdL c = 0 := gcdL_all0 fun x hx => by
    obtain ⟨h0, h1⟩ := h x hx
    apply Classical.byContradiction
    intro hx0
    exact hn (h1.le (gcdL_nn c) (Int.le_of_dvd (by omega) (gcdL_dvd hx)))
  omega
theorem tran_len (n : Nat) (cs : List (List Int)) : (tran n cs).length = n := by rw [tran, List.length_map, List.length_range]
theorem tran_row {n : Nat} {cs : List (List Int)} {r : List Int} (h : r ∈ tran n cs) : r.length = cs.length := by
  obtain ⟨x, _, rfl⟩ := List.mem_map.mp h
  rw [List.length_map]
theorem tran_wid {n : Nat} {cs : List (List Int)} (h : 1 ≤ n) : wid (tran n cs) = cs.length := by
  obtain ⟨r, rs, hr, hw⟩ := head_wid (rows := tran n cs) (by rw [tran_len]; exact h)
  rw [hw]
  exact tran_row (by rw [hr]; exact List.mem_cons_self)
theorem rep_flat (k : Nat) (d : D) : (List.replicate k [d]).flatten = List.replicate k d := by
  induction k with
  | zero => rfl
  | succ k ih => rw [List.replicate_succ, List.flatten_cons, ih, List.replicate_succ]; rfl
end J

set_option Elab.async false
set_option linter.all false
set_option maxRecDepth 100000
set_option maxHeartbeats 4000000
/-! J12: the draw of a law, as a regime. -/
namespace J
open PySem PySem.Spec L2 RZ
structure DS where
  large : List Int
  cells : List Int
  rest : Int
  turn : Int
def drKV (t : DS) (l c : Addr) : List (Key × V) := [(.inr "large", .ref l), (.inr "cells", .ref c), (.inr "rest", .int t.rest), (.inr "turn", .int t.turn)]
structure DrawAt (K : PySem.W.Frag) (d l c : Addr) (t : DS) (H : Hp) : Prop where
  dct : H d = some (.dK (drKV t l c))
  lrg : H l = some (.lst (t.large.map V.int))
  cel : LF K H c (t.cells.map V.int)
def drawR (K : PySem.W.Frag) (H0 : Hp) (d l c : Addr) (t0 : DS) : Rg DS where
  K := K
  H0 := H0
  t0 := t0
  Vol := fun _ a => a = d ∨ a = l
  Gd := fun t H => DrawAt K d l c t H
  kind := fun t H a g v => by
    rcases v with rfl | rfl
    · exact ⟨_, g.dct, trivial⟩
    · exact ⟨_, g.lrg, trivial⟩
  dep := fun t H H' g x h => ⟨by rw [h d (.inl rfl)]; exact g.dct, by rw [h l (.inr rfl)]; exact g.lrg, x.lf g.cel⟩
theorem k_ne1 : ((.inr "large" : Key) = .inr "cells") = False := eq_false (by decide)
theorem k_ne2 : ((.inr "large" : Key) = .inr "rest") = False := eq_false (by decide)
theorem k_ne3 : ((.inr "large" : Key) = .inr "turn") = False := eq_false (by decide)
theorem k_ne4 : ((.inr "cells" : Key) = .inr "rest") = False := eq_false (by decide)
theorem k_ne5 : ((.inr "cells" : Key) = .inr "turn") = False := eq_false (by decide)
theorem k_ne6 : ((.inr "rest" : Key) = .inr "turn") = False := eq_false (by decide)
theorem k_ne7 : ((.inr "turn" : Key) = .inr "rest") = False := eq_false (by decide)
theorem dr_large (t : DS) (l c : Addr) : valV (drKV t l c) (.inr "large") = some (.ref l) := by simp [valV, drKV]
theorem dr_cells (t : DS) (l c : Addr) : valV (drKV t l c) (.inr "cells") = some (.ref c) := by simp only [valV, drKV, List.find?_cons, k_ne1, decide_false, decide_true, Option.map_some]
theorem dr_rest (t : DS) (l c : Addr) : valV (drKV t l c) (.inr "rest") = some (.int t.rest) := by simp only [valV, drKV, List.find?_cons, k_ne2, k_ne4, decide_false, decide_true, Option.map_some]
theorem dr_turn (t : DS) (l c : Addr) : valV (drKV t l c) (.inr "turn") = some (.int t.turn) := by simp only [valV, drKV, List.find?_cons, k_ne3, k_ne5, k_ne6, decide_false, decide_true, Option.map_some]
theorem dr_putR (t : DS) (l c : Addr) (n : Int) : putK (drKV t l c) (.inr "rest") (.int n) = drKV { t with rest := n } l c := by
  simp only [putK, drKV, List.any_cons, List.map_cons, List.map_nil, k_ne2, k_ne4, k_ne7, decide_false, decide_true, Bool.true_or, Bool.or_true, if_true, if_false]
theorem dr_putT (t : DS) (l c : Addr) (n : Int) : putK (drKV t l c) (.inr "turn") (.int n) = drKV { t with turn := n } l c := by
  simp only [putK, drKV, List.any_cons, List.map_cons, List.map_nil, k_ne3, k_ne5, k_ne6, decide_false, decide_true, Bool.true_or, Bool.or_true, if_true, if_false]
section
variable {X : Cx} {K : PySem.W.Frag} {H0 : Hp} {d l c : Addr} {t0 : DS} {i : Nat} {a : Expr} {st : Stmt} {we : W DS}
theorem dr_get {t : DS} {H : Hp} (g : DrawAt K d l c t H) {k : Str} {v : V} (e : valV (drKV t l c) (.inr k) = some v) : DGet H d (.str k) (some v) := by
  rw [← e]; exact DGet.k (k := .inr k) g.dct
theorem DrawAt.ne {t : DS} {H : Hp} (g : DrawAt K d l c t H) : l ≠ d ∧ c ≠ d ∧ c ≠ l := by
  obtain ⟨o, hc⟩ := g.cel
  refine ⟨fun z => ?_, fun z => ?_, fun z => ?_⟩
  · have := g.lrg; rw [z, g.dct] at this; cases this
  · rw [z, g.dct] at hc; cases hc
  · rw [z, g.lrg] at hc; cases hc
/-- a slot holds the draw -/
def drIs (d : Addr) (i : Nat) (ρ : Env) : Prop := ρ[i]? = some (.val (.hdl d))
theorem drIs_ref {R : Rg DS} {t : DS} {H : Hp} {σ : L2.St} {ρ : Env} (ok : EnvOk R t H σ ρ) (h : drIs d i ρ) : σ[i]? = some (some (.ref d)) := by
  obtain ⟨v, h1, h2⟩ := ok.val i _ h
  cases h2
  exact h1
def wDrTurn (d : Addr) (i : Nat) : W DS := fun ρ Φ t => drIs d i ρ ∧ Φ (.int t.turn) t
theorem E_drTurn (h : PE X a (tDGet (tVar i) (tC (.str "turn")))) : PE X a (E (drawR K H0 d l c t0) (wDrTurn d i)) := PE_imp h fun σ H Q ⟨ρ, t, Φ, ok, ⟨e, q⟩, k⟩ =>
  ⟨_, drIs_ref ok e, d, _, rfl, dr_get ok.gd (dr_turn t l c), k H t _ _ (.refl ok.gd) (.int _) q⟩
def wDrRest (d : Addr) (i : Nat) : W DS := fun ρ Φ t => drIs d i ρ ∧ Φ (.int t.rest) t
theorem E_drRest (h : PE X a (tDGet (tVar i) (tC (.str "rest")))) : PE X a (E (drawR K H0 d l c t0) (wDrRest d i)) := PE_imp h fun σ H Q ⟨ρ, t, Φ, ok, ⟨e, q⟩, k⟩ =>
  ⟨_, drIs_ref ok e, d, _, rfl, dr_get ok.gd (dr_rest t l c), k H t _ _ (.refl ok.gd) (.int _) q⟩
theorem dens_ints {K : PySem.W.Frag} {H : Hp} : ∀ l : List Int, Dens K H (l.map D.int) (l.map V.int)
  | [] => .nil
  | a :: l => .cons (.int a) (dens_ints l)
def wDrCells (d : Addr) (i : Nat) : W DS := fun ρ Φ t => drIs d i ρ ∧ Φ (.lst (t.cells.map .int)) t
theorem E_drCells (h : PE X a (tDGet (tVar i) (tC (.str "cells")))) : PE X a (E (drawR K H0 d l c t0) (wDrCells d i)) := PE_imp h fun σ H Q ⟨ρ, t, Φ, ok, ⟨e, q⟩, k⟩ =>
  ⟨_, drIs_ref ok e, d, _, rfl, dr_get ok.gd (dr_cells t l c), k H t _ _ (.refl ok.gd) (.lst (show DrawAt K d l c t H from ok.gd).cel (dens_ints _)) q⟩
/-! draw['large'] != [] -/
theorem dp_ints {K : PySem.W.Frag} {H : Hp} : ∀ l : List Int, DpAll K H (l.map V.int) (l.map PyData.int)
  | [] => .nil
  | a :: l => .cons (.int a) (dp_ints l)
theorem shaped_ints (ns : List Int) : SeqAt.shaped (.list (ns.map PyData.int)) = true := by
  have h1 : ∀ l : List Int, PyData.canLayAll0 (l.map PyData.int) = true := fun l => by
    induction l with
    | nil => rfl
    | cons a b ih => rw [List.map_cons, PyData.canLayAll0, ih]; rfl
  have h2 : ∀ l : List Int, PyData.depthAll (l.map PyData.int) = 0 := fun l => by
    induction l with
    | nil => rfl
    | cons a b ih => rw [List.map_cons, PyData.depthAll, ih]; rfl
  simp [SeqAt.shaped, PyData.canLay0, PyData.depth, h1, h2]
theorem eqv_ints_nil (ns : List Int) : PyData.eqv (.list (ns.map PyData.int)) (.list []) = ns.isEmpty := by
  cases ns with
  | nil => simp [PyData.eqv, PyData.eqvAll]
  | cons a b => simp [PyData.eqv, PyData.eqvAll]
def wDrAny (d : Addr) (i : Nat) : WB DS := fun ρ Φ t => drIs d i ρ ∧ Φ (!t.large.isEmpty) t
theorem EB_drAny (h : PT X a (tTest (tOp (rNeD X.K) (tDGet (tVar i) (tC (.str "large"))) (tLst tNil)))) (hK : X.K = K := by rfl) : PT X a (EB (drawR K H0 d l c t0) (wDrAny d i)) := PT_imp h fun σ H Q ⟨ρ, t, Φ, ok, ⟨e, q⟩, k⟩ => by
  refine ⟨_, drIs_ref ok e, d, _, rfl, dr_get ok.gd (dr_large t l c), Nat.zero_le _, fun p n => ?_⟩
  have g : DrawAt K d l c t H := ok.gd
  have gg : (drawR K H0 d l c t0).Go t H t (upd H p (.lst [])) := .new ok.gd n
  have g2 : DrawAt K d l c t (upd H p (.lst [])) := gg.gd
  refine ⟨.list (t.large.map PyData.int), .list [], .lst (.inl (.inl g2.lrg)) (dp_ints _), .lst (.inl (.inl upd_same)) .nil, shaped_ints _, shaped_ints [], ?_⟩
  refine ⟨_, rfl, ?_⟩
  rw [eqv_ints_nil]
  exact k _ t _ gg q
/-! draw['large'].pop(0) -/
theorem DrawAt.go {t t' : DS} {H H' : Hp} (g : DrawAt K d l c t H) (st : ∀ a o, H a = some o → a ≠ d → a ≠ l → H' a = some o) (h1 : H' d = some (.dK (drKV t' l c))) (h2 : H' l = some (.lst (t'.large.map V.int))) (h3 : t'.cells = t.cells) : (drawR K H0 d l c t0).Go t H t' H' := by
  refine ⟨⟨fun a o e nv => st a o e (fun z => nv (.inl z)) (fun z => nv (.inr z)), fun _ h => h, fun _ h => .inl h⟩, ⟨h1, h2, ?_⟩⟩
  obtain ⟨o, hc⟩ := g.cel
  obtain ⟨_, n2, n3⟩ := g.ne
  exact ⟨o, by rw [h3]; exact st c _ hc n2 n3⟩
def wDrPop (d : Addr) (i : Nat) : W DS := fun ρ Φ t => drIs d i ρ ∧ ∃ x r, t.large = x :: r ∧ Φ (.int x) { t with large := r }
theorem E_drPop (h : PE X a (tBM X.K "list" rPopAt (tDGet (tVar i) (tC (.str "large"))) (tCons (tC (.int 0)) tNil))) : PE X a (E (drawR K H0 d l c t0) (wDrPop d i)) := PE_imp h fun σ H Q ⟨ρ, t, Φ, ok, ⟨e, x, r, hx, q⟩, k⟩ => by
  have g : DrawAt K d l c t H := ok.gd
  have hl := g.lrg
  refine ⟨_, drIs_ref ok e, d, _, rfl, dr_get ok.gd (dr_large t l c), .inl ⟨rfl, _, .inl (.inl hl)⟩, ?_⟩
  rw [hx, List.map_cons] at hl
  refine ⟨l, _, 0, 0, .int x, rfl, rfl, hl, by decide, by decide, by simp [seqIndex?], rfl, ?_⟩
  refine k _ { t with large := r } _ _ (g.go (fun a o e _ n => by rw [upd_ne n]; exact e) ?_ (by rw [upd_same]; rfl) rfl) (.int x) q
  rw [upd_ne (Ne.symm g.ne.1)]
  exact g.dct
/-! draw['rest'] = e, draw['turn'] = e -/
def wDrSetR (d : Addr) (i : Nat) (we : W DS) : WS DS := fun ρ Φ t => drIs d i ρ ∧ we ρ (fun v t => ∃ n, v = .int n ∧ Φ.nx ρ { t with rest := n }) t
def wDrSetT (d : Addr) (i : Nat) (we : W DS) : WS DS := fun ρ Φ t => drIs d i ρ ∧ we ρ (fun v t => ∃ n, v = .int n ∧ Φ.nx ρ { t with turn := n }) t
theorem S_drSetR (h : PS X st (sDPut (tVar i) (tC (.str "rest")) (E (drawR K H0 d l c t0) we))) : PS X st (S (drawR K H0 d l c t0) (wDrSetR d i we)) := PS_imp h fun D σ H ⟨ρ, t, Φ, ok, ⟨e, q⟩, f⟩ => by
  refine ⟨ρ, t, _, ok, q, fun H1 t1 v dv g1 hd ⟨n, en, q1⟩ => ?_⟩
  subst en
  cases hd
  have ok1 := ok.go g1
  have g : DrawAt K d l c t1 H1 := ok1.gd
  refine ⟨_, drIs_ref ok1 e, d, _, rfl, DPut.k (k := .inr "rest") g.dct (by rw [sizeLine_eq]; show 4 < 16777216; decide), ?_⟩
  rw [dr_putR]
  have gg : (drawR K H0 d l c t0).Go t1 H1 { t1 with rest := n } (upd H1 d (.dK (drKV { t1 with rest := n } l c))) := g.go (fun a o e n _ => by rw [upd_ne n]; exact e) upd_same (by rw [upd_ne g.ne.1]; exact g.lrg) rfl
  exact f.nx σ _ ρ _ ((g1.trans gg).ext ok.gd) (ok1.go gg) q1
theorem S_drSetT (h : PS X st (sDPut (tVar i) (tC (.str "turn")) (E (drawR K H0 d l c t0) we))) : PS X st (S (drawR K H0 d l c t0) (wDrSetT d i we)) := PS_imp h fun D σ H ⟨ρ, t, Φ, ok, ⟨e, q⟩, f⟩ => by
  refine ⟨ρ, t, _, ok, q, fun H1 t1 v dv g1 hd ⟨n, en, q1⟩ => ?_⟩
  subst en
  cases hd
  have ok1 := ok.go g1
  have g : DrawAt K d l c t1 H1 := ok1.gd
  refine ⟨_, drIs_ref ok1 e, d, _, rfl, DPut.k (k := .inr "turn") g.dct (by rw [sizeLine_eq]; show 4 < 16777216; decide), ?_⟩
  rw [dr_putT]
  have gg : (drawR K H0 d l c t0).Go t1 H1 { t1 with turn := n } (upd H1 d (.dK (drKV { t1 with turn := n } l c))) := g.go (fun a o e n _ => by rw [upd_ne n]; exact e) upd_same (by rw [upd_ne g.ne.1]; exact g.lrg) rfl
  exact f.nx σ _ ρ _ ((g1.trans gg).ext ok.gd) (ok1.go gg) q1
end
/-! promises of defs that draw -/
def spD (K : PySem.W.Frag) (n : Nat) (fs : Addr → FST DS) : Sp := fun vs H Q _ => ∃ d l c t ds Φ, ds.length = n ∧ DrawAt K d l c t H ∧ Dens K H ds vs ∧ fs d ds Φ t ∧ ∀ H' t' v d', (drawR K H d l c t).Go t H t' H' → Den K H' d' v → Φ d' t' → Q v H'
def fsD (n : Nat) (f : FST DS) : FST DS := fun ds Φ t => ds.length = n ∧ f ds Φ t
theorem tk_D {K : PySem.W.Frag} {H0 : Hp} {d l c : Addr} {t0 : DS} {n : Nat} {fs : Addr → FST DS} : Tk (drawR K H0 d l c t0) (spD K n fs) (fsD n (fs d)) := fun t H vs ds Φ Q E gd hD ⟨hn, h⟩ k =>
  ⟨d, l, c, t, ds, Φ, hn, gd, hD, h, fun H' t' v d' g hd q => k H' t' v d' ⟨⟨g.st.st, g.st.up, g.st.dn⟩, g.gd⟩ hd q⟩
section
variable {P : Program} {w : World} {K : PySem.W.Frag} {mg : Str → Option Value} {base : Heap}
theorem ok_D {x qual : Str} {st : Stmt} {f : Addr} {fd : FuncData} {N ps : List Str} {k n : Nat} {fs : Addr → FST DS} {ww : Addr → WS DS} (F : Fun K x qual st f fd) (sc : FnScope N ps (defScope st)) (hn : ps.length = n)
    (hb : ∀ (cdv : Value) (A : Around) (outer : List PySem.Env) (s : Shared) (H : Hp) (E : XK) (d l c : Addr) (t : DS), Room k (A.deeper (PyProof.Rows.envOfC qual (defScope st) s.heap.objs.size f cdv)) →
      PSs (cxOf CX0 P w K mg base N qual (defScope st) f cdv A outer s H E).nox (defBody st) (S (drawR K H d l c t) (ww d)))
    (hv : ∀ d ds Φ t, ds.length = n → fs d ds Φ t → ww d (startE N ds) { nx := fun _ t' => Φ .non t', rt := Φ } t) : FnOk P w K mg base CX0 (k + 1) f fd ps (spD K n fs) := by
  refine F.ok sc (fun vs H Q E h => ?_) (fun cdv A outer s H vs Q E hr h => ?_)
  · obtain ⟨d, l, c, t, ds, Φ, hl, _, hD, _⟩ := h
    rw [← hD.len, hl, hn]
  · obtain ⟨d, l, c, t, ds, Φ, hl, gd, hD, hf, q⟩ := h
    refine ⟨_, hb cdv A outer s H E d l c t hr, startE N ds, t, _, start_ok (R := drawR K H d l c t) (t := t) gd rfl rfl hD, hv d ds Φ t hl hf, ?_⟩
    exact ⟨fun σ' H' ρ' t' _ ok' hq => q H' t' .non .non ⟨ok'.st, ok'.gd⟩ .non hq, fun v H' d' t' st gd hd hq => q H' t' v d' ⟨st, gd⟩ hd hq, fun _ _ _ _ _ _ z => z.elim, fun _ _ _ _ _ _ z => z.elim⟩
end
end J

set_option Elab.async false
set_option linter.all false
set_option maxRecDepth 100000
set_option maxHeartbeats 4000000
/-! J13: what draws give. -/
namespace J
open PySem PySem.Spec L2 RZ
/-- a right state of a draw, with a bound of its turns -/
structure Dr (n : Nat) (t : DS) : Prop where
  r0 : 0 ≤ t.rest
  l0 : ∀ x ∈ t.large, 0 ≤ x
  t0 : 0 ≤ t.turn
  tn : t.turn ≤ n
def fs__law_mixed (dr : Addr) : FST DS := fun ds Φ t => ds = [.hdl dr] ∧ 0 ≤ t.turn ∧ t.turn < 2 ^ 100 ∧ ∀ v : Int, 0 ≤ v → Φ (.int v) { t with turn := t.turn + 1 }
def fs__law_take (dr : Addr) : FST DS := fun ds Φ t => ∃ many : Int, ds = [.hdl dr, .int many] ∧ 0 < many ∧ Sm 1000 many ∧ ∃ n, Dr n t ∧ n < 1000000 ∧ ∀ (r : Int) t', 0 ≤ r → r < many → Dr (n + 1) t' → Φ (.int r) t'
def fs__law_pick (dr : Addr) : FST DS := fun ds Φ t => ∃ d xs, ds = [.hdl dr, d] ∧ d.items = some xs ∧ 0 < xs.length ∧ xs.length ≤ 1000 ∧ ∃ n, Dr n t ∧ n < 1000000 ∧ ∀ x t', x ∈ xs → Dr (n + 1) t' → Φ x t'
def fs__law_row (dr : Addr) : FST DS := fun ds Φ t => ∃ (size : Nat) (many : Nat), ds = [.hdl dr, .int size, .int many] ∧ size ≤ 12 ∧ 1 ≤ many ∧ many ≤ 12 ∧ ∃ n, Dr n t ∧ n < 900000 ∧
  ∀ (r : List Int) t', r.length = many → (∀ x ∈ r, 0 ≤ x) → r.sum = size → Dr (n + 17) t' → Φ (dI r) t'
def fs__law_teller (dr : Addr) : FST DS := fun ds Φ t => ∃ (many most : Nat), ds = [.hdl dr, .int many, .int most] ∧ 1 ≤ many ∧ many ≤ 6 ∧ 1 ≤ most ∧ most ≤ 12 ∧ ∃ n, Dr n t ∧ n < 800000 ∧
  ∀ (size : Nat) (rows : List (List Int)) t', size ≤ 12 → IsTel size rows → rows.length = many → wid rows ≤ most → Dr (n + 105) t' → Φ (dTel size rows) t'
def fs__law_garbler (dr : Addr) : FST DS := fun ds Φ t => ∃ (heard said : Nat), ds = [.hdl dr, .int heard, .int said] ∧ 1 ≤ heard ∧ heard ≤ 12 ∧ 1 ≤ said ∧ said ≤ 12 ∧ ∃ n, Dr n t ∧ n < 800000 ∧
  ∀ (size : Nat) (rows : List (List Int)) t', size ≤ 6 → IsGar size rows → rows.length = heard → Dr (n + 205) t' → Φ (dGar size rows) t'
structure StaOk (many : Nat) (lo hi : Int) (g : List (List Int)) : Prop where
  l1 : 1 ≤ g.length
  len : ∀ r ∈ g, r.length = many
  bd : ∀ r ∈ g, ∀ x ∈ r, lo ≤ x ∧ x ≤ hi
def fs__law_stakes (dr : Addr) : FST DS := fun ds Φ t => ∃ (many : Nat) (low : Int), ds = [.hdl dr, .int many, .int low] ∧ 1 ≤ many ∧ many ≤ 6 ∧ ∃ n, Dr n t ∧ n < 800000 ∧
  ∀ (g : List (List Int)) t', g.length ≤ 4 → StaOk many low (low + 11) g → Dr (n + 25) t' → Φ (dSta g) t'
theorem Dr.mono {a b : Nat} {t : DS} (h : Dr a t) (hab : a ≤ b) : Dr b t := ⟨h.r0, h.l0, h.t0, by have := h.tn; omega⟩
/-- a table of nothing -/
theorem rep_ints (k : Nat) (i : Int) : (List.replicate k [D.int i]).flatten = (List.replicate k i).map D.int := by
  rw [rep_flat, List.map_replicate]
theorem sum_rep0 (k : Nat) : (List.replicate k (0 : Int)).sum = 0 := by
  induction k with
  | zero => rfl
  | succ k ih => rw [List.replicate_succ, List.sum_cons, ih]; rfl
theorem set_sum : ∀ (l : List Int) (j : Nat) (x y : Int), l[j]? = some x → (l.set j y).sum = l.sum - x + y
  | [], _, _, _, h => by simp at h
  | a :: l, 0, x, y, h => by
    simp at h
    rw [List.set_cons_zero, List.sum_cons, List.sum_cons, h]
    omega
  | a :: l, j + 1, x, y, h => by
    rw [List.set_cons_succ, List.sum_cons, List.sum_cons, set_sum l j x y (by simpa using h)]
    omega
theorem row_at {α : Type} {l : List α} {n : Int} {x : α} (h : atI l n = some x) : x ∈ l := by
  unfold atI at h
  cases e : ixN l.length n with
  | none => rw [e] at h; cases h
  | some j => rw [e] at h; exact List.mem_of_getElem? h
theorem ixN_nat {k n : Nat} (h : n < k) : ixN k (n : Int) = some n := by
  unfold ixN
  rw [if_pos (by omega), if_pos (by omega)]
  simp
theorem sm_small {x : Int} (h0 : 0 ≤ x) (h1 : x < 1000000) : Sm 1000 x := by
  unfold Sm
  have : (1000000 : Nat) < 2 ^ 1000 := by decide
  omega
end J

set_option Elab.async false
set_option linter.all false
set_option maxRecDepth 100000
set_option maxHeartbeats 4000000
/-! J14: plain laws of worths. -/
namespace J
open PySem PySem.Spec L2 RZ
/-! sums -/
theorem sum_add {α : Type} (f g : α → Int) : ∀ l : List α, (l.map fun x => f x + g x).sum = (l.map f).sum + (l.map g).sum
  | [] => rfl
  | a :: l => by rw [List.map_cons, List.map_cons, List.map_cons, List.sum_cons, List.sum_cons, List.sum_cons, sum_add f g l]; omega
theorem sum_mulL {α : Type} (k : Int) (f : α → Int) : ∀ l : List α, (l.map fun x => k * f x).sum = k * (l.map f).sum
  | [] => by simp
  | a :: l => by rw [List.map_cons, List.map_cons, List.sum_cons, List.sum_cons, sum_mulL k f l, Int.mul_add]
theorem sum_mulR {α : Type} (k : Int) (f : α → Int) (l : List α) : (l.map fun x => f x * k).sum = (l.map f).sum * k := by
  rw [Int.mul_comm, ← sum_mulL]
  congr 1
  exact List.map_congr_left fun x _ => Int.mul_comm _ _
theorem sum_le {α : Type} {f g : α → Int} : ∀ {l : List α}, (∀ x ∈ l, f x ≤ g x) → (l.map f).sum ≤ (l.map g).sum
  | [], _ => Int.le_refl _
  | a :: l, h => by
    rw [List.map_cons, List.map_cons, List.sum_cons, List.sum_cons]
    have h1 := h a List.mem_cons_self
    have h2 := sum_le (l := l) fun x hx => h x (List.mem_cons_of_mem _ hx)
    omega
theorem sum_congr {α : Type} {f g : α → Int} {l : List α} (h : ∀ x ∈ l, f x = g x) : (l.map f).sum = (l.map g).sum := by
  rw [List.map_congr_left h]
theorem sum_swap {α β : Type} (f : α → β → Int) (m : List β) : ∀ l : List α, (l.map fun x => (m.map fun y => f x y).sum).sum = (m.map fun y => (l.map fun x => f x y).sum).sum
  | [] => by
    simp only [List.map_nil, List.sum_nil]
    induction m with
    | nil => rfl
    | cons a b ih => rw [List.map_cons, List.sum_cons, ← ih]; rfl
  | a :: l => by
    rw [List.map_cons, List.sum_cons, sum_swap f m l, ← sum_add]
    congr 1
theorem sum_const {α : Type} (k : Int) : ∀ l : List α, (l.map fun _ => k).sum = l.length * k
  | [] => by simp
  | a :: l => by rw [List.map_cons, List.sum_cons, sum_const k l, List.length_cons]; grind
theorem range_getD : ∀ (r : List Int), ((List.range r.length).map fun y => r.getD y 0) = r := fun r => by
  apply List.ext_getElem?
  intro i
  rw [List.getElem?_map]
  by_cases h : i < r.length
  · rw [List.getElem?_range h, List.getElem?_eq_getElem h]
    simp [h]
  · rw [List.getElem?_eq_none (by simp; omega), List.getElem?_eq_none (by omega)]
    rfl
theorem sum_getD {r : List Int} {w : Nat} (h : r.length = w) : ((List.range w).map fun y => r.getD y 0).sum = r.sum := by
  rw [← h, range_getD]
/-! dot -/
theorem dot_nil (c : List Int) : dot [] c = 0 := by simp [dot]
theorem dot_nil' (a : List Int) : dot a [] = 0 := by simp [dot]
theorem dot_cons (x y : Int) (a c : List Int) : dot (x :: a) (y :: c) = x * y + dot a c := by simp [dot]
theorem dot_mulR (k : Int) : ∀ a c : List Int, dot a (c.map (k * ·)) = k * dot a c
  | [], c => by rw [dot_nil, dot_nil]; simp
  | _ :: _, [] => by rw [List.map_nil, dot_nil']; simp
  | x :: a, y :: c => by rw [List.map_cons, dot_cons, dot_cons, dot_mulR k a c]; grind
theorem dot_const (d : Int) : ∀ a c : List Int, a.length = c.length → (∀ x ∈ c, x = d) → dot a c = a.sum * d
  | [], c, _, _ => by rw [dot_nil]; simp
  | _ :: _, [], h, _ => by simp at h
  | x :: a, y :: c, h, hd => by
    rw [dot_cons, List.sum_cons, dot_const d a c (by simpa using h) fun z hz => hd z (List.mem_cons_of_mem _ hz), hd y List.mem_cons_self]
    grind
theorem dot_sum {α : Type} (l : List α) (f : List Int → α → Int) : ∀ (a : List Int) (rows : List (List Int)), dot a (rows.map fun r => (l.map fun y => f r y).sum) = (l.map fun y => dot a (rows.map fun r => f r y)).sum
  | [], rows => by
    rw [dot_nil, sum_congr (g := fun _ => 0) fun x _ => dot_nil _, sum_const]; simp
  | x :: a, [] => by
    rw [List.map_nil, dot_nil', sum_congr (g := fun _ => 0) fun x _ => by rw [List.map_nil]; exact dot_nil' _, sum_const]; simp
  | x :: a, r :: rows => by
    rw [List.map_cons, dot_cons, dot_sum l f a rows, ← sum_mulL, ← sum_add]
    exact sum_congr fun y _ => by rw [List.map_cons, dot_cons]
theorem dot_mulC (k : Int) (a : List Int) (rows : List (List Int)) (f : List Int → Int) : dot a (rows.map fun r => f r * k) = dot a (rows.map f) * k := by
  have := dot_mulR k a (rows.map f)
  rw [List.map_map] at this
  rw [Int.mul_comm (dot a (rows.map f)) k, ← this]
  congr 1
  exact List.map_congr_left fun r _ => Int.mul_comm _ _
/-! greatest -/
theorem le_maxL {l : List Int} {x : Int} (h : x ∈ l) : x ≤ maxL l := (maxL_mem (List.length_pos_of_mem h)).2 x h
theorem maxL_le {l : List Int} {b : Int} (h : l ≠ []) (hb : ∀ x ∈ l, x ≤ b) : maxL l ≤ b := hb _ (maxL_mem (List.length_pos_iff.mpr h)).1
theorem maxL_ex {l : List Int} (h : l ≠ []) : maxL l ∈ l := (maxL_mem (List.length_pos_iff.mpr h)).1
theorem maxL_same {l m : List Int} (hl : l ≠ []) (h : ∀ x, x ∈ l ↔ x ∈ m) : maxL l = maxL m := by
  have hm : m ≠ [] := fun e => by
    subst e
    exact absurd ((h _).mp (maxL_ex hl)) (by simp)
  exact Int.le_antisymm (maxL_le hl fun x hx => le_maxL ((h x).mp hx)) (maxL_le hm fun x hx => le_maxL ((h x).mpr hx))
theorem maxL_mul {l : List Int} {k : Int} (hk : 0 ≤ k) : maxL (l.map (k * ·)) = k * maxL l := by
  by_cases h : l = []
  · subst h; simp [maxL]
  have h' : l.map (k * ·) ≠ [] := by simpa using h
  refine Int.le_antisymm (maxL_le h' fun x hx => ?_) ?_
  · obtain ⟨y, hy, rfl⟩ := List.mem_map.mp hx
    exact Int.mul_le_mul_of_nonneg_left (le_maxL hy) hk
  · exact le_maxL (List.mem_map.mpr ⟨_, maxL_ex h, rfl⟩)
/-! worths over columns -/
def Wc (cs g : List (List Int)) : Int := (cs.map fun c => maxL (sumsAt g c)).sum
theorem worthN_eq (rows g : List (List Int)) : worthN rows g = Wc (cols rows) g := rfl
theorem sumsAt_ne {g : List (List Int)} {c : List Int} (h : 1 ≤ g.length) : sumsAt g c ≠ [] := by
  intro e
  have := congrArg List.length e
  rw [sumsAt, List.length_map] at this
  simp at this
  rw [this] at h
  simp at h
theorem mem_sumsAt {g : List (List Int)} {c : List Int} {x : Int} : x ∈ sumsAt g c ↔ ∃ a ∈ g, dot a c = x := by
  rw [sumsAt, List.mem_map]
theorem sumsAt_mul (g : List (List Int)) (c : List Int) (k : Int) : sumsAt g (c.map (k * ·)) = (sumsAt g c).map (k * ·) := by
  rw [sumsAt, sumsAt, List.map_map]
  exact List.map_congr_left fun a _ => dot_mulR k a c
theorem Wc_either {cs g h : List (List Int)} (hg : 1 ≤ g.length) : Wc cs g ≤ Wc cs (g ++ h) := sum_le fun c _ => maxL_le (sumsAt_ne hg) fun x hx => by
  obtain ⟨a, ha, rfl⟩ := mem_sumsAt.mp hx
  exact le_maxL (mem_sumsAt.mpr ⟨a, List.mem_append_left _ ha, rfl⟩)
theorem Wc_either' {cs g h : List (List Int)} (hh : 1 ≤ h.length) : Wc cs h ≤ Wc cs (g ++ h) := sum_le fun c _ => maxL_le (sumsAt_ne hh) fun x hx => by
  obtain ⟨a, ha, rfl⟩ := mem_sumsAt.mp hx
  exact le_maxL (mem_sumsAt.mpr ⟨a, List.mem_append_right _ ha, rfl⟩)
theorem Wc_twice {cs g : List (List Int)} {k : Nat} (hg : 1 ≤ g.length) : Wc cs (g ++ g.take k) = Wc cs g := by
  unfold Wc
  refine sum_congr fun c _ => (maxL_same (sumsAt_ne hg) fun x => ?_).symm
  rw [mem_sumsAt, mem_sumsAt]
  constructor
  · rintro ⟨a, ha, h⟩
    exact ⟨a, List.mem_append_left _ ha, h⟩
  · rintro ⟨a, ha, h⟩
    rcases List.mem_append.mp ha with ha | ha
    · exact ⟨a, ha, h⟩
    · exact ⟨a, List.mem_of_mem_take ha, h⟩
theorem dot_addL : ∀ (a b c : List Int), a.length = b.length → dot ((a.zip b).map fun p => p.1 + p.2) c = dot a c + dot b c
  | [], b, c, h => by
    have : b = [] := List.eq_nil_of_length_eq_zero (by simpa using h.symm)
    subst this
    simp [dot]
  | x :: a, [], c, h => by simp at h
  | x :: a, y :: b, [], h => by rw [dot_nil', dot_nil', dot_nil']; rfl
  | x :: a, y :: b, z :: c, h => by
    rw [List.zip_cons_cons, List.map_cons, dot_cons, dot_cons, dot_cons, dot_addL a b c (by simpa using h)]
    grind
theorem mem_sumG {g h : List (List Int)} {x : List Int} : x ∈ sumG g h ↔ ∃ a ∈ g, ∃ b ∈ h, x = (a.zip b).map fun p => p.1 + p.2 := by
  unfold sumG
  rw [List.mem_flatMap]
  constructor
  · rintro ⟨a, ha, hx⟩
    obtain ⟨b, hb, rfl⟩ := List.mem_map.mp hx
    exact ⟨a, ha, b, hb, rfl⟩
  · rintro ⟨a, ha, b, hb, rfl⟩
    exact ⟨a, ha, List.mem_map.mpr ⟨b, hb, rfl⟩⟩
theorem Wc_sum {cs g h : List (List Int)} {n : Nat} (hg : 1 ≤ g.length) (hh : 1 ≤ h.length) (lg : ∀ a ∈ g, a.length = n) (lh : ∀ a ∈ h, a.length = n) : Wc cs (sumG g h) = Wc cs g + Wc cs h := by
  unfold Wc
  rw [← sum_add]
  refine sum_congr fun c _ => ?_
  obtain ⟨a0, ha0, e0⟩ := mem_sumsAt.mp (maxL_ex (sumsAt_ne (c := c) hg))
  obtain ⟨b0, hb0, f0⟩ := mem_sumsAt.mp (maxL_ex (sumsAt_ne (c := c) hh))
  have hm : (a0.zip b0).map (fun p => p.1 + p.2) ∈ sumG g h := mem_sumG.mpr ⟨a0, ha0, b0, hb0, rfl⟩
  refine Int.le_antisymm (maxL_le (fun e => ?_) fun x hx => ?_) ?_
  · have : dot ((a0.zip b0).map fun p => p.1 + p.2) c ∈ sumsAt (sumG g h) c := mem_sumsAt.mpr ⟨_, hm, rfl⟩
    rw [e] at this
    simp at this
  · obtain ⟨x', hx', rfl⟩ := mem_sumsAt.mp hx
    obtain ⟨a, ha, b, hb, rfl⟩ := mem_sumG.mp hx'
    rw [dot_addL a b c (by rw [lg a ha, lh b hb])]
    have h1 := le_maxL (mem_sumsAt.mpr ⟨a, ha, rfl⟩ : dot a c ∈ sumsAt g c)
    have h2 := le_maxL (mem_sumsAt.mpr ⟨b, hb, rfl⟩ : dot b c ∈ sumsAt h c)
    omega
  · rw [← e0, ← f0, ← dot_addL a0 b0 c (by rw [lg a0 ha0, lh b0 hb0])]
    exact le_maxL (mem_sumsAt.mpr ⟨_, hm, rfl⟩)
/-- hearing never costs -/
theorem W_hear {rows g : List (List Int)} {d : Int} {a b : Nat} (h : RowsOk rows d a b) (hg : 1 ≤ g.length) (lg : ∀ a ∈ g, a.length = rows.length) : maxL (g.map List.sum) * d ≤ worthN rows g := by
  have hne : g.map List.sum ≠ [] := fun e => by
    have := congrArg List.length e
    rw [List.length_map] at this
    simp at this
    rw [this] at hg
    simp at hg
  obtain ⟨v, hv, e⟩ := List.mem_map.mp (maxL_ex hne)
  rw [← e]
  have e1 : ((List.range (wid rows)).map fun y => dot v (rows.map fun r => r.getD y 0)).sum = v.sum * d := by
    rw [← dot_sum (List.range (wid rows)) (fun r y => r.getD y 0) v rows]
    refine dot_const d v _ (by rw [List.length_map, lg v hv]) fun x hx => ?_
    obtain ⟨r, hr, rfl⟩ := List.mem_map.mp hx
    rw [sum_getD (h.len r hr), h.sum r hr]
  rw [← e1, worthN, cols, List.map_map]
  exact sum_le fun y _ => le_maxL (mem_sumsAt.mpr ⟨v, hv, rfl⟩)
/-! a number moved -/
def mvd (s : Nat) (by' : Int) (a : List Int) : List Int := a.take s ++ (a.getD s 0 + by') :: a.drop (s + 1)
theorem dot_mvd : ∀ (s : Nat) (by' : Int) (a c : List Int), s < a.length → a.length = c.length → dot (mvd s by' a) c = dot a c + by' * c.getD s 0
  | s, _, [], c, h, _ => by simp at h
  | s, _, x :: a, [], _, h => by simp at h
  | 0, by', x :: a, y :: c, _, _ => by
    simp only [mvd, List.take_zero, List.nil_append, List.getD_cons_zero, List.drop_succ_cons, List.drop_zero, Nat.zero_add]
    rw [dot_cons, dot_cons]
    grind
  | s + 1, by', x :: a, y :: c, h, h' => by
    have ih := dot_mvd s by' a c (by simpa using h) (by simpa using h')
    have e : mvd (s + 1) by' (x :: a) = x :: mvd s by' a := by simp [mvd]
    rw [e, dot_cons, dot_cons, ih, List.getD_cons_succ]
    omega
theorem W_moved {rows g : List (List Int)} {d by' : Int} {a b s : Nat} (h : RowsOk rows d a b) (hg : 1 ≤ g.length) (lg : ∀ a ∈ g, a.length = rows.length) (hs : s < rows.length) : worthN rows (g.map (mvd s by')) = worthN rows g + by' * d := by
  have hr : (rows.getD s []).sum = d ∧ (rows.getD s []).length = wid rows := by
    rw [List.getD_eq_getElem?_getD, List.getElem?_eq_getElem hs]
    exact ⟨h.sum _ (List.getElem_mem hs), h.len _ (List.getElem_mem hs)⟩
  have e1 : ((List.range (wid rows)).map fun y => by' * (rows.map fun r => r.getD y 0).getD s 0).sum = by' * d := by
    rw [sum_mulL]
    congr 1
    rw [← hr.1, ← sum_getD hr.2]
    refine sum_congr fun y _ => ?_
    simp [List.getD_eq_getElem?_getD, hs]
  rw [← e1, worthN, worthN, cols, List.map_map, List.map_map, ← sum_add]
  refine sum_congr fun y _ => ?_
  simp only [Function.comp]
  have hc : (rows.map fun r => r.getD y 0).length = rows.length := by rw [List.length_map]
  have e2 : sumsAt (g.map (mvd s by')) (rows.map fun r => r.getD y 0) = (sumsAt g (rows.map fun r => r.getD y 0)).map (· + by' * (rows.map fun r => r.getD y 0).getD s 0) := by
    rw [sumsAt, sumsAt, List.map_map, List.map_map]
    refine List.map_congr_left fun v hv => ?_
    exact dot_mvd s by' v _ (by rw [lg v hv]; exact hs) (by rw [hc, lg v hv])
  rw [e2]
  have hne := sumsAt_ne (c := rows.map fun r => r.getD y 0) hg
  refine Int.le_antisymm (maxL_le (by simpa using hne) fun x hx => ?_) (le_maxL (List.mem_map.mpr ⟨_, maxL_ex hne, rfl⟩))
  obtain ⟨z, hz, rfl⟩ := List.mem_map.mp hx
  have := le_maxL hz
  omega
/-! ratios -/
theorem ratN_spec (a : Int) {b : Int} (hb : 0 < b) : (ratN a b).1 * b = a * (ratN a b).2 ∧ 0 < (ratN a b).2 ∧ (ratN a b).2 ≤ b := by
  have g0 := gcdI_pos (a := a) hb
  have h1 : gcdI a b ∣ a := Int.gcd_dvd_left a b
  have h2 : gcdI a b ∣ b := Int.gcd_dvd_right a b
  obtain ⟨x, hx⟩ := h1
  obtain ⟨y, hy⟩ := h2
  have e1 : a / gcdI a b = x := by
    conv => lhs; lhs; rw [hx]
    exact Int.mul_ediv_cancel_left x (by omega)
  have e2 : b / gcdI a b = y := by
    conv => lhs; lhs; rw [hy]
    exact Int.mul_ediv_cancel_left y (by omega)
  show a / gcdI a b * b = a * (b / gcdI a b) ∧ 0 < b / gcdI a b ∧ b / gcdI a b ≤ b
  rw [e1, e2]
  refine ⟨?_, ?_, ?_⟩
  · generalize gcdI a b = g at *
    subst hx hy
    grind
  · generalize gcdI a b = g at *
    subst hy
    exact Int.pos_of_mul_pos_right hb g0
  · rw [← e2]; exact Int.ediv_le_self _ (by omega)
theorem ratN_eq {a b a' b' : Int} (hb : 0 < b) (hb' : 0 < b') (h : a * b' = a' * b) : ratN a b = ratN a' b' := by
  -- both are lowest terms
  have low : ∀ (a b : Int), 0 < b → ∀ k, 0 < k → ratN (a * k) (b * k) = ratN a b := by
    intro a b hb k hk
    have eg : gcdI (a * k) (b * k) = gcdI a b * k := by
      unfold gcdI
      rw [Int.gcd_mul_right]
      have : ((k.natAbs : Nat) : Int) = k := Int.natAbs_of_nonneg (by omega)
      rw [Int.natCast_mul, this]
    unfold ratN
    rw [eg, Int.mul_ediv_mul_of_pos_left _ _ hk, Int.mul_ediv_mul_of_pos_left _ _ hk]
  rw [← low a b hb b' hb', h, Int.mul_comm b b', low a' b' hb' b hb]
theorem ratN_nlt {a b a' b' : Int} (hb : 0 < b) (hb' : 0 < b') (h : a' * b ≤ a * b') : ¬ ((ratN a b).1 * (ratN a' b').2 < (ratN a' b').1 * (ratN a b).2) := by
  obtain ⟨e1, p1, _⟩ := ratN_spec a hb
  obtain ⟨e2, p2, _⟩ := ratN_spec a' hb'
  generalize (ratN a b).1 = x at *
  generalize (ratN a b).2 = y at *
  generalize (ratN a' b').1 = x' at *
  generalize (ratN a' b').2 = y' at *
  -- x b = a y, x' b' = a' y'; want x' y ≤ x y'
  intro hlt
  have q1 : (x * y') * (b * b') < (x' * y) * (b * b') := Int.mul_lt_mul_of_pos_right hlt (Int.mul_pos hb hb')
  have q2 : (x * y') * (b * b') = (a * b') * (y * y') := by grind
  have q3 : (x' * y) * (b * b') = (a' * b) * (y * y') := by grind
  have q4 : (a' * b) * (y * y') ≤ (a * b') * (y * y') := Int.mul_le_mul_of_nonneg_right h (Int.le_of_lt (Int.mul_pos p1 p2))
  omega
theorem ratN_one (a : Int) : ratN a 1 = (a, 1) := by
  unfold ratN gcdI
  simp
/-- the sum of two ratios over one divisor -/
theorem ratN_sum {a b d : Int} (hd : 0 < d) : ratN ((ratN a d).1 * (ratN b d).2 + (ratN b d).1 * (ratN a d).2) ((ratN a d).2 * (ratN b d).2) = ratN (a + b) d := by
  obtain ⟨e1, p1, _⟩ := ratN_spec a hd
  obtain ⟨e2, p2, _⟩ := ratN_spec b hd
  refine ratN_eq (Int.mul_pos p1 p2) hd ?_
  generalize (ratN a d).1 = x at *
  generalize (ratN a d).2 = y at *
  generalize (ratN b d).1 = x' at *
  generalize (ratN b d).2 = y' at *
  grind
theorem ratN_sum1 {a d k : Int} (hd : 0 < d) : ratN ((ratN a d).1 * 1 + k * (ratN a d).2) ((ratN a d).2 * 1) = ratN (a + k * d) d := by
  obtain ⟨e1, p1, _⟩ := ratN_spec a hd
  refine ratN_eq (by omega) hd ?_
  generalize (ratN a d).1 = x at *
  generalize (ratN a d).2 = y at *
  grind
/-! lowered rows -/
theorem map_div {g : Int} (hg : 0 < g) {l : List Int} (h : ∀ x ∈ l, g ∣ x) : (l.map (· / g)).map (g * ·) = l := by
  rw [List.map_map]
  conv => rhs; rw [← List.map_id l]
  refine List.map_congr_left fun x hx => ?_
  show g * (x / g) = x
  exact Int.mul_ediv_cancel' (h x hx)
theorem wid_low (g : Int) (rows : List (List Int)) : wid (lowR g rows) = wid rows := by
  cases rows with
  | nil => rfl
  | cons a b => simp [wid, lowR]
theorem cols_low {g : Int} {rows : List (List Int)} : cols (lowR g rows) = (cols rows).map fun c => c.map (· / g) := by
  unfold cols
  rw [wid_low, List.map_map]
  refine List.map_congr_left fun y _ => ?_
  simp only [Function.comp, lowR, List.map_map]
  refine List.map_congr_left fun r _ => ?_
  simp only [Function.comp, List.getD_eq_getElem?_getD, List.getElem?_map]
  cases r[y]? with
  | none => simp
  | some x => rfl
theorem sum_div {g : Int} (hg : 0 < g) {l : List Int} (h : ∀ x ∈ l, g ∣ x) : g * (l.map (· / g)).sum = l.sum := by
  rw [← sum_mulL]
  congr 1
  have := map_div hg h
  rw [List.map_map] at this
  exact this
theorem W_low {g : Int} {rows s : List (List Int)} (hg : 0 < g) (hl : ∀ r ∈ rows, r.length = wid rows) (h : ∀ r ∈ rows, ∀ x ∈ r, g ∣ x) : g * worthN (lowR g rows) s = worthN rows s := by
  rw [worthN, worthN, cols_low, List.map_map, ← sum_mulL]
  refine sum_congr fun c hc => ?_
  simp only [Function.comp]
  rw [← maxL_mul (Int.le_of_lt hg), ← sumsAt_mul, map_div hg fun x hx => ?_]
  obtain ⟨r, hr, hxr⟩ := cols_mem hl hc hx
  exact h r hr x hxr
theorem rows_low {g d : Int} {rows : List (List Int)} {a b : Nat} (hg : 0 < g) (h : RowsOk rows d a b) (hd : ∀ r ∈ rows, ∀ x ∈ r, g ∣ x) : RowsOk (lowR g rows) (d / g) a b := by
  refine ⟨by rw [lowR, List.length_map]; exact h.l1, by rw [lowR, List.length_map]; exact h.l2, by rw [wid_low]; exact h.w1, by rw [wid_low]; exact h.w2, fun r hr => ?_, fun r hr x hx => ?_, fun r hr => ?_⟩
  · obtain ⟨r', hr', rfl⟩ := List.mem_map.mp hr
    rw [wid_low, List.length_map]; exact h.len r' hr'
  · obtain ⟨r', hr', rfl⟩ := List.mem_map.mp hr
    obtain ⟨x', hx', rfl⟩ := List.mem_map.mp hx
    exact Int.ediv_nonneg (h.nn r' hr' x' hx') (by omega)
  · obtain ⟨r', hr', rfl⟩ := List.mem_map.mp hr
    rw [← h.sum r' hr', ← sum_div hg (hd r' hr')]
    rw [Int.mul_ediv_cancel_left _ (by omega)]
/-- a teller by its lowered rows -/
theorem tel_low {d : Int} {rows : List (List Int)} (d1 : 1 ≤ d) (h : RowsOk rows d 6 12) (hd : d / gcdL (d :: rows.flatten) ≤ 10 ^ 30) : IsTel (d / gcdL (d :: rows.flatten)) (lowR (gcdL (d :: rows.flatten)) rows) := by
  obtain ⟨g0, g1⟩ := gcdL_pos (l := rows.flatten) (show 0 < d by omega)
  refine ⟨Int.le_ediv_of_mul_le g0 (by omega), hd, rows_low g0 h fun r hr x hx => gcdL_dvd (List.mem_cons_of_mem _ (List.mem_flatten.mpr ⟨r, hr, hx⟩))⟩
theorem low_rat {d : Int} {rows s : List (List Int)} {a b : Nat} (d1 : 1 ≤ d) (h : RowsOk rows d a b) : ratN (worthN (lowR (gcdL (d :: rows.flatten)) rows) s) (d / gcdL (d :: rows.flatten)) = ratN (worthN rows s) d := by
  obtain ⟨g0, g1⟩ := gcdL_pos (l := rows.flatten) (show 0 < d by omega)
  have hW := W_low (s := s) g0 h.len fun r hr x hx => gcdL_dvd (List.mem_cons_of_mem _ (List.mem_flatten.mpr ⟨r, hr, hx⟩))
  have hD : gcdL (d :: rows.flatten) * (d / gcdL (d :: rows.flatten)) = d := Int.mul_ediv_cancel' (gcdL_dvd List.mem_cons_self)
  have hp : 0 < d / gcdL (d :: rows.flatten) := Int.le_ediv_of_mul_le g0 (by omega)
  refine ratN_eq hp (by omega) ?_
  generalize gcdL (d :: rows.flatten) = g at *
  generalize hW' : worthN (lowR g rows) s = W' at *
  rw [← hW]
  generalize d / g = e at *
  subst hD
  grind
/-! garbled rows -/
theorem wid_prod {rows m : List (List Int)} (h : 1 ≤ rows.length) : wid (prodR rows m) = wid m := by
  cases rows with
  | nil => simp at h
  | cons a b => simp [wid, prodR]
theorem prodAt_eq {r : List Int} {w : Nat} (h : r.length = w) (m : List (List Int)) (z : Nat) : prodAt r m z = ((List.range w).map fun y => r.getD y 0 * (m.getD y []).getD z 0).sum := by
  rw [← h]; rfl
theorem getD_row {m : List (List Int)} {y : Nat} (h : y < m.length) : m.getD y [] ∈ m := by
  rw [List.getD_eq_getElem?_getD, List.getElem?_eq_getElem h]
  exact List.getElem_mem _
theorem rows_prod {rows m : List (List Int)} {d e : Int} {a b a' b' : Nat} (h : RowsOk rows d a b) (hm : RowsOk m e a' b') (hl : m.length = wid rows) : RowsOk (prodR rows m) (d * e) a b' := by
  refine ⟨by rw [prodR, List.length_map]; exact h.l1, by rw [prodR, List.length_map]; exact h.l2, by rw [wid_prod h.l1]; exact hm.w1, by rw [wid_prod h.l1]; exact hm.w2, fun r hr => ?_, fun r hr x hx => ?_, fun r hr => ?_⟩
  · obtain ⟨r', hr', rfl⟩ := List.mem_map.mp hr
    rw [wid_prod h.l1, List.length_map, List.length_range]
  · obtain ⟨r', hr', rfl⟩ := List.mem_map.mp hr
    obtain ⟨z, _, rfl⟩ := List.mem_map.mp hx
    exact prodAt_nn (h.nn r' hr') hm.nn z
  · obtain ⟨r', hr', rfl⟩ := List.mem_map.mp hr
    rw [sum_congr (g := fun z => ((List.range (wid rows)).map fun y => r'.getD y 0 * (m.getD y []).getD z 0).sum) fun z _ => prodAt_eq (h.len r' hr') m z]
    rw [sum_swap]
    rw [sum_congr (g := fun y => r'.getD y 0 * e) fun y hy => ?_]
    · rw [sum_mulR, sum_getD (h.len r' hr'), h.sum r' hr']
    · have hy := List.mem_range.mp hy
      have hmem := getD_row (m := m) (y := y) (by omega)
      rw [sum_mulL, sum_getD (hm.len _ hmem), hm.sum _ hmem]
theorem W_garbled {rows m s : List (List Int)} {d e : Int} {a b a' b' : Nat} (h : RowsOk rows d a b) (hm : RowsOk m e a' b') (hl : m.length = wid rows) (hs : 1 ≤ s.length) : worthN (prodR rows m) s ≤ worthN rows s * e := by
  have e1 : worthN rows s * e = ((List.range (wid m)).map fun z => ((List.range (wid rows)).map fun y => maxL (sumsAt s (rows.map fun r => r.getD y 0)) * (m.getD y []).getD z 0).sum).sum := by
    rw [sum_swap, worthN, cols, List.map_map, ← sum_mulR]
    refine sum_congr fun y hy => ?_
    have hy := List.mem_range.mp hy
    have hmem := getD_row (m := m) (y := y) (by omega)
    rw [sum_mulL, sum_getD (hm.len _ hmem), hm.sum _ hmem]
    rfl
  rw [e1, worthN, cols, wid_prod h.l1, List.map_map]
  refine sum_le fun z hz => ?_
  have hz := List.mem_range.mp hz
  simp only [Function.comp]
  have e2 : ((prodR rows m).map fun r => r.getD z 0) = rows.map fun r => ((List.range (wid rows)).map fun y => r.getD y 0 * (m.getD y []).getD z 0).sum := by
    rw [prodR, List.map_map]
    refine List.map_congr_left fun r hr => ?_
    simp only [Function.comp]
    rw [← prodAt_eq (h.len r hr)]
    simp [List.getD_eq_getElem?_getD, hz]
  rw [e2]
  refine maxL_le (sumsAt_ne hs) fun x hx => ?_
  obtain ⟨v, hv, rfl⟩ := mem_sumsAt.mp hx
  rw [dot_sum]
  refine sum_le fun y hy => ?_
  have hy := List.mem_range.mp hy
  have hmem := getD_row (m := m) (y := y) (by omega)
  rw [dot_mulC]
  exact Int.mul_le_mul_of_nonneg_right (le_maxL (mem_sumsAt.mpr ⟨v, hv, rfl⟩)) (getD_nn (hm.nn _ hmem) z)
end J

set_option Elab.async false
set_option linter.all false
set_option maxRecDepth 100000
set_option maxHeartbeats 4000000
/-! J15: plain forms keep worths. -/
namespace J
open PySem PySem.Spec L2 RZ
/-- goes along with lengths -/
def Hom (F : List Int → Int) : Prop := ∀ (w : List Int) (μ : Int), 0 ≤ μ → F (w.map (μ * ·)) = μ * F w
theorem hom_max (g : List (List Int)) : Hom fun c => maxL (sumsAt g c) := fun w μ h => by
  show maxL (sumsAt g (w.map (μ * ·))) = _
  rw [sumsAt_mul, maxL_mul h]
theorem hom_at (x : Nat) : Hom fun c => c.getD x 0 := fun w μ _ => by
  simp only [List.getD_eq_getElem?_getD, List.getElem?_map]
  cases w[x]? with
  | none => simp
  | some v => rfl
structure WayS (kvs : KN) : Prop where
  nd : (kvs.map (·.1)).Nodup
  mul : ∀ kv ∈ kvs, ∃ μ : Int, 0 ≤ μ ∧ kv.2 = kv.1.map (μ * ·)
  kn : ∀ kv ∈ kvs, ∀ x ∈ kv.1, 0 ≤ x
theorem lookN_of {kvs : KN} (nd : (kvs.map (·.1)).Nodup) {kv : List Int × List Int} (h : kv ∈ kvs) : lookN kvs kv.1 = some kv.2 := by
  induction kvs with
  | nil => simp at h
  | cons a r ih =>
    rw [List.map_cons, List.nodup_cons] at nd
    unfold lookN
    rw [List.find?_cons]
    rcases List.mem_cons.mp h with rfl | h
    · simp
    · have : a.1 ≠ kv.1 := fun e => nd.1 (by rw [e]; exact List.mem_map_of_mem h)
      simp only [this, decide_false]
      exact ih nd.2 h
theorem any_key {kvs : KN} {k : List Int} : (kvs.any fun kv => decide (kv.1 = k)) = true ↔ k ∈ kvs.map (·.1) := by
  rw [List.any_eq_true]
  constructor
  · rintro ⟨kv, h1, h2⟩
    have : kv.1 = k := by simpa using h2
    rw [← this]; exact List.mem_map_of_mem h1
  · intro h
    obtain ⟨kv, h1, h2⟩ := List.mem_map.mp h
    exact ⟨kv, h1, by simpa using h2⟩
def sumF (F : List Int → Int) (kvs : KN) : Int := (kvs.map fun kv => F kv.2).sum
theorem lookN_none {kvs : KN} {k : List Int} (h : k ∉ kvs.map (·.1)) : lookN kvs k = none := by
  cases e : lookN kvs k with
  | none => rfl
  | some v => exact absurd (List.mem_map_of_mem (lookN_mem e)) h
theorem sum_put {F : List Int → Int} {k v v0 : List Int} : ∀ {kvs : KN}, (kvs.map (·.1)).Nodup → (k, v0) ∈ kvs → ((kvs.map fun kv => if kv.1 = k then (kv.1, v) else kv).map fun kv => F kv.2).sum = (kvs.map fun kv => F kv.2).sum - F v0 + F v
  | [], _, h => by simp at h
  | a :: r, nd, h => by
    rw [List.map_cons, List.nodup_cons] at nd
    rw [List.map_cons, List.map_cons, List.map_cons, List.sum_cons, List.sum_cons]
    by_cases e : a.1 = k
    · have hr : ∀ kv ∈ r, kv.1 ≠ k := fun kv hk z => nd.1 (by rw [e, ← z]; exact List.mem_map_of_mem hk)
      have e1 : r.map (fun kv => if kv.1 = k then (kv.1, v) else kv) = r := by
        conv => rhs; rw [← List.map_id r]
        exact List.map_congr_left fun kv hk => by rw [if_neg (hr kv hk)]; rfl
      have ea : a = (k, v0) := by
        rcases List.mem_cons.mp h with h | h
        · exact h.symm
        · exact absurd rfl (hr _ h)
      rw [if_pos e, e1, ea]
      simp only []
      omega
    · have hr : (k, v0) ∈ r := by
        rcases List.mem_cons.mp h with h | h
        · exact absurd (by rw [← h]) e
        · exact h
      rw [if_neg e, sum_put nd.2 hr]
      omega
theorem map_mul_add (w : List Int) (μ γ : Int) : addV (w.map (μ * ·)) (w.map (γ * ·)) = w.map ((μ + γ) * ·) := by
  unfold addV
  induction w with
  | nil => rfl
  | cons a b ih =>
    rw [List.map_cons, List.map_cons, List.zip_cons_cons, List.map_cons, ih, List.map_cons]
    congr 1
    grind
theorem dir_mul {c : List Int} (h : 0 < gcdL c) : (dirL c).map (gcdL c * ·) = c := map_div h fun x hx => gcdL_dvd hx
theorem zero_mul {n : Nat} {w : List Int} (h : w.length = n) : List.replicate n 0 = w.map ((0 : Int) * ·) := by
  subst h
  induction w with
  | nil => rfl
  | cons a b ih => rw [List.length_cons, List.replicate_succ, ih, List.map_cons, Int.zero_mul]
theorem addWay_ok {n : Nat} {kvs : KN} {c : List Int} (ok : WayS kvs) (hl : c.length = n) (hn : ∀ x ∈ c, 0 ≤ x) : WayS (addWay n kvs c) ∧ ∀ F, Hom F → sumF F (addWay n kvs c) = sumF F kvs + F c := by
  unfold addWay
  by_cases hg : 0 < gcdL c
  · rw [if_pos hg]
    have hd : (dirL c).length = n := by rw [dirL, List.length_map, hl]
    have hc := dir_mul hg
    have hdn : ∀ x ∈ dirL c, 0 ≤ x := fun x hx => by
      obtain ⟨y, hy, rfl⟩ := List.mem_map.mp hx
      exact Int.ediv_nonneg (hn y hy) (by omega)
    -- the value known so far
    obtain ⟨μ, hμ, hv⟩ : ∃ μ : Int, 0 ≤ μ ∧ (lookN kvs (dirL c)).getD (List.replicate n 0) = (dirL c).map (μ * ·) := by
      cases e : lookN kvs (dirL c) with
      | none => exact ⟨0, Int.le_refl 0, zero_mul hd⟩
      | some v => exact ok.mul _ (lookN_mem e)
    have hnew : addV ((lookN kvs (dirL c)).getD (List.replicate n 0)) c = (dirL c).map ((μ + gcdL c) * ·) := by
      rw [hv]
      conv => lhs; arg 2; rw [← hc]
      exact map_mul_add ..
    rw [hnew]
    have hF : ∀ F, Hom F → F ((dirL c).map ((μ + gcdL c) * ·)) = F ((dirL c).map (μ * ·)) + F c := fun F h => by
      rw [h _ _ (by omega), h _ _ hμ]
      conv => rhs; arg 2; rw [← hc]
      rw [h _ _ (by omega), Int.add_mul]
    by_cases hk : dirL c ∈ kvs.map (·.1)
    · obtain ⟨kv, hkv, ek⟩ := List.mem_map.mp hk
      have hl0 : lookN kvs (dirL c) = some kv.2 := by rw [← ek]; exact lookN_of ok.nd hkv
      rw [hl0] at hv
      have hv : kv.2 = (dirL c).map (μ * ·) := hv
      have hmem : (dirL c, (dirL c).map (μ * ·)) ∈ kvs := by rw [← hv, ← ek]; exact hkv
      unfold putN
      rw [if_pos (any_key.mpr hk)]
      refine ⟨⟨?_, fun kv' h' => ?_, fun kv' h' => ?_⟩, fun F h => ?_⟩
      · have : (kvs.map fun kv => if kv.1 = dirL c then (kv.1, (dirL c).map ((μ + gcdL c) * ·)) else kv).map (·.1) = kvs.map (·.1) := by
          rw [List.map_map]
          refine List.map_congr_left fun kv _ => ?_
          simp only [Function.comp]
          split <;> rfl
        rw [this]; exact ok.nd
      · obtain ⟨a, ha, rfl⟩ := List.mem_map.mp h'
        by_cases e : a.1 = dirL c
        · rw [if_pos e]; exact ⟨μ + gcdL c, by omega, by rw [e]⟩
        · rw [if_neg e]; exact ok.mul a ha
      · obtain ⟨a, ha, rfl⟩ := List.mem_map.mp h'
        by_cases e : a.1 = dirL c
        · rw [if_pos e]; exact ok.kn a ha
        · rw [if_neg e]; exact ok.kn a ha
      · unfold sumF
        rw [sum_put ok.nd hmem, hF F h]
        omega
    · unfold putN
      rw [if_neg (fun z => hk (any_key.mp z))]
      refine ⟨⟨?_, fun kv' h' => ?_, fun kv' h' => ?_⟩, fun F h => ?_⟩
      · rw [List.map_append, List.nodup_append]
        refine ⟨ok.nd, by simp, fun x hx y hy => ?_⟩
        simp at hy
        subst hy
        exact fun z => hk (by rw [← z]; exact hx)
      · rcases List.mem_append.mp h' with h' | h'
        · exact ok.mul kv' h'
        · simp at h'; subst h'; exact ⟨_, by omega, rfl⟩
      · rcases List.mem_append.mp h' with h' | h'
        · exact ok.kn kv' h'
        · simp at h'; subst h'; exact hdn
      · have h0 : μ = 0 ∨ F ((dirL c).map (μ * ·)) = 0 := by
          rw [lookN_none hk] at hv
          right
          have : List.replicate n (0 : Int) = (dirL c).map (μ * ·) := hv
          rw [← this, zero_mul hd, h _ _ (Int.le_refl 0), Int.zero_mul]
        unfold sumF
        rw [List.map_append, List.sum_append]
        simp only [List.map_cons, List.map_nil, List.sum_cons, List.sum_nil]
        rw [hF F h]
        rcases h0 with h0 | h0
        · subst h0
          rw [h _ _ (Int.le_refl 0), Int.zero_mul]; omega
        · rw [h0]; omega
  · rw [if_neg hg]
    refine ⟨ok, fun F h => ?_⟩
    have hz : c = c.map ((0 : Int) * ·) := by
      conv => lhs; rw [← List.map_id c]
      refine List.map_congr_left fun x hx => ?_
      rw [Int.zero_mul]; exact gcdL_zero_iff hg x hx
    rw [hz, h _ _ (Int.le_refl 0), Int.zero_mul]; omega
theorem wayD_sum {n : Nat} {cs : List (List Int)} (hl : ∀ c ∈ cs, c.length = n) (hn : ∀ c ∈ cs, ∀ x ∈ c, 0 ≤ x) : WayS (wayD n cs) ∧ ∀ F, Hom F → sumF F (wayD n cs) = (cs.map F).sum := by
  have key : ∀ (cs : List (List Int)) (kvs : KN), (∀ c ∈ cs, c.length = n) → (∀ c ∈ cs, ∀ x ∈ c, 0 ≤ x) → WayS kvs → WayS (cs.foldl (addWay n) kvs) ∧ ∀ F, Hom F → sumF F (cs.foldl (addWay n) kvs) = sumF F kvs + (cs.map F).sum := by
    intro cs
    induction cs with
    | nil => intro kvs _ _ ok; exact ⟨ok, fun F _ => by simp⟩
    | cons c r ih =>
      intro kvs h1 h2 ok
      obtain ⟨ok1, e1⟩ := addWay_ok (n := n) (kvs := kvs) ok (h1 c List.mem_cons_self) (h2 c List.mem_cons_self)
      obtain ⟨ok2, e2⟩ := ih (addWay n kvs c) (fun x hx => h1 x (List.mem_cons_of_mem _ hx)) (fun x hx => h2 x (List.mem_cons_of_mem _ hx)) ok1
      refine ⟨ok2, fun F h => ?_⟩
      rw [List.foldl_cons, e2 F h, e1 F h, List.map_cons, List.sum_cons]
      omega
  obtain ⟨a, b⟩ := key cs [] hl hn ⟨by simp, by simp, by simp⟩
  refine ⟨a, fun F h => ?_⟩
  unfold wayD
  rw [b F h]
  simp [sumF]
theorem perm_sum {l m : List Int} (h : l.Perm m) : l.sum = m.sum := by
  induction h with
  | nil => rfl
  | cons x h ih => rw [List.sum_cons, List.sum_cons, ih]
  | swap x y l => rw [List.sum_cons, List.sum_cons, List.sum_cons, List.sum_cons]; omega
  | trans _ _ a b => rw [a, b]
/-- what a sorted row of the keys gives -/
theorem ways_sum {n : Nat} {cs ys : List (List Int)} (hl : ∀ c ∈ cs, c.length = n) (hn : ∀ c ∈ cs, ∀ x ∈ c, 0 ≤ x) (hy : ys.Perm ((wayD n cs).map (·.1))) {F : List Int → Int} (h : Hom F) :
    ((ys.map fun y => (lookN (wayD n cs) y).getD []).map F).sum = (cs.map F).sum := by
  obtain ⟨ok, e⟩ := wayD_sum hl hn
  rw [← e F h, List.map_map]
  have hp := hy.map (F ∘ fun y => (lookN (wayD n cs) y).getD [])
  rw [perm_sum hp, List.map_map]
  unfold sumF
  refine sum_congr fun kv hkv => ?_
  simp only [Function.comp]
  rw [lookN_of ok.nd hkv]
  rfl
theorem cols_tran {n : Nat} {cs : List (List Int)} (h : 1 ≤ n) (hl : ∀ c ∈ cs, c.length = n) : cols (tran n cs) = cs := by
  unfold cols
  rw [tran_wid h]
  apply List.ext_getElem?
  intro i
  rw [List.getElem?_map]
  by_cases hi : i < cs.length
  · rw [List.getElem?_range hi, List.getElem?_eq_getElem hi]
    simp only [Option.map_some, tran, List.map_map]
    congr 1
    have hc := hl _ (List.getElem_mem hi)
    conv => rhs; rw [← range_getD cs[i], hc]
    refine List.map_congr_left fun x _ => ?_
    simp [List.getD_eq_getElem?_getD, hi]
  · rw [List.getElem?_eq_none (by simp; omega), List.getElem?_eq_none (by omega)]
    rfl
theorem cols_at {rows : List (List Int)} {x : Nat} (hx : x < rows.length) (hl : ∀ r ∈ rows, r.length = wid rows) : ((cols rows).map fun c => c.getD x 0).sum = (rows.getD x []).sum := by
  have hm := getD_row (m := rows) hx
  rw [← sum_getD (hl _ hm), cols, List.map_map]
  refine sum_congr fun y _ => ?_
  simp [List.getD_eq_getElem?_getD, hx]
/-- the plain form of a teller is a teller of the same worths -/
theorem plain_ok {d : Int} {rows ys : List (List Int)} (ht : IsTel d rows) (hy : ys.Perm ((wayD rows.length (cols rows)).map (·.1))) :
    ∃ d' rows', plainOut d rows.length (ys.map fun y => (lookN (wayD rows.length (cols rows)) y).getD []) = dTel d' rows' ∧ IsTel d' rows' ∧ rows'.length = rows.length ∧ ∀ s, ratN (worthN rows' s) d' = ratN (worthN rows s) d := by
  have ok := tel_cols ht
  have d1 := ht.d1
  have hws := fun (F : List Int → Int) (h : Hom F) => ways_sum (n := rows.length) ok.len ok.nn hy h
  obtain ⟨wk, wl⟩ := wayD_ok ok (cols rows).length
  rw [List.take_length] at wk wl
  obtain ⟨ws, _⟩ := wayD_sum (n := rows.length) ok.len ok.nn
  have hyl : ys.length = (wayD rows.length (cols rows)).length := by rw [hy.length_eq, List.length_map]
  have hval : ∀ c ∈ ys.map (fun y => (lookN (wayD rows.length (cols rows)) y).getD []), c.length = rows.length ∧ ∀ x ∈ c, 0 ≤ x := fun c hc => by
    obtain ⟨y, hyy, rfl⟩ := List.mem_map.mp hc
    obtain ⟨v, h1, h2⟩ := lookN_key (hy.mem_iff.mp hyy)
    rw [h1]
    refine ⟨wk.vl _ h2, fun x hx => ?_⟩
    obtain ⟨μ, hμ, e⟩ := ws.mul _ h2
    have e : v = y.map (μ * ·) := e
    have hx : x ∈ v := hx
    rw [e] at hx
    obtain ⟨z, hz, rfl⟩ := List.mem_map.mp hx
    exact Int.mul_nonneg hμ (ws.kn _ h2 z hz)
  have hne : wayD rows.length (cols rows) ≠ [] := wayD_ne ok.ex
  generalize hcs : ys.map (fun y => (lookN (wayD rows.length (cols rows)) y).getD []) = cs at *
  have hcl : cs.length = (wayD rows.length (cols rows)).length := by rw [← hcs, List.length_map, hyl]
  have hc1 : 1 ≤ cs.length := by
    rw [hcl]
    exact List.length_pos_iff.mpr hne
  have hc2 : cs.length ≤ 12 := by have := ok.l; omega
  have ro : RowsOk (tran rows.length cs) d 6 12 := by
    refine ⟨by rw [tran_len]; exact ok.n1, by rw [tran_len]; exact ok.n2, by rw [tran_wid ok.n1]; exact hc1, by rw [tran_wid ok.n1]; exact hc2, fun r hr => by rw [tran_wid ok.n1]; exact tran_row hr, fun r hr x hx => ?_, fun r hr => ?_⟩
    · obtain ⟨i, _, rfl⟩ := List.mem_map.mp hr
      obtain ⟨c, hc, rfl⟩ := List.mem_map.mp hx
      exact getD_nn (hval c hc).2 i
    · obtain ⟨i, hi, rfl⟩ := List.mem_map.mp hr
      have hi := List.mem_range.mp hi
      have := hws _ (hom_at i)
      rw [this, cols_at hi ht.ok.len, ht.ok.sum _ (getD_row hi)]
  have hle : d / gcdL (d :: (tran rows.length cs).flatten) ≤ 10 ^ 30 := Int.le_trans (Int.ediv_le_self _ (by omega)) ht.d2
  refine ⟨_, _, rfl, tel_low d1 ro hle, by rw [lowR, List.length_map, tran_len], fun s => ?_⟩
  rw [low_rat d1 ro, worthN_eq, worthN_eq, cols_tran ok.n1 fun c hc => (hval c hc).1]
  congr 1
  exact hws _ (hom_max s)
end J

set_option Elab.async false
set_option linter.all false
set_option maxRecDepth 100000
set_option maxHeartbeats 4000000
/-! J16: a script, the making of a draw, a law. -/
namespace J
open PySem PySem.Spec L2 RZ
def wScr {T : Type} (w : W T) : WL T := fun ρ Φ => w ρ fun d t => ∃ ns, d = .scr ns ∧ Φ (ns.map .int) t
section
variable {T : Type} {X : Cx} {R : Rg T} {pos : Pos}
theorem EI_scr {tg l : Expr} {w : W T} (hl : PE X l (E R w)) (hK : X.K = R.K := by rfl) : PI X tg l (EI R (wScr w)) := PI_imp (pi_seq hl) fun σ H Q ⟨ρ, t, Φ, ok, q, k⟩ =>
  ⟨ρ, _, _, ok, q, fun H1 t1 v d g hD ⟨ns, e, hq⟩ => by
    rw [hK]
    subst e
    cases hD with
    | scr ha =>
      refine .inl ⟨_, rfl, ⟨_, ha.sq⟩, k H1 _ _ _ g ?_ hq⟩
      unfold WD
      rw [List.length_map, ← List.length_map (f := V.int)]
      refine walk_list.mono (fun H2 g => (g.1.lk ha).sq) fun i H2 x H3 hi g y => ?_
      obtain ⟨rfl, y⟩ := y
      obtain ⟨d, e, hd⟩ := (dens_ints ns).getV y
      exact ⟨fun t gd => .refl gd, d, e, hd⟩⟩
end
theorem fm_ints (p : Int → Prop) [DecidablePred p] (g : Int → Int) : ∀ ns : List Int, (ns.flatMap fun x => if p x then [D.int (g x)] else []) = (ns.flatMap fun x => if p x then [g x] else []).map D.int
  | [] => rfl
  | a :: ns => by
    rw [List.flatMap_cons, List.flatMap_cons, List.map_append, fm_ints p g ns]
    split <;> rfl
def spB (K : PySem.W.Frag) : Sp := fun vs H Q _ => ∃ (a : Addr) (ns : List Int), vs = [.ref a] ∧ LK K H a (ns.map V.int) ∧ ns.length ≤ 63 ∧ ∀ H' d l c t, Same H H' → DrawAt K d l c t H' → Dr 0 t → Q (.ref d) H'
def spL (K : PySem.W.Frag) : Sp := fun vs H Q _ => ∃ (a : Addr) (ns : List Int), vs = [.ref a] ∧ LK K H a (ns.map V.int) ∧ ns.length ≤ 63 ∧ ∀ H', Q (.bl true) H'
def tAny (K : PySem.W.Frag) (ww : Addr → WS DS) : TS := fun D σ H => ∃ H0 d l c t0, S (drawR K H0 d l c t0) (ww d) D σ H
theorem pss_any {X : Cx} {K : PySem.W.Frag} {rest : List Stmt} {ww : Addr → WS DS} (h : ∀ H0 d l c t0, PSs X rest (S (drawR K H0 d l c t0) (ww d))) : PSs X rest (tAny K ww) :=
  ⟨fun pins s σ H D I ⟨H0, d, l, c, t0, q⟩ => (h H0 d l c t0).run pins s σ H D I q⟩
section
variable {P : Program} {w : World} {K : PySem.W.Frag} {mg : Str → Option Value} {base : Heap}
/-- draw = _law_begun(script), and all behind it under the draw -/
def tBegin (K : PySem.W.Frag) (E0 : XK) (ww : Addr → WS DS) : TS := fun D σ H => tAsg (tCall (spB K) [] E0 (tCons (tVar 0) tNil)) (gName 1) { D with nx := fun σ' H' => tAny K ww D σ' H' } σ H
theorem begin_ok {N : List Str} {E0 : XK} {ww : Addr → WS DS} {a : Addr} {ns : List Int} {H : Hp} {D : Ends} (hN : 2 ≤ N.length) (hl : LK K H a (ns.map V.int)) (h63 : ns.length ≤ 63) (hrt : ∀ v H', v = .bl true → D.rt v H')
    (vc : ∀ d t, Dr 0 t → ww d ((startE N [.scr ns]).set 1 (.val (.hdl d))) { nx := fun _ _ => False, rt := fun v _ => v = .bl true } t) : tBegin K E0 ww D (L2.start N [.ref a]) H := by
  refine ⟨.ref a, ?_, a, ns, rfl, hl, h63, fun H' d l c t sm da dr => ?_⟩
  · unfold L2.start
    rw [List.getElem?_append_left (by simp)]
    rfl
  refine ⟨H', d, l, c, t, (startE N [.scr ns]).set 1 (.val (.hdl d)), t, _, ?_, vc d t dr, ?_⟩
  · have ok : EnvOk (drawR K H' d l c t) t H' (L2.start N [.ref a]) (startE N [.scr ns]) := start_ok (R := drawR K H' d l c t) (t := t) da rfl rfl (.cons (.scr ?_) .nil)
    · exact ok.set 1 (.hdl d)
    · rcases hl with ⟨o, h⟩ | h
      · exact .inl ⟨o, sm _ _ h⟩
      · exact .inr h
  · exact ⟨fun _ _ _ _ _ _ z => z.elim, fun v H' d' t' _ _ hd e => by subst e; cases hd; exact hrt _ _ rfl, fun _ _ _ _ _ _ z => z.elim, fun _ _ _ _ _ _ z => z.elim⟩
end
end J

set_option Elab.async false
set_option linter.all false
set_option maxRecDepth 100000
set_option maxHeartbeats 4000000
/-! J17: data that can be compared; slices; bounds. -/
namespace J
open PySem PySem.Spec L2 RZ
/-! ### comparable data -/
structure ShpN (n : Nat) (d : D) : Prop where
  lay : d.toP.canLay0 = true
  dep : d.toP.depth ≤ n
theorem ShpN.shp {n : Nat} {d : D} (h : ShpN n d) (hn : n ≤ 64) : d.shp := by
  unfold D.shp SeqAt.shaped
  rw [h.lay, Bool.true_and]
  exact decide_eq_true (Nat.le_trans h.dep hn)
theorem ShpN.mono {n m : Nat} {d : D} (h : ShpN n d) (hn : n ≤ m) : ShpN m d := ⟨h.lay, Nat.le_trans h.dep hn⟩
theorem shp_lays {n : Nat} : ∀ {ds : List D}, (∀ d ∈ ds, ShpN n d) → PyData.canLayAll0 (toPs ds) = true ∧ PyData.depthAll (toPs ds) ≤ n
  | [], _ => ⟨rfl, Nat.zero_le _⟩
  | d :: ds, h => by
    obtain ⟨a, b⟩ := shp_lays (ds := ds) fun e he => h e (List.mem_cons_of_mem _ he)
    have h1 := h d List.mem_cons_self
    rw [toPs, PyData.canLayAll0, PyData.depthAll, h1.lay, a]
    exact ⟨rfl, Nat.max_le.mpr ⟨h1.dep, b⟩⟩
theorem ShpN.tup {n : Nat} {ds : List D} (h : ∀ d ∈ ds, ShpN n d) : ShpN (n + 1) (.tup ds) := by
  obtain ⟨a, b⟩ := shp_lays h
  exact ⟨by rw [D.toP, PyData.canLay0]; exact a, by rw [D.toP, PyData.depth]; omega⟩
theorem ShpN.lst {n : Nat} {ds : List D} (h : ∀ d ∈ ds, ShpN n d) : ShpN (n + 1) (.lst ds) := by
  obtain ⟨a, b⟩ := shp_lays h
  exact ⟨by rw [D.toP, PyData.canLay0]; exact a, by rw [D.toP, PyData.depth]; omega⟩
theorem ShpN.int (i : Int) : ShpN 0 (.int i) := ⟨rfl, Nat.le_refl 0⟩
theorem ShpN.str {x : Str} (h : (D.str x).toP.canLay0 = true) : ShpN 0 (.str x) := ⟨h, Nat.le_refl 0⟩
theorem shpN_stakes : ShpN 0 (.str "stakes") := .str (by decide +kernel)
theorem shpN_dI (r : List Int) : ShpN 1 (dI r) := .tup fun d hd => by
  obtain ⟨i, _, rfl⟩ := List.mem_map.mp hd
  exact .int i
theorem shpN_rows (g : List (List Int)) : ShpN 2 (dRows g) := .tup fun d hd => by
  obtain ⟨r, _, rfl⟩ := List.mem_map.mp hd
  exact shpN_dI r
theorem shpN_sta (g : List (List Int)) : ShpN 3 (dSta g) := .tup fun d hd => by
  rcases List.mem_cons.mp hd with rfl | hd
  · exact shpN_stakes.mono (by decide)
  · rw [List.mem_singleton.mp hd]; exact shpN_rows g
theorem shpN_rat (q : Int × Int) : ShpN 1 (dRat q) := .tup fun d hd => by
  rcases List.mem_cons.mp hd with rfl | hd
  · exact .int _
  · rw [List.mem_singleton.mp hd]; exact .int _
theorem shp_sta (g : List (List Int)) : (dSta g).shp := (shpN_sta g).shp (by decide)
theorem shp_rat (q : Int × Int) : (dRat q).shp := (shpN_rat q).shp (by decide)
theorem shp_dI (r : List Int) : (dI r).shp := (shpN_dI r).shp (by decide)
theorem D.eq_self {n : Nat} {d : D} (h : ShpN n d) : d.eq d = true := SeqAt.eqv_refl d.toP h.lay
theorem sta_eq (g : List (List Int)) : (dSta g).eq (dSta g) = true := D.eq_self (shpN_sta g)
theorem rat_eq (q : Int × Int) : (dRat q).eq (dRat q) = true := D.eq_self (shpN_rat q)
theorem dI_eq (r : List Int) : (dI r).eq (dI r) = true := D.eq_self (shpN_dI r)
/-! ### slices -/
theorem cut_take (xs : List D) (k : Nat) : cutD xs none (some (k : Int)) = xs.take k := by
  unfold cutD
  rw [HT.sIx_none, HT.sIx_nat, List.drop_zero, Nat.sub_zero]
  by_cases h : k ≤ xs.length
  · rw [Nat.min_eq_left h]
  · rw [Nat.min_eq_right (by omega), List.take_of_length_le (Nat.le_refl _), List.take_of_length_le (by omega)]
theorem cut_drop (xs : List D) (k : Nat) : cutD xs (some (k : Int)) none = xs.drop k := by
  unfold cutD
  rw [HT.sIx_none, HT.sIx_nat]
  by_cases h : k ≤ xs.length
  · rw [Nat.min_eq_left h, List.take_of_length_le (by rw [List.length_drop]; omega)]
  · rw [Nat.min_eq_right (by omega), List.drop_eq_nil_of_le (by omega), List.drop_eq_nil_of_le (by omega)]; simp
/-! ### a statement, what is behind it out of sight -/
theorem sq_abs {T : Type} {w1 w2 : WS T} {ρ : Env} {Φ : DE T} {t : T} (h : ∀ N : Env → T → Prop, (∀ ρ' t', w2 ρ' Φ t' → N ρ' t') → w1 ρ { Φ with nx := N } t) : wSq w1 w2 ρ Φ t := h _ fun _ _ z => z
def forI {T : Type} (p : Pat) (wb : WS T) (ρ : Env) (Φ : DE T) (ds : List D) (t : T) : Prop := ∃ I : Nat → Env → T → Prop, I 0 ρ t ∧ (∀ k ρ1 t1 d, I k ρ1 t1 → ds[k]? = some d → ∃ ρ2, bindP p d ρ1 = some ρ2 ∧ wb ρ2 { Φ with nx := I (k + 1), ct := I (k + 1), bk := Φ.nx } t1) ∧ ∀ ρ1 t1, I ds.length ρ1 t1 → Φ.nx ρ1 t1
theorem for_abs {T : Type} {wi : WL T} {p : Pat} {wb : WS T} {ρ : Env} {Φ : DE T} {t : T} (h : ∀ WB, WB = wb → wi ρ (forI p WB ρ Φ) t) : wFor wi p wb ρ Φ t := h wb rfl
theorem forI_mk {T : Type} {p : Pat} {wb : WS T} {ρ : Env} {Φ : DE T} {ds : List D} {t : T} (I : Nat → Env → T → Prop) (h0 : I 0 ρ t)
    (hs : ∀ k ρ1 t1 d, I k ρ1 t1 → ds[k]? = some d → ∃ ρ2, bindP p d ρ1 = some ρ2 ∧ ∀ N : Env → T → Prop, (∀ ρ' t', I (k + 1) ρ' t' → N ρ' t') → wb ρ2 { Φ with nx := N, ct := N, bk := Φ.nx } t1) (he : ∀ ρ1 t1, I ds.length ρ1 t1 → Φ.nx ρ1 t1) : forI p wb ρ Φ ds t :=
  ⟨I, h0, fun k ρ1 t1 d i e => by
    obtain ⟨ρ2, a, b⟩ := hs k ρ1 t1 d i e
    exact ⟨ρ2, a, b _ fun _ _ z => z⟩, he⟩
/-! ### bounds -/
/-- stakes of small gains -/
structure Sg (n : Nat) (B : Int) (g : List (List Int)) : Prop where
  l1 : 1 ≤ g.length
  len : ∀ r ∈ g, r.length = n
  bd : ∀ r ∈ g, ∀ x ∈ r, -B ≤ x ∧ x ≤ B
theorem wid_of {g : List (List Int)} {n : Nat} (h1 : 1 ≤ g.length) (h : ∀ r ∈ g, r.length = n) : wid g = n := by
  obtain ⟨r, rs, hr, hw⟩ := head_wid h1
  rw [hw]; exact h r (by rw [hr]; exact List.mem_cons_self)
theorem Sg.wid {n : Nat} {B : Int} {g : List (List Int)} (h : Sg n B g) : wid g = n := wid_of h.l1 h.len
theorem sm_of {B x : Int} (h : -B ≤ x ∧ x ≤ B) (hB : B ≤ 1000) : Sm 20 x := by
  unfold Sm
  have : (1000 : Nat) < 2 ^ 20 := by decide
  omega
theorem Sg.sta {n : Nat} {B : Int} {g : List (List Int)} (h : Sg n B g) (l2 : g.length ≤ 12) (n1 : 1 ≤ n) (n2 : n ≤ 6) (hB : B ≤ 1000) : IsSta g :=
  ⟨h.l1, l2, by rw [h.wid]; exact n1, by rw [h.wid]; exact n2, fun r hr => by rw [h.wid]; exact h.len r hr, fun r hr x hx => (sm_of (h.bd r hr x hx) hB).mono (by decide)⟩
theorem Sg.mono {n : Nat} {B C : Int} {g : List (List Int)} (h : Sg n B g) (hBC : B ≤ C) : Sg n C g := ⟨h.l1, h.len, fun r hr x hx => by have := h.bd r hr x hx; omega⟩
theorem Sg.take {n k : Nat} {B : Int} {g : List (List Int)} (h : Sg n B g) (hk : 1 ≤ k) : Sg n B (g.take k) :=
  ⟨by rw [List.length_take]; have := h.l1; omega, fun r hr => h.len r (List.mem_of_mem_take hr), fun r hr => h.bd r (List.mem_of_mem_take hr)⟩
theorem Sg.app {n : Nat} {B : Int} {g k : List (List Int)} (h : Sg n B g) (h' : ∀ r ∈ k, r.length = n ∧ ∀ x ∈ r, -B ≤ x ∧ x ≤ B) : Sg n B (g ++ k) :=
  ⟨by rw [List.length_append]; have := h.l1; omega, fun r hr => by
    rcases List.mem_append.mp hr with hr | hr
    · exact h.len r hr
    · exact (h' r hr).1, fun r hr => by
    rcases List.mem_append.mp hr with hr | hr
    · exact h.bd r hr
    · exact (h' r hr).2⟩
theorem sumG_len (h : List (List Int)) : ∀ l : List (List Int), (sumG l h).length = l.length * h.length
  | [] => by simp [sumG]
  | a :: b => by
    have ih := sumG_len h b
    rw [sumG] at ih
    rw [sumG, List.flatMap_cons, List.length_append, List.length_map, List.length_cons, Nat.add_mul, Nat.one_mul, Nat.add_comm, ih]
theorem mem_zip_get {a b : List Int} {p : Int × Int} (h : p ∈ a.zip b) : p.1 ∈ a ∧ p.2 ∈ b := List.of_mem_zip h
theorem Sg.sum {n : Nat} {B C : Int} {g h : List (List Int)} (hg : Sg n B g) (hh : Sg n C h) : Sg n (B + C) (sumG g h) := by
  refine ⟨?_, fun r hr => ?_, fun r hr x hx => ?_⟩
  · rw [sumG_len]
    exact Nat.mul_pos hg.l1 hh.l1
  · obtain ⟨a, ha, b, hb, rfl⟩ := mem_sumG.mp hr
    rw [List.length_map, List.length_zip, hg.len a ha, hh.len b hb]; omega
  · obtain ⟨a, ha, b, hb, rfl⟩ := mem_sumG.mp hr
    obtain ⟨p, hp, rfl⟩ := List.mem_map.mp hx
    obtain ⟨h1, h2⟩ := mem_zip_get hp
    have b1 := hg.bd a ha p.1 h1
    have b2 := hh.bd b hb p.2 h2
    omega
theorem mvd_len {s : Nat} {k : Int} {a : List Int} (h : s < a.length) : (mvd s k a).length = a.length := by
  unfold mvd
  rw [List.length_append, List.length_take, List.length_cons, List.length_drop]; omega
theorem Sg.mv {n s : Nat} {B k : Int} {g : List (List Int)} (h : Sg n B g) (hs : s < n) (hk : -4 ≤ k ∧ k ≤ 4) : Sg n (B + 4) (g.map (mvd s k)) := by
  refine ⟨by rw [List.length_map]; exact h.l1, fun r hr => ?_, fun r hr x hx => ?_⟩
  · obtain ⟨a, ha, rfl⟩ := List.mem_map.mp hr
    rw [mvd_len (by rw [h.len a ha]; exact hs)]; exact h.len a ha
  · obtain ⟨a, ha, rfl⟩ := List.mem_map.mp hr
    unfold mvd at hx
    rcases List.mem_append.mp hx with hx | hx
    · have := h.bd a ha x (List.mem_of_mem_take hx); omega
    · rcases List.mem_cons.mp hx with rfl | hx
      · have := h.bd a ha _ (getD_mem (by rw [h.len a ha]; exact hs)); omega
      · have := h.bd a ha x (List.mem_of_mem_drop hx); omega
theorem dot_bd {B : Int} (hB : 0 ≤ B) : ∀ (a c : List Int), (∀ x ∈ a, -B ≤ x ∧ x ≤ B) → (∀ x ∈ c, 0 ≤ x) → dot a c ≤ B * c.sum ∧ -(B * c.sum) ≤ dot a c
  | [], c, _, h => by
    rw [dot_nil]
    have := Int.mul_nonneg hB (sum_nn h)
    omega
  | _ :: _, [], _, _ => by rw [dot_nil']; simp
  | x :: a, y :: c, h, h' => by
    obtain ⟨i1, i2⟩ := dot_bd hB a c (fun z hz => h z (List.mem_cons_of_mem _ hz)) fun z hz => h' z (List.mem_cons_of_mem _ hz)
    obtain ⟨x1, x2⟩ := h x List.mem_cons_self
    have y0 := h' y List.mem_cons_self
    rw [dot_cons, List.sum_cons, Int.mul_add]
    have p1 : x * y ≤ B * y := Int.mul_le_mul_of_nonneg_right x2 y0
    have p2 : -B * y ≤ x * y := Int.mul_le_mul_of_nonneg_right x1 y0
    rw [Int.neg_mul] at p2
    omega
theorem cols_total {d : Int} {rows : List (List Int)} {a b : Nat} (h : RowsOk rows d a b) : ((cols rows).map List.sum).sum = rows.length * d := by
  rw [cols, List.map_map]
  have e : ((List.range (wid rows)).map (List.sum ∘ fun y => rows.map fun r => r.getD y 0)).sum = (rows.map fun r => ((List.range (wid rows)).map fun y => r.getD y 0).sum).sum := by
    rw [sum_swap]
    rfl
  rw [e, sum_congr (g := fun _ => d) fun r hr => by rw [sum_getD (h.len r hr), h.sum r hr], sum_const]
theorem W_bd {d B : Int} {rows s : List (List Int)} {a b n : Nat} (h : RowsOk rows d a b) (hs : Sg n B s) (hB : 0 ≤ B) : worthN rows s ≤ B * (rows.length * d) ∧ -(B * (rows.length * d)) ≤ worthN rows s := by
  have hc : ∀ c ∈ cols rows, ∀ x ∈ c, 0 ≤ x := fun c hc x hx => by
    obtain ⟨r, hr, hxr⟩ := cols_mem h.len hc hx
    exact h.nn r hr x hxr
  have key : ∀ c ∈ cols rows, maxL (sumsAt s c) ≤ B * c.sum ∧ -(B * c.sum) ≤ maxL (sumsAt s c) := fun c hcm => by
    obtain ⟨v, hv, e⟩ := mem_sumsAt.mp (maxL_ex (sumsAt_ne (c := c) hs.l1))
    rw [← e]
    exact dot_bd hB v c (hs.bd v hv) (hc c hcm)
  rw [← cols_total h, worthN, ← sum_mulL]
  refine ⟨sum_le fun c hcm => (key c hcm).1, ?_⟩
  have e : -((cols rows).map fun c => B * c.sum).sum = ((cols rows).map fun c => -(B * c.sum)).sum := by
    have := sum_mulL (-1) (fun c : List Int => B * c.sum) (cols rows)
    simp only [Int.neg_mul, Int.one_mul] at this
    exact this.symm
  rw [e]
  exact sum_le fun c hcm => (key c hcm).2
theorem W_sm {d B : Int} {rows s : List (List Int)} {n : Nat} (h : IsTel d rows) (hs : Sg n B s) (hB : 0 ≤ B) (hB2 : B ≤ 1000) : Sm 300 (worthN rows s) := by
  obtain ⟨h1, h2⟩ := W_bd h.ok hs hB
  have l2 := h.ok.l2
  have d1 := h.d1
  have d2 := h.d2
  have e1 : (rows.length : Int) * d ≤ 6 * 10 ^ 30 := Int.mul_le_mul (by omega) d2 (by omega) (by decide)
  have e0 : 0 ≤ (rows.length : Int) * d := Int.mul_nonneg (by omega) (by omega)
  have e2 : B * (rows.length * d) ≤ 1000 * (6 * 10 ^ 30) := Int.mul_le_mul hB2 e1 e0 (by decide)
  unfold Sm
  have e3 : (1000 : Int) * (6 * 10 ^ 30) < 2 ^ 300 := by decide
  have e4 : ((2 ^ 300 : Nat) : Int) = 2 ^ 300 := by decide
  omega
theorem rat_sm {d B : Int} {rows s : List (List Int)} {n : Nat} (h : IsTel d rows) (hs : Sg n B s) (hB : 0 ≤ B) (hB2 : B ≤ 1000) : Sm 300 (ratN (worthN rows s) d).1 ∧ Sm 300 (ratN (worthN rows s) d).2 ∧ 0 < (ratN (worthN rows s) d).2 :=
  ⟨(W_sm h hs hB hB2).div, ((small_d h).mono (by decide)).div, (ratN_spec _ (by have := h.d1; omega)).2.1⟩
theorem sums_bd {B : Int} {s : List (List Int)} {n : Nat} (hs : Sg n B s) (hB : 0 ≤ B) (hB2 : B ≤ 1000) (hn : n ≤ 6) : Sm 300 (maxL (s.map List.sum)) := by
  have hne : s.map List.sum ≠ [] := fun e => by
    have := congrArg List.length e
    rw [List.length_map] at this
    simp at this
    have l1 := hs.l1
    rw [this] at l1
    simp at l1
  obtain ⟨v, hv, e⟩ := List.mem_map.mp (maxL_ex hne)
  rw [← e]
  have hd := dot_bd hB v (List.replicate n 1) (hs.bd v hv) fun x hx => by rw [List.eq_of_mem_replicate hx]; decide
  have e1 : dot v (List.replicate n 1) = v.sum := by
    rw [dot_const 1 v _ (by rw [List.length_replicate]; exact hs.len v hv) fun x hx => List.eq_of_mem_replicate hx]; omega
  have e2 : (List.replicate n (1 : Int)).sum = n := by
    have : ∀ n : Nat, (List.replicate n (1 : Int)).sum = n := fun n => by
      induction n with
      | zero => rfl
      | succ k ih => rw [List.replicate_succ, List.sum_cons, ih]; omega
    exact this n
  rw [e1, e2] at hd
  have : B * n ≤ 1000 * 6 := Int.mul_le_mul hB2 (by omega) (by omega) (by decide)
  unfold Sm
  have e4 : ((2 ^ 300 : Nat) : Int) = 2 ^ 300 := by decide
  have e3 : (6000 : Int) < 2 ^ 300 := by decide
  omega
theorem best_fm (w : List Int) : ((List.range w.length).flatMap fun a => if w.getD a 0 = maxL w then [D.int (a : Nat)] else []) = (bestL w).map D.int := by
  unfold bestL
  rw [List.map_map]
  have e : ∀ l : List Nat, (l.flatMap fun i => if w.getD i 0 = maxL w then [D.int (i : Nat)] else []) = (l.filter fun a => decide (w.getD a 0 = maxL w)).map (D.int ∘ fun (a : Nat) => (a : Int)) := by
    intro l
    induction l with
    | nil => rfl
    | cons a b ih =>
      rw [List.flatMap_cons, ih, List.filter_cons]
      by_cases hh : w.getD a 0 = maxL w
      · rw [if_pos hh, if_pos (decide_eq_true hh)]; rfl
      · rw [if_neg hh, if_neg (by simpa using hh)]; rfl
  exact e _
theorem sm_one : Sm 400000 1 := Nat.one_lt_two_pow (by decide)
end J

set_option Elab.async false
set_option linter.all false
set_option maxRecDepth 100000
set_option maxHeartbeats 4000000
namespace J
open PySem PySem.Spec L2 RZ
local macro_rules | `(tactic| walk_at "jv") => `(tactic| simp only [wSq, wIfS, wOrT, wAndT, wNotT, wB, wIsi, wName, wRet, wC, wNilS, wAndV, wOrV, wNotV, wBin, wUn, wIf, wChain, fI0, fI, fIsN, fNotN, fB, fAdd, fEq, fNe, fIx, wCall, wCons, wNil, wTup, wDrop, wSet, wOwn, wFrzA, wFrzB, wAsg, wPar, wxVal, wxOwn, wxNil, bindX, bindP, bindN, wLs, wLst, wLc, wLc2, lcBody, wYes, wipeE, J.wSeq, wRange1, wRange2, wEnum, wZip, wSl, wSlL, wNoO, wSomeO, wAppend, wExtend, wSetIx, wOwnIx, wOwnLen, wFor, wWhile, fLen, fAbs, fMin2, fMax2, fInt, fSum, fMax, fAll, fAny, fTuple, fList, fCat, fRep, startE, List.map, List.cons_append, List.nil_append, List.getElem?_cons_zero, List.getElem?_cons_succ, List.set_cons_zero, List.set_cons_succ, List.length_cons, List.length_nil, List.replicate, Option.some.injEq, Sl.val.injEq, Sl.own.injEq, D.int.injEq, D.bl.injEq, D.tup.injEq, D.lst.injEq, exists_eq_left', exists_eq_left, exists_eq_right, true_and, and_true, if_true, List.cons.injEq, exists_and_left, exists_const, items_tup, items_lst, isT_tup, isT_lst, atI_0, atI_1, atI_2, addD_int, addD_tup, intD_int, intD_bl, dTel, dRows, dI, dSta, dGar, dRat, tyq_tup, tyq_lst, tyq_int, tyq_str, tyq_bl, tyq_non, isi_tt, isi_ss, isi_ii, isi_ib, shp_eq_int, shp_eq_teller, shp_eq_stakes, shp_eq_garbler, eq_str_self, eq_int, Bool.not_true, Bool.not_false, Bool.false_eq_true, if_false, List.length_map, decide_eq_true_eq, Bool.not_eq_true', decide_eq_false_iff_not, Nat.zero_add, Nat.reduceAdd, ite_true, ite_false, Int.reduceAdd, wDctNew, wDctGet, wDctIx, wDctPut, wDctSorted, fRepT, Sl.dct.injEq, wCallT, fsT, lenI_tup, lenI_lst, lenI_scr, fsD, wDrTurn, wDrRest, wDrCells, wDrAny, wDrPop, wDrSetR, wDrSetT, drIs])
def topS (i : Nat) : Stmt := PySem.Challenge.pw_toldnoless_k90_whole_across_stakes.main.body.getD i (.Pass ⟨0, 0, 0, 0⟩)
structure Txt (mg : Str → Option Value) : Prop where
  bt : Bt mg
  k_STATES : ∃ t, mg "STATES" = some (.int (6) t)
  k_WORDS_tellers : ∃ t, mg "WORDS_tellers" = some (.int (12) t)
  k_DIGITS_tellers : ∃ t, mg "DIGITS_tellers" = some (.int (30) t)
  k_MOST_tellers : ∃ t, mg "MOST_tellers" = some (.int (10 ^ 30) t)
  k_DEEDS : ∃ t, mg "DEEDS" = some (.int (12) t)
  k_WORDS_garblers : ∃ t, mg "WORDS_garblers" = some (.int (12) t)
  k_DIGITS_garblers : ∃ t, mg "DIGITS_garblers" = some (.int (30) t)
  k_MOST_garblers : ∃ t, mg "MOST_garblers" = some (.int (10 ^ 30) t)
abbrev s_is_number : Stmt := topS 13
theorem sc_is_number : FnScope ["thing", "low", "high"] ["thing", "low", "high"] (defScope s_is_number) := ⟨rfl, rfl, rfl, by decide +kernel, rfl, by decide +kernel, by decide +kernel⟩
abbrev s_divisor : Stmt := topS 14
theorem sc_divisor : FnScope ["one", "other"] ["one", "other"] (defScope s_divisor) := ⟨rfl, rfl, rfl, by decide +kernel, rfl, by decide +kernel, by decide +kernel⟩
abbrev s_common_tellers : Stmt := topS 15
theorem sc_common_tellers : FnScope ["numbers", "found", "number"] ["numbers"] (defScope s_common_tellers) := ⟨rfl, rfl, rfl, by decide +kernel, rfl, by decide +kernel, by decide +kernel⟩
abbrev s_ratio : Stmt := topS 17
theorem sc_ratio : FnScope ["top", "bottom", "by"] ["top", "bottom"] (defScope s_ratio) := ⟨rfl, rfl, rfl, by decide +kernel, rfl, by decide +kernel, by decide +kernel⟩
abbrev s_columns_of : Stmt := topS 18
theorem sc_columns_of : FnScope ["teller", "rows", "word", "row"] ["teller"] (defScope s_columns_of) := ⟨rfl, rfl, rfl, by decide +kernel, rfl, by decide +kernel, by decide +kernel⟩
abbrev s_are_rows_tellers : Stmt := topS 19
theorem sc_are_rows_tellers : FnScope ["thing", "total", "most", "wide", "row", "one"] ["thing", "total", "most", "wide"] (defScope s_are_rows_tellers) := ⟨rfl, rfl, rfl, by decide +kernel, rfl, by decide +kernel, by decide +kernel⟩
abbrev s_is_teller : Stmt := topS 21
theorem sc_is_teller : FnScope ["thing"] ["thing"] (defScope s_is_teller) := ⟨rfl, rfl, rfl, by decide +kernel, rfl, by decide +kernel, by decide +kernel⟩
abbrev s_check_teller : Stmt := topS 22
theorem sc_check_teller : FnScope ["teller"] ["teller"] (defScope s_check_teller) := ⟨rfl, rfl, rfl, by decide +kernel, rfl, by decide +kernel, by decide +kernel⟩
abbrev s_check_word : Stmt := topS 23
theorem sc_check_word : FnScope ["teller", "word"] ["teller", "word"] (defScope s_check_word) := ⟨rfl, rfl, rfl, by decide +kernel, rfl, by decide +kernel, by decide +kernel⟩
abbrev s_made : Stmt := topS 24
theorem sc_made : FnScope ["d", "rows", "by", "row", "one"] ["d", "rows"] (defScope s_made) := ⟨rfl, rfl, rfl, by decide +kernel, rfl, by decide +kernel, by decide +kernel⟩
section
variable {P : Program} {w : World} {K : PySem.W.Frag} {mg : Str → Option Value} {base : Heap}
theorem ok_is_number (T : Txt mg)  {f : Addr} {fd : FuncData} (F : Fun K "is_number" "is_number" s_is_number f fd) : FnOk P w K mg base CX0 1 f fd ["thing", "low", "high"] (spP K 3 fs_is_number) := by
  refine ok_P F sc_is_number rfl (fun cdv A outer s H E hr =>
    (S_cons (S_if (PW.pt (EB_or (EB_val (E_isi (ty := "bool") (by decide) (fun h => pe_callB call_isi rfl T.bt.b_isinstance b_isinstance (pa_cons h (pa_cons (pe_bltn rfl T.bt.b_bool b_bool rfl) pa_nil))) (E_name (pv 0)))) (EB_or1 (EB_not (EB_val (E_isi (ty := "int") (by decide) (fun h => pe_callB call_isi rfl T.bt.b_isinstance b_isinstance (pa_cons h (pa_cons (pe_bltn rfl T.bt.b_int b_int rfl) pa_nil))) (E_name (pv 0)))))))) (S_one (S_ret E_bl)) S_nil)
      (S_one (S_ret (E_and (E_cmp op_ge opd_B0 (E_name (pv 0)) (E_name (pv 1)) (nomark _)) (E_one (E_or (E_cmp op_isN opd_isN (E_name (pv 2)) E_non (nomark _)) (E_one (E_cmp op_le opd_B0 (E_name (pv 0)) (E_name (pv 2)) (nomark _)))))))))) (fun ds Φ hn h => ?_)
  obtain ⟨d, lo, hi, rfl, hd, hq⟩ := h
  walk_at "jv"
  cases d <;> cases hi <;> simp_all [isNum, D.ty, isiB, optI] <;> split <;> simp_all

theorem ok_divisor (T : Txt mg)  {f : Addr} {fd : FuncData} (F : Fun K "divisor" "divisor" s_divisor f fd) : FnOk P w K mg base CX0 1 f fd ["one", "other"] (spP K 2 fs_divisor) := by
  refine ok_P F sc_divisor rfl (fun cdv A outer s H E hr =>
    (S_cons (S_while PassesOwn.never (EB_cmp (op_neD hr.units) opd_ne (E_name (pv 1)) E_int (nomark _)) (S_one (S_par2 (i := 0) (j := 1) (by decide) (ps_par (by rfl) sc_divisor.nd rfl rfl (by decide) rfl rfl (EX_val (E_name (pv 1)) (EX_val (E_bin op_modN opd_I (E_name (pv 0)) (E_name (pv 1))) EX_nil)) (by rfl)))))
      (S_one (S_ret (E_cb (fun h => pe_callB call_abs rfl T.bt.b_abs b_abs h) opn_abs (EA_cons (E_name (pv 0)) EA_nil)))))) (fun ds Φ hn h => ?_)
  obtain ⟨a, b, rfl, hq⟩ := h
  walk_at "jv"
  refine ⟨fun m ρ _ => ∃ x y : Int, ρ = [.val (.int x), .val (.int y)] ∧ gcdI x y = gcdI a b ∧ m = y.natAbs, ⟨_, a, b, rfl, rfl, rfl⟩, ?_⟩
  rintro m ρ _ ⟨x, y, rfl, hg, rfl⟩
  walk_at "jv"
  by_cases hy : y = 0
  · subst hy
    simp
    rw [← gcdI_zero, hg]
    exact hq
  · simp [hy]
    exact ⟨_, fmod_lt x hy, y, x.fmod y, ⟨rfl, rfl⟩, (gcdI_fmod x y).trans hg, rfl⟩

theorem ok_common_tellers (T : Txt mg) (c_divisor : Cal P w K mg base 1 "divisor" ["one", "other"] (spP K 2 fs_divisor)) {f : Addr} {fd : FuncData} (F : Fun K "common" "common" s_common_tellers f fd) : FnOk P w K mg base CX0 2 f fd ["numbers"] (spP K 1 fs_common_tellers) := by
  refine ok_P F sc_common_tellers rfl (fun cdv A outer s H E hr =>
    (S_cons (S_set (i := 1) (ps_set (i := 1) sc_common_tellers.nd rfl (by first | exact Or.inl rfl | exact Or.inr rfl) E_int))
      (S_cons (S_for PassesOwn.never rfl (EI_seq (E_name (pv 0))) (EG_name (pg_name (i := 2) sc_common_tellers.nd rfl (by first | exact Or.inl rfl | exact Or.inr rfl))) (S_one (S_set (i := 1) (ps_set (i := 1) sc_common_tellers.nd rfl (by first | exact Or.inl rfl | exact Or.inr rfl) (E_callC c_divisor (hr.mono (by decide)) rfl tk_P (EA_cons (E_name (pv 1)) (EA_cons (E_name (pv 2)) EA_nil)))))))
      (S_one (S_ret (E_name (pv 1))))))) (fun ds Φ hn h => ?_)
  obtain ⟨d, ns, rfl, hi, hq⟩ := h
  walk_at "jv"
  refine ⟨ns.map .int, hi.items, fun k ρ _ => ∃ z, ρ = [.val d, .val (.int (gcdL (ns.take k))), z], ⟨_, rfl⟩, ?_, ?_⟩
  · rintro k ρ _ e ⟨z, rfl⟩ he
    obtain ⟨n, hn, rfl⟩ := map_at he
    walk_at "jv"
    exact ⟨_, _, rfl, by rw [gcdL_take hn], _, rfl⟩
  · rintro ρ _ ⟨z, rfl⟩
    walk_at "jv"
    rw [List.take_length]
    exact hq

theorem ok_ratio (T : Txt mg) (c_divisor : Cal P w K mg base 1 "divisor" ["one", "other"] (spP K 2 fs_divisor)) {f : Addr} {fd : FuncData} (F : Fun K "ratio" "ratio" s_ratio f fd) : FnOk P w K mg base CX0 2 f fd ["top", "bottom"] (spP K 2 fs_ratio) := by
  refine ok_P F sc_ratio rfl (fun cdv A outer s H E hr =>
    (S_cons (S_set (i := 2) (ps_set (i := 2) sc_ratio.nd rfl (by first | exact Or.inl rfl | exact Or.inr rfl) (E_callC c_divisor (hr.mono (by decide)) rfl tk_P (EA_cons (E_name (pv 0)) (EA_cons (E_name (pv 1)) EA_nil)))))
      (S_one (S_ret (E_tup (EA_cons (E_bin op_fdivW opd_I (E_name (pv 0)) (E_name (pv 2))) (EA_cons (E_bin op_fdivW opd_I (E_name (pv 1)) (E_name (pv 2))) EA_nil))))))) (fun ds Φ hn h => ?_)
  obtain ⟨a, b, rfl, hb, hs, hq⟩ := h
  walk_at "jv"
  refine ⟨a, b, rfl, ?_⟩
  have h1 : 0 < gcdI a b := gcdI_pos hb
  have h2 := gcdI_le (a := a) hb
  have h3 : CDivW a (gcdI a b) := wide_div h1 (wide_le (Int.le_of_lt h1) h2 hs) (by decide) (by decide)
  exact ⟨_, rfl, h3, _, rfl, h3, by decide, hq⟩

theorem ok_columns_of (T : Txt mg)  {f : Addr} {fd : FuncData} (F : Fun K "columns_of" "columns_of" s_columns_of f fd) : FnOk P w K mg base CX0 1 f fd ["teller"] (spP K 1 fs_columns_of) := by
  refine ok_P F sc_columns_of rfl (fun cdv A outer s H E hr =>
    (S_cons (S_set (i := 1) (ps_set (i := 1) sc_columns_of.nd rfl (by first | exact Or.inl rfl | exact Or.inr rfl) (E_ix (E_name (pv 0)) E_int)))
      (S_one (S_ret (E_ls (EL_lc (own := [("word", 2)]) rfl sc_columns_of.nd (blkOk_by (by first | decide +kernel | rfl)) (by decide) (EI_range1 (fun h => pi_range1 rfl T.bt.b_range h) (EA_cons (E_cb (fun h => pe_callB call_len_seq rfl T.bt.b_len b_len h) opn_len (EA_cons (E_ix (E_name (pv 1)) E_int) EA_nil)) EA_nil)) (fun _ _ _ _ _ => (EG_name (pg_name (i := 2) sc_columns_of.nd rfl (by first | exact Or.inl rfl | exact Or.inr rfl)))) (fun _ _ _ _ _ => ETs_nil) (fun _ _ _ _ _ => (E_cb (fun h => pe_callTy call_tuple_of rfl T.bt.b_tuple b_tuple h) opn_tuple (EA_cons (E_ls (EL_lc (own := [("row", 3)]) rfl sc_columns_of.nd (blkOk_by (by first | decide +kernel | rfl)) (by decide) (EI_seq (E_name (pv 1))) (fun _ _ _ _ _ => (EG_name (pg_name (i := 3) sc_columns_of.nd rfl (by first | exact Or.inl rfl | exact Or.inr rfl)))) (fun _ _ _ _ _ => ETs_nil) (fun _ _ _ _ _ => (E_ix (E_name (pv 3)) (E_name (pv 2)))))) EA_nil))))))))) (fun ds Φ hn h => ?_)
  obtain ⟨d, rows, rfl, ht, hq⟩ := h
  obtain ⟨r0, rs, hr, hw⟩ := head_wid ht.ok.l1
  have hw2 := ht.ok.w2
  walk_at "jv"
  refine ⟨dI r0, by rw [hr]; exact atI_0 _ _, r0.map .int, rfl, by omega, ?_, ?_, ?_⟩
  · rw [List.length_map]; omega
  · rw [rangeD_len, List.length_map, sizeL]; omega
  · rw [List.length_map, Int.toNat_natCast, ← hw, rangeD_eq]
    refine lcRun_mapOf _ (fun y => dI (rows.map fun r => r.getD y 0)) _ (fun y hy K t hK => ?_) ?_
    · walk_at "jv"
      refine ⟨?_, ?_⟩
      · rw [sizeL]; have := ht.ok.l2; omega
      · refine lcRun_mapOf _ (fun r => D.int (r.getD y 0)) _ (fun r hr K t hK => ?_) ?_
        · walk_at "jv"
          refine ⟨_, ?_, hK⟩
          rw [atI_map, atI_getD (by rw [ht.ok.len r hr]; exact List.mem_range.mp hy)]
          rfl
        · rw [dI, List.map_map] at hK; exact hK
    · simpa [cols, Function.comp_def] using hq

theorem ok_are_rows_tellers (T : Txt mg) (c_is_number : Cal P w K mg base 1 "is_number" ["thing", "low", "high"] (spP K 3 fs_is_number)) {f : Addr} {fd : FuncData} (F : Fun K "are_rows" "are_rows" s_are_rows_tellers f fd) : FnOk P w K mg base CX0 2 f fd ["thing", "total", "most", "wide"] (spP K 4 fs_are_rows_tellers) := by
  refine ok_P F sc_are_rows_tellers rfl (fun cdv A outer s H E hr =>
    (S_cons (S_if (PW.pt (EB_or (EB_not (EB_val (E_isi (ty := "tuple") (by decide) (fun h => pe_callB call_isi rfl T.bt.b_isinstance b_isinstance (pa_cons h (pa_cons (pe_bltn rfl T.bt.b_tuple b_tuple rfl) pa_nil))) (E_name (pv 0))))) (EB_or1 (EB_not (EB_chain op_le op_le opd_B0 opd_B0 E_int (E_cb (fun h => pe_callB call_len_seq rfl T.bt.b_len b_len h) opn_len (EA_cons (E_name (pv 0)) EA_nil)) (E_name (pv 2))))))) (S_one (S_ret E_bl)) S_nil)
      (S_cons (S_if (EB_not (EB_val (E_cb (fun h => pe_callB (cr_all rfl) rfl T.bt.b_all b_all h) opn_all (EA_cons (E_ls (EL_lc (own := [("row", 4)]) rfl sc_are_rows_tellers.nd (blkOk_by (by first | decide +kernel | rfl)) (by decide) (EI_seq (E_name (pv 0))) (fun _ _ _ _ _ => (EG_name (pg_name (i := 4) sc_are_rows_tellers.nd rfl (by first | exact Or.inl rfl | exact Or.inr rfl)))) (fun _ _ _ _ _ => ETs_nil) (fun _ _ _ _ _ => (E_and (E_isi (ty := "tuple") (by decide) (fun h => pe_callB call_isi rfl T.bt.b_isinstance b_isinstance (pa_cons h (pa_cons (pe_bltn rfl T.bt.b_tuple b_tuple rfl) pa_nil))) (E_name (pv 4))) (E_one (E_chain op_le op_le opd_B0 opd_B0 E_int (E_cb (fun h => pe_callB call_len_seq rfl T.bt.b_len b_len h) opn_len (EA_cons (E_name (pv 4)) EA_nil)) (E_name (pv 3)))))))) EA_nil)))) (S_one (S_ret E_bl)) S_nil)
      (S_cons (S_if (EB_not (EB_val (E_cb (fun h => pe_callB (cr_all rfl) rfl T.bt.b_all b_all h) opn_all (EA_cons (E_ls (EL_lc2 (own := [("row", 4), ("one", 5)]) (vs1 := [5]) rfl sc_are_rows_tellers.nd (blkOk_by (by first | decide +kernel | rfl)) (by decide) (by decide) (by decide) (EI_seq (E_name (pv 0))) (fun _ _ _ _ _ => (EG_name (pg_name (i := 4) sc_are_rows_tellers.nd rfl (by first | exact Or.inl rfl | exact Or.inr rfl)))) (fun _ _ _ _ _ => ETs_nil) (fun _ _ _ _ _ => (EI_seq (E_name (pv 4)))) (fun _ _ _ _ _ => (EG_name (pg_name (i := 5) sc_are_rows_tellers.nd rfl (by first | exact Or.inl rfl | exact Or.inr rfl)))) (fun _ _ _ _ _ => ETs_nil) (fun _ _ _ _ _ => (E_callC c_is_number (hr.mono (by decide)) rfl tk_P (EA_cons (E_name (pv 5)) (EA_cons E_int (EA_cons E_non EA_nil))))))) EA_nil)))) (S_one (S_ret E_bl)) S_nil)
      (S_one (S_ret (E_cb (fun h => pe_callB (cr_all rfl) rfl T.bt.b_all b_all h) opn_all (EA_cons (E_ls (EL_lc (own := [("row", 4)]) rfl sc_are_rows_tellers.nd (blkOk_by (by first | decide +kernel | rfl)) (by decide) (EI_seq (E_name (pv 0))) (fun _ _ _ _ _ => (EG_name (pg_name (i := 4) sc_are_rows_tellers.nd rfl (by first | exact Or.inl rfl | exact Or.inr rfl)))) (fun _ _ _ _ _ => ETs_nil) (fun _ _ _ _ _ => (E_and (E_cmp (op_eqD hr.units) opd_eq (E_cb (fun h => pe_callB call_len_seq rfl T.bt.b_len b_len h) opn_len (EA_cons (E_name (pv 4)) EA_nil)) (E_cb (fun h => pe_callB call_len_seq rfl T.bt.b_len b_len h) opn_len (EA_cons (E_ix (E_name (pv 0)) E_int) EA_nil)) (nomark _)) (E_one (E_cmp (op_eqD hr.units) opd_eq (E_cb (fun h => pe_callB (cr_sumS rfl) rfl T.bt.b_sum b_sum h) opn_sum (EA_cons (E_name (pv 4)) EA_nil)) (E_name (pv 1)) (nomark _))))))) EA_nil)))))))) (fun ds Φ hn h => ?_)
  obtain ⟨rows, total, most, wide, rfl, ok, hm, hw, hq⟩ := h
  have l1 := ok.l1
  have l2 := ok.l2
  obtain ⟨r0, hr0, hlr0, hat⟩ := head_at l1
  have i1 : (1 : Int) ≤ rows.length := by omega
  have i2 : (rows.length : Int) ≤ most := by omega
  walk_at "jv"
  simp only [i1, i2, if_true, if_false, not_true]
  refine ⟨by rw [sizeL]; omega, ?_⟩
  refine lcRun_mapOf _ (fun _ => D.bl true) _ (fun r hr K t hK => ?_) ?_
  · walk_at "jv"
    have h1 := ok.w1
    have h2 := ok.w2
    have h3 := ok.len r hr
    rw [if_pos (by omega)]
    rw [decide_eq_true (by omega)]
    exact hK
  refine ⟨rows.map fun _ => true, by simp [Function.comp_def], ?_⟩
  rw [if_neg (by simp)]
  refine lc2_mapOf _ (fun r => r) D.int (fun _ _ => D.bl true) rows (fun r hr => ?_) ?_ ?_
  · refine ⟨_, rfl, fun Kb t h => h, fun Kl t h => ?_, fun y hy => ⟨_, rfl, fun Kb t h => h, fun K' t h => ?_⟩⟩
    · walk_at "jv"; exact h
    · walk_at "jv"
      refine ⟨.int y, 0, none, rfl, by simp [D.ty], ?_⟩
      have := ok.nn r hr y hy
      simp [isNum, this]
      exact h
  · rw [flatMap_id', sizeL]
    exact Nat.le_trans (flat_len (a := 12) (b := 12) (by omega) (fun r hr => by rw [ok.len r hr]; have := ok.w2; omega)) (by decide)
  refine ⟨rows.flatMap fun r => r.map fun _ => true, by simp [List.map_flatMap, Function.comp_def], ?_⟩
  rw [if_neg (by simp [List.all_flatMap])]
  refine ⟨by rw [sizeL]; omega, ?_⟩
  refine lcRun_mapOf _ (fun _ => D.bl true) _ (fun r hr K t hK => ?_) ?_
  · walk_at "jv"
    refine ⟨_, hat, _, rfl, ?_⟩
    walk_at "jv"
    rw [if_pos (by rw [ok.len r hr, hlr0])]
    refine ⟨r, .inr rfl, ?_⟩
    rw [ok.sum r hr]
    simpa using hK
  refine ⟨rows.map fun _ => true, by simp [Function.comp_def], ?_⟩
  have e : (rows.map fun _ => true).all id = true := by simp
  rw [e]
  exact hq

theorem ok_is_teller (T : Txt mg) (c_is_number : Cal P w K mg base 1 "is_number" ["thing", "low", "high"] (spP K 3 fs_is_number)) (c_are_rows_tellers : Cal P w K mg base 2 "are_rows_tellers" ["thing", "total", "most", "wide"] (spP K 4 fs_are_rows_tellers)) {f : Addr} {fd : FuncData} (F : Fun K "is_teller" "is_teller" s_is_teller f fd) : FnOk P w K mg base CX0 3 f fd ["thing"] (spP K 1 fs_is_teller) := by
  obtain ⟨t_STATES, k_STATES⟩ := T.k_STATES
  obtain ⟨t_WORDS_tellers, k_WORDS_tellers⟩ := T.k_WORDS_tellers
  obtain ⟨t_MOST_tellers, k_MOST_tellers⟩ := T.k_MOST_tellers
  refine ok_P F sc_is_teller rfl (fun cdv A outer s H E hr =>
    (S_cons (S_if (PW.pt (EB_or (EB_not (EB_val (E_isi (ty := "tuple") (by decide) (fun h => pe_callB call_isi rfl T.bt.b_isinstance b_isinstance (pa_cons h (pa_cons (pe_bltn rfl T.bt.b_tuple b_tuple rfl) pa_nil))) (E_name (pv 0))))) (EB_or (EB_cmp (op_neD hr.units) opd_ne (E_cb (fun h => pe_callB call_len_seq rfl T.bt.b_len b_len h) opn_len (EA_cons (E_name (pv 0)) EA_nil)) E_int (nomark _)) (EB_or (EB_not (EB_val (E_isi (ty := "str") (by decide) (fun h => pe_callB call_isi rfl T.bt.b_isinstance b_isinstance (pa_cons h (pa_cons (pe_bltn rfl T.bt.b_str b_str rfl) pa_nil))) (E_ix (E_name (pv 0)) E_int)))) (EB_or1 (EB_cmp (op_neD hr.units) opd_ne (E_ix (E_name (pv 0)) E_int) E_str (nomark _))))))) (S_one (S_ret E_bl)) S_nil)
      (S_one (S_ret (E_and (E_callC c_is_number (hr.mono (by decide)) rfl tk_P (EA_cons (E_ix (E_name (pv 0)) E_int) (EA_cons E_int (EA_cons (E_gint rfl k_MOST_tellers) EA_nil)))) (E_one (E_callC c_are_rows_tellers (hr.mono (by decide)) rfl tk_P (EA_cons (E_ix (E_name (pv 0)) E_int) (EA_cons (E_ix (E_name (pv 0)) E_int) (EA_cons (E_gint rfl k_STATES) (EA_cons (E_gint rfl k_WORDS_tellers) EA_nil))))))))))) (fun ds Φ hn h => ?_)
  obtain ⟨d, rows, rfl, ht, hq⟩ := h
  have h1 := ht.d1
  have h2 := ht.d2
  walk_at "jv"
  refine ⟨.int d, 1, some (10 ^ 30), rfl, by simp [D.ty], ?_⟩
  rw [isNum, decide_eq_true h1]
  simp only [h2, decide_true, Bool.and_true, if_true]
  walk_at "jv"
  exact ⟨rows, d, 6, 12, rfl, ht.ok, by decide, by decide, hq⟩

theorem ok_check_teller (T : Txt mg) (c_is_teller : Cal P w K mg base 3 "is_teller" ["thing"] (spP K 1 fs_is_teller)) {f : Addr} {fd : FuncData} (F : Fun K "check_teller" "check_teller" s_check_teller f fd) : FnOk P w K mg base CX0 4 f fd ["teller"] (spP K 1 fs_check_teller) := by
  refine ok_P F sc_check_teller rfl (fun cdv A outer s H E hr =>
    (S_one (S_if (EB_not (EB_val (E_callC c_is_teller (hr.mono (by decide)) rfl tk_P (EA_cons (E_name (pv 0)) EA_nil)))) (S_one S_never) S_nil))) (fun ds Φ hn h => ?_)
  obtain ⟨d, rows, rfl, ht, hq⟩ := h
  walk_at "jv"
  refine ⟨d, rows, rfl, ht, ?_⟩
  simp
  exact hq

theorem ok_check_word (T : Txt mg) (c_is_number : Cal P w K mg base 1 "is_number" ["thing", "low", "high"] (spP K 3 fs_is_number)) {f : Addr} {fd : FuncData} (F : Fun K "check_word" "check_word" s_check_word f fd) : FnOk P w K mg base CX0 2 f fd ["teller", "word"] (spP K 2 fs_check_word) := by
  refine ok_P F sc_check_word rfl (fun cdv A outer s H E hr =>
    (S_one (S_if (EB_not (EB_val (E_callC c_is_number (hr.mono (by decide)) rfl tk_P (EA_cons (E_name (pv 1)) (EA_cons E_int (EA_cons (E_bin op_sub opd_I0 (E_cb (fun h => pe_callB call_len_seq rfl T.bt.b_len b_len h) opn_len (EA_cons (E_ix (E_ix (E_name (pv 0)) E_int) E_int) EA_nil)) E_int) EA_nil)))))) (S_one S_never) S_nil))) (fun ds Φ hn h => ?_)
  obtain ⟨d, rows, n, rfl, ht, h0, h1, hq⟩ := h
  obtain ⟨r0, hr0, hlr0, hat⟩ := head_at ht.ok.l1
  walk_at "jv"
  refine ⟨_, hat, _, rfl, .int n, 0, some ((r0.map D.int).length - 1), rfl, by simp [D.ty], ?_⟩
  rw [List.length_map, hlr0]
  simp [isNum]
  exact ⟨⟨h0, by omega⟩, hq⟩

theorem ok_made (T : Txt mg) (c_common_tellers : Cal P w K mg base 2 "common_tellers" ["numbers"] (spP K 1 fs_common_tellers)) {f : Addr} {fd : FuncData} (F : Fun K "made" "made" s_made f fd) : FnOk P w K mg base CX0 3 f fd ["d", "rows"] (spP K 2 fs_made) := by
  obtain ⟨t_WORDS_tellers, k_WORDS_tellers⟩ := T.k_WORDS_tellers
  obtain ⟨t_DIGITS_tellers, k_DIGITS_tellers⟩ := T.k_DIGITS_tellers
  obtain ⟨t_MOST_tellers, k_MOST_tellers⟩ := T.k_MOST_tellers
  refine ok_P F sc_made rfl (fun cdv A outer s H E hr =>
    (S_cons (S_if (EB_cmp op_gt opd_B0 (E_cb (fun h => pe_callB call_len_seq rfl T.bt.b_len b_len h) opn_len (EA_cons (E_ix (E_name (pv 1)) E_int) EA_nil)) (E_gint rfl k_WORDS_tellers) (nomark _)) (S_one S_never) S_nil)
      (S_cons (S_set (i := 2) (ps_set (i := 2) sc_made.nd rfl (by first | exact Or.inl rfl | exact Or.inr rfl) (E_callC c_common_tellers (hr.mono (by decide)) rfl tk_P (EA_cons (E_ls (EL_bin op_catR opd_cat (E_ls (EL_lst (EA_cons (E_name (pv 0)) EA_nil))) (E_ls (EL_lc2 (own := [("row", 3), ("one", 4)]) (vs1 := [4]) rfl sc_made.nd (blkOk_by (by first | decide +kernel | rfl)) (by decide) (by decide) (by decide) (EI_seq (E_name (pv 1))) (fun _ _ _ _ _ => (EG_name (pg_name (i := 3) sc_made.nd rfl (by first | exact Or.inl rfl | exact Or.inr rfl)))) (fun _ _ _ _ _ => ETs_nil) (fun _ _ _ _ _ => (EI_seq (E_name (pv 3)))) (fun _ _ _ _ _ => (EG_name (pg_name (i := 4) sc_made.nd rfl (by first | exact Or.inl rfl | exact Or.inr rfl)))) (fun _ _ _ _ _ => ETs_nil) (fun _ _ _ _ _ => (E_name (pv 4))))))) EA_nil))))
      (S_cons (S_if (EB_cmp op_gt opd_B0 (E_bin op_fdivW opd_I (E_name (pv 0)) (E_name (pv 2))) (E_gint rfl k_MOST_tellers) (nomark _)) (S_one S_never) S_nil)
      (S_one (S_ret (E_tup (EA_cons E_str (EA_cons (E_bin op_fdivW opd_I (E_name (pv 0)) (E_name (pv 2))) (EA_cons (E_cb (fun h => pe_callTy call_tuple_of rfl T.bt.b_tuple b_tuple h) opn_tuple (EA_cons (E_ls (EL_lc (own := [("row", 3)]) rfl sc_made.nd (blkOk_by (by first | decide +kernel | rfl)) (by decide) (EI_seq (E_name (pv 1))) (fun _ _ _ _ _ => (EG_name (pg_name (i := 3) sc_made.nd rfl (by first | exact Or.inl rfl | exact Or.inr rfl)))) (fun _ _ _ _ _ => ETs_nil) (fun _ _ _ _ _ => (E_cb (fun h => pe_callTy call_tuple_of rfl T.bt.b_tuple b_tuple h) opn_tuple (EA_cons (E_ls (EL_lc (own := [("one", 4)]) rfl sc_made.nd (blkOk_by (by first | decide +kernel | rfl)) (by decide) (EI_seq (E_name (pv 3))) (fun _ _ _ _ _ => (EG_name (pg_name (i := 4) sc_made.nd rfl (by first | exact Or.inl rfl | exact Or.inr rfl)))) (fun _ _ _ _ _ => ETs_nil) (fun _ _ _ _ _ => (E_bin op_fdivW opd_I (E_name (pv 4)) (E_name (pv 2)))))) EA_nil))))) EA_nil)) EA_nil)))))))))) (fun ds Φ hn h => ?_)
  obtain ⟨d, rows, rfl, l1, l2, w2, hl, d0, sd, hM, hq⟩ := h
  obtain ⟨r0, hr0, hlr0, hat⟩ := head_at l1
  obtain ⟨g0, g1⟩ := gcdL_pos (l := rows.flatten) d0
  have hc : ∀ x, CDivW x (gcdL (d :: rows.flatten)) := fun x => Sm.cdiv (sd.le (by omega) g1) g0 (by decide) (by decide)
  walk_at "jv"
  refine ⟨_, hat, _, rfl, ?_⟩
  walk_at "jv"
  rw [if_neg (by omega)]
  refine ⟨by decide, ?_⟩
  refine lc2_mapOf _ (fun r => r) D.int (fun _ x => D.int x) rows (fun r hr => ?_) ?_ ?_
  · refine ⟨_, rfl, fun Kb t h => h, fun Kl t h => ?_, fun y hy => ⟨_, rfl, fun Kb t h => h, fun K' t h => ?_⟩⟩
    · walk_at "jv"; exact h
    · walk_at "jv"; exact h
  · rw [flatMap_id', sizeL]
    exact Nat.le_trans (flat_len l2 (fun r hr => by rw [hl r hr]; exact w2)) (by decide)
  rw [flatMap_int]
  refine ⟨?_, _, d :: rows.flatten, rfl, .inl rfl, ?_⟩
  · have := flat_len l2 (fun r hr => by rw [hl r hr]; exact w2)
    rw [List.length_map, sizeL]; omega
  walk_at "jv"
  refine ⟨hc d, ?_⟩
  rw [if_neg (by omega)]
  refine ⟨hc d, by rw [sizeL]; omega, ?_⟩
  refine lcRun_mapOf _ (fun r => dI (r.map (· / gcdL (d :: rows.flatten)))) _ (fun r hr K t hK => ?_) ?_
  · walk_at "jv"
    refine ⟨by rw [hl r hr, sizeL]; omega, ?_⟩
    refine lcRun_mapOf _ (fun x => D.int (x / gcdL (d :: rows.flatten))) _ (fun x hx K t hK => ?_) ?_
    · walk_at "jv"
      exact ⟨hc x, hK⟩
    · rw [dI, List.map_map] at hK; exact hK
  · refine ⟨by decide, ?_⟩
    have e : dRows (lowR (gcdL (d :: rows.flatten)) rows) = D.tup (rows.map fun r => dI (r.map fun x => x / gcdL (d :: rows.flatten))) := by
      simp [lowR, dRows, Function.comp_def]
    rw [dTel, e] at hq
    exact hq

end
end J

set_option Elab.async false
set_option linter.all false
set_option maxRecDepth 100000
set_option maxHeartbeats 4000000
namespace J
open PySem PySem.Spec L2 RZ
local macro_rules | `(tactic| walk_at "jv") => `(tactic| simp only [wSq, wIfS, wOrT, wAndT, wNotT, wB, wIsi, wName, wRet, wC, wNilS, wAndV, wOrV, wNotV, wBin, wUn, wIf, wChain, fI0, fI, fIsN, fNotN, fB, fAdd, fEq, fNe, fIx, wCall, wCons, wNil, wTup, wDrop, wSet, wOwn, wFrzA, wFrzB, wAsg, wPar, wxVal, wxOwn, wxNil, bindX, bindP, bindN, wLs, wLst, wLc, wLc2, lcBody, wYes, wipeE, J.wSeq, wRange1, wRange2, wEnum, wZip, wSl, wSlL, wNoO, wSomeO, wAppend, wExtend, wSetIx, wOwnIx, wOwnLen, wFor, wWhile, fLen, fAbs, fMin2, fMax2, fInt, fSum, fMax, fAll, fAny, fTuple, fList, fCat, fRep, startE, List.map, List.cons_append, List.nil_append, List.getElem?_cons_zero, List.getElem?_cons_succ, List.set_cons_zero, List.set_cons_succ, List.length_cons, List.length_nil, List.replicate, Option.some.injEq, Sl.val.injEq, Sl.own.injEq, D.int.injEq, D.bl.injEq, D.tup.injEq, D.lst.injEq, exists_eq_left', exists_eq_left, exists_eq_right, true_and, and_true, if_true, List.cons.injEq, exists_and_left, exists_const, items_tup, items_lst, isT_tup, isT_lst, atI_0, atI_1, atI_2, addD_int, addD_tup, intD_int, intD_bl, dTel, dRows, dI, dSta, dGar, dRat, tyq_tup, tyq_lst, tyq_int, tyq_str, tyq_bl, tyq_non, isi_tt, isi_ss, isi_ii, isi_ib, shp_eq_int, shp_eq_teller, shp_eq_stakes, shp_eq_garbler, eq_str_self, eq_int, Bool.not_true, Bool.not_false, Bool.false_eq_true, if_false, List.length_map, decide_eq_true_eq, Bool.not_eq_true', decide_eq_false_iff_not, Nat.zero_add, Nat.reduceAdd, ite_true, ite_false, Int.reduceAdd, wDctNew, wDctGet, wDctIx, wDctPut, wDctSorted, fRepT, Sl.dct.injEq, wCallT, fsT, lenI_tup, lenI_lst, lenI_scr, fsD, wDrTurn, wDrRest, wDrCells, wDrAny, wDrPop, wDrSetR, wDrSetT, drIs])
abbrev s_are_stakes : Stmt := topS 27
theorem sc_are_stakes : FnScope ["thing", "gains", "deed", "gain"] ["thing"] (defScope s_are_stakes) := ⟨rfl, rfl, rfl, by decide +kernel, rfl, by decide +kernel, by decide +kernel⟩
abbrev s_are_stakes_for : Stmt := topS 28
theorem sc_are_stakes_for : FnScope ["many", "thing"] ["many", "thing"] (defScope s_are_stakes_for) := ⟨rfl, rfl, rfl, by decide +kernel, rfl, by decide +kernel, by decide +kernel⟩
abbrev s_check_stakes : Stmt := topS 29
theorem sc_check_stakes : FnScope ["stakes"] ["stakes"] (defScope s_check_stakes) := ⟨rfl, rfl, rfl, by decide +kernel, rfl, by decide +kernel, by decide +kernel⟩
abbrev s_check_stakes_for : Stmt := topS 30
theorem sc_check_stakes_for : FnScope ["many", "stakes"] ["many", "stakes"] (defScope s_check_stakes_for) := ⟨rfl, rfl, rfl, by decide +kernel, rfl, by decide +kernel, by decide +kernel⟩
abbrev s_check_second : Stmt := topS 36
theorem sc_check_second : FnScope ["stakes", "second"] ["stakes", "second"] (defScope s_check_second) := ⟨rfl, rfl, rfl, by decide +kernel, rfl, by decide +kernel, by decide +kernel⟩
abbrev s_sums_at : Stmt := topS 31
theorem sc_sums_at : FnScope ["stakes", "numbers", "deed", "gain", "one"] ["stakes", "numbers"] (defScope s_sums_at) := ⟨rfl, rfl, rfl, by decide +kernel, rfl, by decide +kernel, by decide +kernel⟩
abbrev s_made_stakes : Stmt := topS 37
theorem sc_made_stakes : FnScope ["deeds"] ["deeds"] (defScope s_made_stakes) := ⟨rfl, rfl, rfl, by decide +kernel, rfl, by decide +kernel, by decide +kernel⟩
abbrev s_is_whole : Stmt := topS 44
theorem sc_is_whole : FnScope ["thing", "low"] ["thing", "low"] (defScope s_is_whole) := ⟨rfl, rfl, rfl, by decide +kernel, rfl, by decide +kernel, by decide +kernel⟩
abbrev s_common_garblers : Stmt := topS 45
theorem sc_common_garblers : FnScope ["numbers", "found", "number", "rest"] ["numbers"] (defScope s_common_garblers) := ⟨rfl, rfl, rfl, by decide +kernel, rfl, by decide +kernel, by decide +kernel⟩
abbrev s_worth_told : Stmt := topS 32
theorem sc_worth_told : FnScope ["teller", "stakes", "numbers"] ["teller", "stakes"] (defScope s_worth_told) := ⟨rfl, rfl, rfl, by decide +kernel, rfl, by decide +kernel, by decide +kernel⟩
abbrev s_worth : Stmt := topS 33
theorem sc_worth : FnScope ["teller", "stakes"] ["teller", "stakes"] (defScope s_worth) := ⟨rfl, rfl, rfl, by decide +kernel, rfl, by decide +kernel, by decide +kernel⟩
abbrev s_best_deeds : Stmt := topS 34
theorem sc_best_deeds : FnScope ["teller", "stakes", "word", "sums", "deed", "one"] ["teller", "stakes", "word"] (defScope s_best_deeds) := ⟨rfl, rfl, rfl, by decide +kernel, rfl, by decide +kernel, by decide +kernel⟩
abbrev s_unheard : Stmt := topS 35
theorem sc_unheard : FnScope ["stakes", "deed"] ["stakes"] (defScope s_unheard) := ⟨rfl, rfl, rfl, by decide +kernel, rfl, by decide +kernel, by decide +kernel⟩
abbrev s_stakes_either : Stmt := topS 39
theorem sc_stakes_either : FnScope ["stakes", "second"] ["stakes", "second"] (defScope s_stakes_either) := ⟨rfl, rfl, rfl, by decide +kernel, rfl, by decide +kernel, by decide +kernel⟩
abbrev s_are_rows_garblers : Stmt := topS 47
theorem sc_are_rows_garblers : FnScope ["thing", "sure", "most", "row", "number"] ["thing", "sure", "most"] (defScope s_are_rows_garblers) := ⟨rfl, rfl, rfl, by decide +kernel, rfl, by decide +kernel, by decide +kernel⟩
abbrev s_is_garbler : Stmt := topS 49
theorem sc_is_garbler : FnScope ["thing"] ["thing"] (defScope s_is_garbler) := ⟨rfl, rfl, rfl, by decide +kernel, rfl, by decide +kernel, by decide +kernel⟩
abbrev s_check_garbler : Stmt := topS 50
theorem sc_check_garbler : FnScope ["teller", "garbler"] ["teller", "garbler"] (defScope s_check_garbler) := ⟨rfl, rfl, rfl, by decide +kernel, rfl, by decide +kernel, by decide +kernel⟩
section
variable {P : Program} {w : World} {K : PySem.W.Frag} {mg : Str → Option Value} {base : Heap}
theorem ok_are_stakes (T : Txt mg)  {f : Addr} {fd : FuncData} (F : Fun K "are_stakes" "are_stakes" s_are_stakes f fd) : FnOk P w K mg base CX0 1 f fd ["thing"] (spP K 1 fs_are_stakes) := by
  obtain ⟨t_STATES, k_STATES⟩ := T.k_STATES
  obtain ⟨t_DEEDS, k_DEEDS⟩ := T.k_DEEDS
  refine ok_P F sc_are_stakes rfl (fun cdv A outer s H E hr =>
    (S_cons (S_if (PW.pt (EB_or (EB_not (EB_val (E_isi (ty := "tuple") (by decide) (fun h => pe_callB call_isi rfl T.bt.b_isinstance b_isinstance (pa_cons h (pa_cons (pe_bltn rfl T.bt.b_tuple b_tuple rfl) pa_nil))) (E_name (pv 0))))) (EB_or (EB_cmp (op_neD hr.units) opd_ne (E_cb (fun h => pe_callB call_len_seq rfl T.bt.b_len b_len h) opn_len (EA_cons (E_name (pv 0)) EA_nil)) E_int (nomark _)) (EB_or (EB_not (EB_val (E_isi (ty := "str") (by decide) (fun h => pe_callB call_isi rfl T.bt.b_isinstance b_isinstance (pa_cons h (pa_cons (pe_bltn rfl T.bt.b_str b_str rfl) pa_nil))) (E_ix (E_name (pv 0)) E_int)))) (EB_or1 (EB_cmp (op_neD hr.units) opd_ne (E_ix (E_name (pv 0)) E_int) E_str (nomark _))))))) (S_one (S_ret E_bl)) S_nil)
      (S_cons (S_set (i := 1) (ps_set (i := 1) sc_are_stakes.nd rfl (by first | exact Or.inl rfl | exact Or.inr rfl) (E_ix (E_name (pv 0)) E_int)))
      (S_cons (S_if (PW.pt (EB_or (EB_not (EB_val (E_isi (ty := "tuple") (by decide) (fun h => pe_callB call_isi rfl T.bt.b_isinstance b_isinstance (pa_cons h (pa_cons (pe_bltn rfl T.bt.b_tuple b_tuple rfl) pa_nil))) (E_name (pv 1))))) (EB_or1 (EB_not (EB_chain op_le op_le opd_B0 opd_B0 E_int (E_cb (fun h => pe_callB call_len_seq rfl T.bt.b_len b_len h) opn_len (EA_cons (E_name (pv 1)) EA_nil)) (E_gint rfl k_DEEDS)))))) (S_one (S_ret E_bl)) S_nil)
      (S_cons (S_if (EB_not (EB_val (E_cb (fun h => pe_callB (cr_all rfl) rfl T.bt.b_all b_all h) opn_all (EA_cons (E_ls (EL_lc (own := [("deed", 2)]) rfl sc_are_stakes.nd (blkOk_by (by first | decide +kernel | rfl)) (by decide) (EI_seq (E_name (pv 1))) (fun _ _ _ _ _ => (EG_name (pg_name (i := 2) sc_are_stakes.nd rfl (by first | exact Or.inl rfl | exact Or.inr rfl)))) (fun _ _ _ _ _ => ETs_nil) (fun _ _ _ _ _ => (E_and (E_isi (ty := "tuple") (by decide) (fun h => pe_callB call_isi rfl T.bt.b_isinstance b_isinstance (pa_cons h (pa_cons (pe_bltn rfl T.bt.b_tuple b_tuple rfl) pa_nil))) (E_name (pv 2))) (E_one (E_chain op_le op_le opd_B0 opd_B0 E_int (E_cb (fun h => pe_callB call_len_seq rfl T.bt.b_len b_len h) opn_len (EA_cons (E_name (pv 2)) EA_nil)) (E_gint rfl k_STATES))))))) EA_nil)))) (S_one (S_ret E_bl)) S_nil)
      (S_cons (S_if (EB_not (EB_val (E_cb (fun h => pe_callB (cr_all rfl) rfl T.bt.b_all b_all h) opn_all (EA_cons (E_ls (EL_lc2 (own := [("deed", 2), ("gain", 3)]) (vs1 := [3]) rfl sc_are_stakes.nd (blkOk_by (by first | decide +kernel | rfl)) (by decide) (by decide) (by decide) (EI_seq (E_name (pv 1))) (fun _ _ _ _ _ => (EG_name (pg_name (i := 2) sc_are_stakes.nd rfl (by first | exact Or.inl rfl | exact Or.inr rfl)))) (fun _ _ _ _ _ => ETs_nil) (fun _ _ _ _ _ => (EI_seq (E_name (pv 2)))) (fun _ _ _ _ _ => (EG_name (pg_name (i := 3) sc_are_stakes.nd rfl (by first | exact Or.inl rfl | exact Or.inr rfl)))) (fun _ _ _ _ _ => ETs_nil) (fun _ _ _ _ _ => (E_and (E_isi (ty := "int") (by decide) (fun h => pe_callB call_isi rfl T.bt.b_isinstance b_isinstance (pa_cons h (pa_cons (pe_bltn rfl T.bt.b_int b_int rfl) pa_nil))) (E_name (pv 3))) (E_one (E_not (E_isi (ty := "bool") (by decide) (fun h => pe_callB call_isi rfl T.bt.b_isinstance b_isinstance (pa_cons h (pa_cons (pe_bltn rfl T.bt.b_bool b_bool rfl) pa_nil))) (E_name (pv 3))))))))) EA_nil)))) (S_one (S_ret E_bl)) S_nil)
      (S_one (S_ret (E_cb (fun h => pe_callB (cr_all rfl) rfl T.bt.b_all b_all h) opn_all (EA_cons (E_ls (EL_lc (own := [("deed", 2)]) rfl sc_are_stakes.nd (blkOk_by (by first | decide +kernel | rfl)) (by decide) (EI_seq (E_name (pv 1))) (fun _ _ _ _ _ => (EG_name (pg_name (i := 2) sc_are_stakes.nd rfl (by first | exact Or.inl rfl | exact Or.inr rfl)))) (fun _ _ _ _ _ => ETs_nil) (fun _ _ _ _ _ => (E_cmp (op_eqD hr.units) opd_eq (E_cb (fun h => pe_callB call_len_seq rfl T.bt.b_len b_len h) opn_len (EA_cons (E_name (pv 2)) EA_nil)) (E_cb (fun h => pe_callB call_len_seq rfl T.bt.b_len b_len h) opn_len (EA_cons (E_ix (E_name (pv 1)) E_int) EA_nil)) (nomark _))))) EA_nil)))))))))) (fun ds Φ hn h => ?_)
  obtain ⟨g, rfl, ok, hq⟩ := h
  have l1 := ok.l1
  have l2 := ok.l2
  obtain ⟨r0, hr0, hlr0, hat⟩ := head_at l1
  have i1 : (1 : Int) ≤ g.length := by omega
  have i2 : (g.length : Int) ≤ 12 := by omega
  walk_at "jv"
  simp only [i1, i2, if_true, if_false, not_true]
  refine ⟨by rw [sizeL]; omega, ?_⟩
  refine lcRun_mapOf _ (fun _ => D.bl true) _ (fun r hr K t hK => ?_) ?_
  · walk_at "jv"
    have h1 := ok.w1
    have h2 := ok.w2
    have h3 := ok.len r hr
    rw [if_pos (by omega)]
    rw [decide_eq_true (by omega)]
    exact hK
  refine ⟨g.map fun _ => true, by simp [Function.comp_def], ?_⟩
  rw [if_neg (by simp)]
  refine lc2_mapOf _ (fun r => r) D.int (fun _ _ => D.bl true) g (fun r hr => ?_) ?_ ?_
  · refine ⟨_, rfl, fun Kb t h => h, fun Kl t h => ?_, fun y hy => ⟨_, rfl, fun Kb t h => h, fun K' t h => ?_⟩⟩
    · walk_at "jv"; exact h
    · walk_at "jv"; exact h
  · rw [flatMap_id', sizeL]
    exact Nat.le_trans (flat_len (a := 12) (b := 12) (by omega) (fun r hr => by rw [ok.len r hr]; have := ok.w2; omega)) (by decide)
  refine ⟨g.flatMap fun r => r.map fun _ => true, by simp [List.map_flatMap, Function.comp_def], ?_⟩
  rw [if_neg (by simp [List.all_flatMap])]
  refine ⟨by rw [sizeL]; omega, ?_⟩
  refine lcRun_mapOf _ (fun _ => D.bl true) _ (fun r hr K t hK => ?_) ?_
  · walk_at "jv"
    refine ⟨_, hat, _, rfl, ?_⟩
    walk_at "jv"
    rw [decide_eq_true (by rw [ok.len r hr, hlr0])]
    exact hK
  refine ⟨g.map fun _ => true, by simp [Function.comp_def], ?_⟩
  have e : (g.map fun _ => true).all id = true := by simp
  rw [e]
  exact hq

theorem ok_are_stakes_for (T : Txt mg) (c_are_stakes : Cal P w K mg base 1 "are_stakes" ["thing"] (spP K 1 fs_are_stakes)) {f : Addr} {fd : FuncData} (F : Fun K "are_stakes_for" "are_stakes_for" s_are_stakes_for f fd) : FnOk P w K mg base CX0 2 f fd ["many", "thing"] (spP K 2 fs_are_stakes_for) := by
  refine ok_P F sc_are_stakes_for rfl (fun cdv A outer s H E hr =>
    (S_one (S_ret (E_and (E_callC c_are_stakes (hr.mono (by decide)) rfl tk_P (EA_cons (E_name (pv 1)) EA_nil)) (E_one (E_cmp (op_eqD hr.units) opd_eq (E_cb (fun h => pe_callB call_len_seq rfl T.bt.b_len b_len h) opn_len (EA_cons (E_ix (E_ix (E_name (pv 1)) E_int) E_int) EA_nil)) (E_name (pv 0)) (nomark _))))))) (fun ds Φ hn h => ?_)
  obtain ⟨g, many, rfl, ok, hm, hq⟩ := h
  obtain ⟨r0, hr0, hlr0, hat⟩ := head_at ok.l1
  walk_at "jv"
  refine ⟨g, rfl, ok, ?_⟩
  walk_at "jv"
  refine ⟨_, hat, _, rfl, ?_⟩
  walk_at "jv"
  rw [decide_eq_true (by rw [hlr0, hm])]
  exact hq

theorem ok_check_stakes (T : Txt mg) (c_are_stakes : Cal P w K mg base 1 "are_stakes" ["thing"] (spP K 1 fs_are_stakes)) {f : Addr} {fd : FuncData} (F : Fun K "check_stakes" "check_stakes" s_check_stakes f fd) : FnOk P w K mg base CX0 2 f fd ["stakes"] (spP K 1 fs_check_stakes) := by
  refine ok_P F sc_check_stakes rfl (fun cdv A outer s H E hr =>
    (S_one (S_if (EB_not (EB_val (E_callC c_are_stakes (hr.mono (by decide)) rfl tk_P (EA_cons (E_name (pv 0)) EA_nil)))) (S_one S_never) S_nil))) (fun ds Φ hn h => ?_)
  obtain ⟨g, rfl, ok, hq⟩ := h
  walk_at "jv"
  refine ⟨g, rfl, ok, ?_⟩
  simp
  exact hq

theorem ok_check_stakes_for (T : Txt mg) (c_are_stakes_for : Cal P w K mg base 2 "are_stakes_for" ["many", "thing"] (spP K 2 fs_are_stakes_for)) {f : Addr} {fd : FuncData} (F : Fun K "check_stakes_for" "check_stakes_for" s_check_stakes_for f fd) : FnOk P w K mg base CX0 3 f fd ["many", "stakes"] (spP K 2 fs_check_stakes_for) := by
  refine ok_P F sc_check_stakes_for rfl (fun cdv A outer s H E hr =>
    (S_one (S_if (EB_not (EB_val (E_callC c_are_stakes_for (hr.mono (by decide)) rfl tk_P (EA_cons (E_name (pv 0)) (EA_cons (E_name (pv 1)) EA_nil))))) (S_one S_never) S_nil))) (fun ds Φ hn h => ?_)
  obtain ⟨g, many, rfl, ok, hm, hq⟩ := h
  walk_at "jv"
  refine ⟨g, many, rfl, ok, hm, ?_⟩
  simp
  exact hq

theorem ok_check_second (T : Txt mg) (c_are_stakes_for : Cal P w K mg base 2 "are_stakes_for" ["many", "thing"] (spP K 2 fs_are_stakes_for)) {f : Addr} {fd : FuncData} (F : Fun K "check_second" "check_second" s_check_second f fd) : FnOk P w K mg base CX0 3 f fd ["stakes", "second"] (spP K 2 fs_check_second) := by
  refine ok_P F sc_check_second rfl (fun cdv A outer s H E hr =>
    (S_one (S_if (EB_not (EB_val (E_callC c_are_stakes_for (hr.mono (by decide)) rfl tk_P (EA_cons (E_cb (fun h => pe_callB call_len_seq rfl T.bt.b_len b_len h) opn_len (EA_cons (E_ix (E_ix (E_name (pv 0)) E_int) E_int) EA_nil)) (EA_cons (E_name (pv 1)) EA_nil))))) (S_one S_never) S_nil))) (fun ds Φ hn h => ?_)
  obtain ⟨g, h, rfl, og, oh, hw, hq⟩ := h
  obtain ⟨r0, hr0, hlr0, hat⟩ := head_at og.l1
  walk_at "jv"
  refine ⟨_, hat, _, rfl, h, _, rfl, oh, ?_, ?_⟩
  · rw [List.length_map, hlr0, hw]
  · simp
    exact hq

theorem ok_sums_at (T : Txt mg)  {f : Addr} {fd : FuncData} (F : Fun K "sums_at" "sums_at" s_sums_at f fd) : FnOk P w K mg base CX0 1 f fd ["stakes", "numbers"] (spP K 2 fs_sums_at) := by
  refine ok_P F sc_sums_at rfl (fun cdv A outer s H E hr =>
    (S_one (S_ret (E_ls (EL_lc (own := [("deed", 2)]) rfl sc_sums_at.nd (blkOk_by (by first | decide +kernel | rfl)) (by decide) (EI_seq (E_ix (E_name (pv 0)) E_int)) (fun _ _ _ _ _ => (EG_name (pg_name (i := 2) sc_sums_at.nd rfl (by first | exact Or.inl rfl | exact Or.inr rfl)))) (fun _ _ _ _ _ => ETs_nil) (fun _ _ _ _ _ => (E_cb (fun h => pe_callB (cr_sumS rfl) rfl T.bt.b_sum b_sum h) opn_sum (EA_cons (E_ls (EL_lc (own := [("gain", 3), ("one", 4)]) rfl sc_sums_at.nd (blkOk_by (by first | decide +kernel | rfl)) (by decide) (EI_zip (fun h => pi_zipA rfl T.bt.b_zip h) (EA_cons (E_name (pv 2)) (EA_cons (E_name (pv 1)) EA_nil))) (fun _ _ _ _ _ => (EG_tup (is := [3, 4]) rfl (pg_tup rfl (pgs_cons (pg_name (i := 3) sc_sums_at.nd rfl (by first | exact Or.inl rfl | exact Or.inr rfl)) (pgs_cons (pg_name (i := 4) sc_sums_at.nd rfl (by first | exact Or.inl rfl | exact Or.inr rfl)) pgs_nil))))) (fun _ _ _ _ _ => ETs_nil) (fun _ _ _ _ _ => (E_bin op_mulW opd_I (E_name (pv 3)) (E_name (pv 4)))))) EA_nil)))))))) (fun ds Φ hn h => ?_)
  obtain ⟨g, c, rfl, ok, hc, hq⟩ := h
  walk_at "jv"
  refine ⟨by rw [sizeL]; have := ok.l2; omega, ?_⟩
  refine lcRun_mapOf _ (fun a => D.int (dot a c)) _ (fun a ha K t hK => ?_) ?_
  · walk_at "jv"
    refine ⟨_, _, ⟨rfl, rfl⟩, _, rfl, _, rfl, rfl, ?_⟩
    rw [zipD_int]
    refine ⟨by rw [List.length_map, List.length_zip, sizeL]; have := ok.len a ha; have := ok.w2; omega, ?_⟩
    refine lcRun_mapOf _ (fun p => D.int (p.1 * p.2)) _ (fun p hp K t hK => ?_) ?_
    · have h1 := ok.sm a ha p.1 (List.of_mem_zip hp).1
      have h2 := hc p.2 (List.of_mem_zip hp).2
      walk_at "jv"
      exact ⟨h1.cmul h2 (by decide) (by decide) (by decide), hK⟩
    · refine ⟨(a.zip c).map fun p => p.1 * p.2, .inl (by simp [Function.comp_def]), ?_⟩
      exact hK
  · rw [dLI, sumsAt, List.map_map] at hq
    exact hq

theorem ok_made_stakes (T : Txt mg)  {f : Addr} {fd : FuncData} (F : Fun K "made_stakes" "made_stakes" s_made_stakes f fd) : FnOk P w K mg base CX0 1 f fd ["deeds"] (spP K 1 fs_made_stakes) := by
  obtain ⟨t_DEEDS, k_DEEDS⟩ := T.k_DEEDS
  refine ok_P F sc_made_stakes rfl (fun cdv A outer s H E hr =>
    (S_cons (S_if (EB_cmp op_gt opd_B0 (E_cb (fun h => pe_callB call_len_seq rfl T.bt.b_len b_len h) opn_len (EA_cons (E_name (pv 0)) EA_nil)) (E_gint rfl k_DEEDS) (nomark _)) (S_one S_never) S_nil)
      (S_one (S_ret (E_tup (EA_cons E_str (EA_cons (E_cb (fun h => pe_callTy call_tuple_of rfl T.bt.b_tuple b_tuple h) opn_tuple (EA_cons (E_name (pv 0)) EA_nil)) EA_nil))))))) (fun ds Φ hn h => ?_)
  obtain ⟨g, rfl, l2, hq⟩ := h
  have i2 : ¬ (12 : Int) < g.length := by omega
  walk_at "jv"
  simp only [i2, if_false]
  exact ⟨by decide, hq⟩

theorem ok_is_whole (T : Txt mg)  {f : Addr} {fd : FuncData} (F : Fun K "is_whole" "is_whole" s_is_whole f fd) : FnOk P w K mg base CX0 1 f fd ["thing", "low"] (spP K 2 fs_is_whole) := by
  refine ok_P F sc_is_whole rfl (fun cdv A outer s H E hr =>
    (S_one (S_ret (E_and (E_isi (ty := "int") (by decide) (fun h => pe_callB call_isi rfl T.bt.b_isinstance b_isinstance (pa_cons h (pa_cons (pe_bltn rfl T.bt.b_int b_int rfl) pa_nil))) (E_name (pv 0))) (E_and (E_not (E_isi (ty := "bool") (by decide) (fun h => pe_callB call_isi rfl T.bt.b_isinstance b_isinstance (pa_cons h (pa_cons (pe_bltn rfl T.bt.b_bool b_bool rfl) pa_nil))) (E_name (pv 0)))) (E_one (E_cmp op_ge opd_B0 (E_name (pv 0)) (E_name (pv 1)) (nomark _)))))))) (fun ds Φ hn h => ?_)
  obtain ⟨i, lo, rfl, hq⟩ := h
  walk_at "jv"
  exact hq

theorem ok_common_garblers (T : Txt mg)  {f : Addr} {fd : FuncData} (F : Fun K "common" "common" s_common_garblers f fd) : FnOk P w K mg base CX0 1 f fd ["numbers"] (spP K 1 fs_common_garblers) := by
  refine ok_P F sc_common_garblers rfl (fun cdv A outer s H E hr =>
    (S_cons (S_set (i := 1) (ps_set (i := 1) sc_common_garblers.nd rfl (by first | exact Or.inl rfl | exact Or.inr rfl) E_int))
      (S_cons (S_for PassesOwn.never rfl (EI_seq (E_name (pv 0))) (EG_name (pg_name (i := 2) sc_common_garblers.nd rfl (by first | exact Or.inl rfl | exact Or.inr rfl))) (S_cons (S_set (i := 3) (ps_set (i := 3) sc_common_garblers.nd rfl (by first | exact Or.inl rfl | exact Or.inr rfl) (E_name (pv 2))))
      (S_one (S_while PassesOwn.never (EB_cmp (op_neD hr.units) opd_ne (E_name (pv 3)) E_int (nomark _)) (S_one (S_par2 (i := 1) (j := 3) (by decide) (ps_par (by rfl) sc_common_garblers.nd rfl rfl (by decide) rfl rfl (EX_val (E_name (pv 3)) (EX_val (E_bin op_modN opd_I (E_name (pv 1)) (E_name (pv 3))) EX_nil)) (by rfl))))))))
      (S_one (S_ret (E_name (pv 1))))))) (fun ds Φ hn h => ?_)
  obtain ⟨d, ns, rfl, hi, nn, hq⟩ := h
  walk_at "jv"
  refine ⟨ns.map .int, hi.items, fun k ρ _ => ∃ y z, ρ = [.val d, .val (.int (gcdL (ns.take k))), y, z], ⟨_, _, rfl⟩, ?_, ?_⟩
  · rintro k ρ _ e ⟨y, z, rfl⟩ he
    obtain ⟨n, hn, rfl⟩ := map_at he
    walk_at "jv"
    refine ⟨fun m ρ _ => ∃ x y : Int, ρ = [.val d, .val (.int x), .val (.int n), .val (.int y)] ∧ 0 ≤ x ∧ 0 ≤ y ∧ gcdI x y = gcdL (ns.take (k + 1)) ∧ m = y.natAbs, ⟨_, _, n, rfl, gcdL_nn _, nn n (List.mem_of_getElem? hn), (gcdL_take hn).symm, rfl⟩, ?_⟩
    rintro m ρ _ ⟨x, y, rfl, hx, hy, hg, rfl⟩
    walk_at "jv"
    by_cases h0 : y = 0
    · subst h0
      simp
      rw [← hg, gcdI_zero, if_neg (by omega)]
    · simp [h0]
      refine ⟨_, fmod_lt x h0, y, x.fmod y, ⟨rfl, rfl⟩, hy, Int.fmod_nonneg hx hy, (gcdI_fmod x y).trans hg, rfl⟩
  · rintro ρ _ ⟨y, z, rfl⟩
    walk_at "jv"
    rw [List.take_length]
    exact hq

theorem ok_worth_told (T : Txt mg) (c_ratio : Cal P w K mg base 2 "ratio" ["top", "bottom"] (spP K 2 fs_ratio)) (c_sums_at : Cal P w K mg base 1 "sums_at" ["stakes", "numbers"] (spP K 2 fs_sums_at)) (c_columns_of : Cal P w K mg base 1 "columns_of" ["teller"] (spP K 1 fs_columns_of)) {f : Addr} {fd : FuncData} (F : Fun K "worth_told" "worth_told" s_worth_told f fd) : FnOk P w K mg base CX0 3 f fd ["teller", "stakes"] (spP K 2 fs_worth_told) := by
  refine ok_P F sc_worth_told rfl (fun cdv A outer s H E hr =>
    (S_one (S_ret (E_callC c_ratio (hr.mono (by decide)) rfl tk_P (EA_cons (E_cb (fun h => pe_callB (cr_sumS rfl) rfl T.bt.b_sum b_sum h) opn_sum (EA_cons (E_ls (EL_lc (own := [("numbers", 2)]) rfl sc_worth_told.nd (blkOk_by (by first | decide +kernel | rfl)) (by decide) (EI_seq (E_callC c_columns_of (hr.mono (by decide)) rfl tk_P (EA_cons (E_name (pv 0)) EA_nil))) (fun _ _ _ _ _ => (EG_name (pg_name (i := 2) sc_worth_told.nd rfl (by first | exact Or.inl rfl | exact Or.inr rfl)))) (fun _ _ _ _ _ => ETs_nil) (fun _ _ _ _ _ => (E_cb (fun h => pe_callB (cr_maxS rfl) rfl T.bt.b_max b_max h) opn_max (EA_cons (E_callC c_sums_at (hr.mono (by decide)) rfl tk_P (EA_cons (E_name (pv 1)) (EA_cons (E_name (pv 2)) EA_nil))) EA_nil))))) EA_nil)) (EA_cons (E_ix (E_name (pv 0)) E_int) EA_nil)))))) (fun ds Φ hn h => ?_)
  obtain ⟨d, rows, g, rfl, ht, ok, hw, hq⟩ := h
  have sd := small_d ht
  have sc : ∀ c ∈ cols rows, ∀ x ∈ c, Sm 400000 x := fun c hc x hx => (cols_sm ht.ok sd hc hx).mono (by decide)
  walk_at "jv"
  refine ⟨d, rows, rfl, ht, ?_⟩
  walk_at "jv"
  refine ⟨by rw [sizeL]; have := ht.ok.w2; rw [cols_len]; omega, ?_⟩
  refine lcRun_mapOf _ (fun c => D.int (maxL (sumsAt g c))) _ (fun c hc K t hK => ?_) ?_
  · walk_at "jv"
    refine ⟨g, c, rfl, ok, sc c hc, _, .inl rfl, ?_, fun m h1 h2 => ?_⟩
    · rw [sumsAt, List.length_map]; have := ok.l1; omega
    · rw [maxL_eq h1 h2] at hK; exact hK
  · refine ⟨(cols rows).map fun c => maxL (sumsAt g c), .inl (by simp [Function.comp_def]), ?_⟩
    have h1 := ht.d1
    exact ⟨_, d, rfl, by omega, sd.mono (by decide), hq⟩

theorem ok_worth (T : Txt mg) (c_check_teller : Cal P w K mg base 4 "check_teller" ["teller"] (spP K 1 fs_check_teller)) (c_check_stakes_for : Cal P w K mg base 3 "check_stakes_for" ["many", "stakes"] (spP K 2 fs_check_stakes_for)) (c_worth_told : Cal P w K mg base 3 "worth_told" ["teller", "stakes"] (spP K 2 fs_worth_told)) {f : Addr} {fd : FuncData} (F : Fun K "worth" "worth" s_worth f fd) : FnOk P w K mg base CX0 5 f fd ["teller", "stakes"] (spP K 2 fs_worth) := by
  refine ok_P F sc_worth rfl (fun cdv A outer s H E hr =>
    (S_cons (S_expr (E_callC c_check_teller (hr.mono (by decide)) rfl tk_P (EA_cons (E_name (pv 0)) EA_nil)))
      (S_cons (S_expr (E_callC c_check_stakes_for (hr.mono (by decide)) rfl tk_P (EA_cons (E_cb (fun h => pe_callB call_len_seq rfl T.bt.b_len b_len h) opn_len (EA_cons (E_ix (E_name (pv 0)) E_int) EA_nil)) (EA_cons (E_name (pv 1)) EA_nil))))
      (S_one (S_ret (E_callC c_worth_told (hr.mono (by decide)) rfl tk_P (EA_cons (E_name (pv 0)) (EA_cons (E_name (pv 1)) EA_nil)))))))) (fun ds Φ hn h => ?_)
  obtain ⟨d, rows, g, rfl, ht, ok, hw, hq⟩ := h
  walk_at "jv"
  refine ⟨d, rows, rfl, ht, g, _, rfl, ok, by rw [hw], ?_⟩
  exact ⟨d, rows, g, rfl, ht, ok, hw, hq⟩

theorem ok_best_deeds (T : Txt mg) (c_check_teller : Cal P w K mg base 4 "check_teller" ["teller"] (spP K 1 fs_check_teller)) (c_check_stakes_for : Cal P w K mg base 3 "check_stakes_for" ["many", "stakes"] (spP K 2 fs_check_stakes_for)) (c_check_word : Cal P w K mg base 2 "check_word" ["teller", "word"] (spP K 2 fs_check_word)) (c_sums_at : Cal P w K mg base 1 "sums_at" ["stakes", "numbers"] (spP K 2 fs_sums_at)) (c_columns_of : Cal P w K mg base 1 "columns_of" ["teller"] (spP K 1 fs_columns_of)) {f : Addr} {fd : FuncData} (F : Fun K "best_deeds" "best_deeds" s_best_deeds f fd) : FnOk P w K mg base CX0 5 f fd ["teller", "stakes", "word"] (spP K 3 fs_best_deeds) := by
  refine ok_P F sc_best_deeds rfl (fun cdv A outer s H E hr =>
    (S_cons (S_expr (E_callC c_check_teller (hr.mono (by decide)) rfl tk_P (EA_cons (E_name (pv 0)) EA_nil)))
      (S_cons (S_expr (E_callC c_check_stakes_for (hr.mono (by decide)) rfl tk_P (EA_cons (E_cb (fun h => pe_callB call_len_seq rfl T.bt.b_len b_len h) opn_len (EA_cons (E_ix (E_name (pv 0)) E_int) EA_nil)) (EA_cons (E_name (pv 1)) EA_nil))))
      (S_cons (S_expr (E_callC c_check_word (hr.mono (by decide)) rfl tk_P (EA_cons (E_name (pv 0)) (EA_cons (E_name (pv 2)) EA_nil))))
      (S_cons (S_set (i := 3) (ps_set (i := 3) sc_best_deeds.nd rfl (by first | exact Or.inl rfl | exact Or.inr rfl) (E_callC c_sums_at (hr.mono (by decide)) rfl tk_P (EA_cons (E_name (pv 1)) (EA_cons (E_ix (E_callC c_columns_of (hr.mono (by decide)) rfl tk_P (EA_cons (E_name (pv 0)) EA_nil)) (E_name (pv 2))) EA_nil)))))
      (S_one (S_ret (E_cb (fun h => pe_callTy call_tuple_of rfl T.bt.b_tuple b_tuple h) opn_tuple (EA_cons (E_ls (EL_lc (own := [("deed", 4), ("one", 5)]) rfl sc_best_deeds.nd (blkOk_by (by first | decide +kernel | rfl)) (by decide) (EI_enum (fun h => pi_enum rfl T.bt.b_enumerate h) (EA_cons (E_name (pv 3)) EA_nil)) (fun _ _ _ _ _ => (EG_tup (is := [4, 5]) rfl (pg_tup rfl (pgs_cons (pg_name (i := 4) sc_best_deeds.nd rfl (by first | exact Or.inl rfl | exact Or.inr rfl)) (pgs_cons (pg_name (i := 5) sc_best_deeds.nd rfl (by first | exact Or.inl rfl | exact Or.inr rfl)) pgs_nil))))) (fun _ _ _ _ _ => (pts_one (EB_cmp (op_eqD hr.units) opd_eq (E_name (pv 5)) (E_cb (fun h => pe_callB (cr_maxS rfl) rfl T.bt.b_max b_max h) opn_max (EA_cons (E_name (pv 3)) EA_nil)) (nomark _)))) (fun _ _ _ _ _ => (E_name (pv 4))))) EA_nil))))))))) (fun ds Φ hn h => ?_)
  obtain ⟨d, rows, g, n, rfl, ht, ok, hw, h0, h1, hq⟩ := h
  have sd := small_d ht
  have sc : ∀ c ∈ cols rows, ∀ x ∈ c, Sm 400000 x := fun c hc x hx => (cols_sm ht.ok sd hc hx).mono (by decide)
  obtain ⟨m, rfl⟩ := Int.eq_ofNat_of_zero_le h0
  have hm : m < (cols rows).length := by rw [cols_len]; omega
  rw [Int.toNat_natCast] at hq
  have hg : (cols rows).getD m [] = (cols rows)[m] := by rw [List.getD_eq_getElem?_getD, List.getElem?_eq_getElem hm]; rfl
  rw [hg] at hq
  walk_at "jv"
  refine ⟨d, rows, rfl, ht, g, _, rfl, ok, by rw [hw], d, rows, _, rfl, ht, h0, h1, d, rows, rfl, ht, ?_⟩
  walk_at "jv"
  refine ⟨dI (cols rows)[m], by rw [atI_map, atI_nat (List.getElem?_eq_getElem hm)]; rfl, g, _, rfl, ok, sc _ (List.getElem_mem hm), ?_⟩
  walk_at "jv"
  refine ⟨by rw [enumD_len, List.length_map, sumsAt, List.length_map, sizeL]; have := ok.l2; omega, ?_⟩
  rw [enumD_int]
  refine lcRun_fmOf _ (fun i => if (sumsAt g (cols rows)[m]).getD i 0 = maxL (sumsAt g (cols rows)[m]) then [D.int (i : Nat)] else []) _ (fun i hi K t hK => ?_) ?_
  · walk_at "jv"
    refine ⟨_, .inl rfl, by rw [sumsAt, List.length_map]; have := ok.l1; omega, fun b h1 h2 => ?_⟩
    rw [← maxL_eq h1 h2]
    by_cases hh : (sumsAt g (cols rows)[m]).getD i 0 = maxL (sumsAt g (cols rows)[m])
    · rw [if_pos hh] at hK ⊢; exact hK
    · rw [if_neg hh] at hK ⊢; exact hK
  · rw [dI, bestL, List.map_map] at hq
    have e : ∀ l : List Nat, l.flatMap (fun i => if (sumsAt g (cols rows)[m]).getD i 0 = maxL (sumsAt g (cols rows)[m]) then [D.int (i : Nat)] else []) = (l.filter fun a => decide ((sumsAt g (cols rows)[m]).getD a 0 = maxL (sumsAt g (cols rows)[m]))).map (D.int ∘ fun (a : Nat) => (a : Int)) := by
      intro l
      induction l with
      | nil => rfl
      | cons a b ih =>
        rw [List.flatMap_cons, ih, List.filter_cons]
        by_cases hh : (sumsAt g (cols rows)[m]).getD a 0 = maxL (sumsAt g (cols rows)[m])
        · rw [if_pos hh, if_pos (decide_eq_true hh)]; rfl
        · rw [if_neg hh, if_neg (by simpa using hh)]; rfl
    rw [e]
    exact hq

theorem ok_unheard (T : Txt mg) (c_check_stakes : Cal P w K mg base 2 "check_stakes" ["stakes"] (spP K 1 fs_check_stakes)) {f : Addr} {fd : FuncData} (F : Fun K "unheard" "unheard" s_unheard f fd) : FnOk P w K mg base CX0 3 f fd ["stakes"] (spP K 1 fs_unheard) := by
  refine ok_P F sc_unheard rfl (fun cdv A outer s H E hr =>
    (S_cons (S_expr (E_callC c_check_stakes (hr.mono (by decide)) rfl tk_P (EA_cons (E_name (pv 0)) EA_nil)))
      (S_one (S_ret (E_cb (fun h => pe_callB (cr_maxS rfl) rfl T.bt.b_max b_max h) opn_max (EA_cons (E_ls (EL_lc (own := [("deed", 1)]) rfl sc_unheard.nd (blkOk_by (by first | decide +kernel | rfl)) (by decide) (EI_seq (E_ix (E_name (pv 0)) E_int)) (fun _ _ _ _ _ => (EG_name (pg_name (i := 1) sc_unheard.nd rfl (by first | exact Or.inl rfl | exact Or.inr rfl)))) (fun _ _ _ _ _ => ETs_nil) (fun _ _ _ _ _ => (E_cb (fun h => pe_callB (cr_sumS rfl) rfl T.bt.b_sum b_sum h) opn_sum (EA_cons (E_name (pv 1)) EA_nil))))) EA_nil)))))) (fun ds Φ hn h => ?_)
  obtain ⟨g, rfl, ok, hq⟩ := h
  walk_at "jv"
  refine ⟨g, rfl, ok, by rw [sizeL]; have := ok.l2; omega, ?_⟩
  refine lcRun_mapOf _ (fun a => D.int a.sum) _ (fun a ha K t hK => ?_) ?_
  · walk_at "jv"
    exact ⟨a, .inr rfl, hK⟩
  · refine ⟨g.map List.sum, .inl (by simp [Function.comp_def]), by rw [List.length_map]; have := ok.l1; omega, fun m h1 h2 => ?_⟩
    rw [maxL_eq h1 h2] at hq
    exact hq

theorem ok_stakes_either (T : Txt mg) (c_check_stakes : Cal P w K mg base 2 "check_stakes" ["stakes"] (spP K 1 fs_check_stakes)) (c_check_second : Cal P w K mg base 3 "check_second" ["stakes", "second"] (spP K 2 fs_check_second)) (c_made_stakes : Cal P w K mg base 1 "made_stakes" ["deeds"] (spP K 1 fs_made_stakes)) {f : Addr} {fd : FuncData} (F : Fun K "stakes_either" "stakes_either" s_stakes_either f fd) : FnOk P w K mg base CX0 4 f fd ["stakes", "second"] (spP K 2 fs_stakes_either) := by
  refine ok_P F sc_stakes_either rfl (fun cdv A outer s H E hr =>
    (S_cons (S_expr (E_callC c_check_stakes (hr.mono (by decide)) rfl tk_P (EA_cons (E_name (pv 0)) EA_nil)))
      (S_cons (S_expr (E_callC c_check_second (hr.mono (by decide)) rfl tk_P (EA_cons (E_name (pv 0)) (EA_cons (E_name (pv 1)) EA_nil))))
      (S_one (S_ret (E_callC c_made_stakes (hr.mono (by decide)) rfl tk_P (EA_cons (E_ls (EL_bin op_catR opd_cat (E_ls (EL_cb (fun h => pe_callTy call_list_of rfl T.bt.b_list b_list h) opn_list (EA_cons (E_ix (E_name (pv 0)) E_int) EA_nil))) (E_ls (EL_cb (fun h => pe_callTy call_list_of rfl T.bt.b_list b_list h) opn_list (EA_cons (E_ix (E_name (pv 1)) E_int) EA_nil))))) EA_nil))))))) (fun ds Φ hn h => ?_)
  obtain ⟨g, h, rfl, og, oh, hw, hl, hq⟩ := h
  walk_at "jv"
  refine ⟨g, rfl, og, g, h, rfl, og, oh, hw, by rw [sizeL]; omega, g ++ h, by rw [List.map_append], by rw [List.length_append]; omega, hq⟩

theorem ok_are_rows_garblers (T : Txt mg) (c_is_whole : Cal P w K mg base 1 "is_whole" ["thing", "low"] (spP K 2 fs_is_whole)) {f : Addr} {fd : FuncData} (F : Fun K "are_rows" "are_rows" s_are_rows_garblers f fd) : FnOk P w K mg base CX0 2 f fd ["thing", "sure", "most"] (spP K 3 fs_are_rows_garblers) := by
  obtain ⟨t_WORDS_garblers, k_WORDS_garblers⟩ := T.k_WORDS_garblers
  refine ok_P F sc_are_rows_garblers rfl (fun cdv A outer s H E hr =>
    (S_cons (S_if (PW.pt (EB_or (EB_not (EB_val (E_isi (ty := "tuple") (by decide) (fun h => pe_callB call_isi rfl T.bt.b_isinstance b_isinstance (pa_cons h (pa_cons (pe_bltn rfl T.bt.b_tuple b_tuple rfl) pa_nil))) (E_name (pv 0))))) (EB_or1 (EB_not (EB_chain op_le op_le opd_B0 opd_B0 E_int (E_cb (fun h => pe_callB call_len_seq rfl T.bt.b_len b_len h) opn_len (EA_cons (E_name (pv 0)) EA_nil)) (E_name (pv 2))))))) (S_one (S_ret E_bl)) S_nil)
      (S_cons (S_for PassesOwn.never rfl (EI_seq (E_name (pv 0))) (EG_name (pg_name (i := 3) sc_are_rows_garblers.nd rfl (by first | exact Or.inl rfl | exact Or.inr rfl))) (S_cons (S_if (PW.pt (EB_or (EB_not (EB_val (E_isi (ty := "tuple") (by decide) (fun h => pe_callB call_isi rfl T.bt.b_isinstance b_isinstance (pa_cons h (pa_cons (pe_bltn rfl T.bt.b_tuple b_tuple rfl) pa_nil))) (E_name (pv 3))))) (EB_or (EB_not (EB_chain op_le op_le opd_B0 opd_B0 E_int (E_cb (fun h => pe_callB call_len_seq rfl T.bt.b_len b_len h) opn_len (EA_cons (E_name (pv 3)) EA_nil)) (E_gint rfl k_WORDS_garblers))) (EB_or1 (EB_cmp (op_neD hr.units) opd_ne (E_cb (fun h => pe_callB call_len_seq rfl T.bt.b_len b_len h) opn_len (EA_cons (E_name (pv 3)) EA_nil)) (E_cb (fun h => pe_callB call_len_seq rfl T.bt.b_len b_len h) opn_len (EA_cons (E_ix (E_name (pv 0)) E_int) EA_nil)) (nomark _)))))) (S_one (S_ret E_bl)) S_nil)
      (S_one (S_if (PW.pt (EB_or (EB_not (EB_val (E_cb (fun h => pe_callB (cr_all rfl) rfl T.bt.b_all b_all h) opn_all (EA_cons (E_ls (EL_lc (own := [("number", 4)]) rfl sc_are_rows_garblers.nd (blkOk_by (by first | decide +kernel | rfl)) (by decide) (EI_seq (E_name (pv 3))) (fun _ _ _ _ _ => (EG_name (pg_name (i := 4) sc_are_rows_garblers.nd rfl (by first | exact Or.inl rfl | exact Or.inr rfl)))) (fun _ _ _ _ _ => ETs_nil) (fun _ _ _ _ _ => (E_callC c_is_whole (hr.mono (by decide)) rfl tk_P (EA_cons (E_name (pv 4)) (EA_cons E_int EA_nil)))))) EA_nil)))) (EB_or1 (EB_cmp (op_neD hr.units) opd_ne (E_cb (fun h => pe_callB (cr_sumS rfl) rfl T.bt.b_sum b_sum h) opn_sum (EA_cons (E_name (pv 3)) EA_nil)) (E_name (pv 1)) (nomark _))))) (S_one (S_ret E_bl)) S_nil))))
      (S_one (S_ret E_bl))))) (fun ds Φ hn h => ?_)
  obtain ⟨rows, total, most, rfl, ok, hm, hq⟩ := h
  have l1 := ok.l1
  have l2 := ok.l2
  have w1 := ok.w1
  have w2 := ok.w2
  obtain ⟨r0, hr0, hlr0, hat⟩ := head_at l1
  have i1 : (1 : Int) ≤ rows.length := by omega
  have i2 : (rows.length : Int) ≤ most := by omega
  walk_at "jv"
  simp only [i1, i2, if_true, if_false, not_true, Bool.true_eq_false]
  refine ⟨fun k ρ _ => ∃ y z, ρ = [.val (dRows rows), .val (.int total), .val (.int most), y, z], ⟨_, _, rfl⟩, ?_, ?_⟩
  · rintro k ρ _ e ⟨y, z, rfl⟩ he
    obtain ⟨r, hr, rfl⟩ := map_at he
    have hr := List.mem_of_getElem? hr
    have h3 := ok.len r hr
    have i3 : (1 : Int) ≤ r.length := by omega
    have i4 : (r.length : Int) ≤ 12 := by omega
    walk_at "jv"
    simp only [i3, i4, if_true, if_false, not_true, Bool.true_eq_false]
    refine ⟨_, hat, _, rfl, ?_⟩
    walk_at "jv"
    rw [if_neg (by rw [h3, hlr0]; simp)]
    refine ⟨by rw [sizeL]; omega, ?_⟩
    refine lcRun_mapOf _ (fun _ => D.bl true) _ (fun x hx K t hK => ?_) ?_
    · walk_at "jv"
      refine ⟨x, 0, rfl, ?_⟩
      rw [decide_eq_true (ok.nn r hr x hx)]
      exact hK
    · refine ⟨r.map fun _ => true, by simp [Function.comp_def], ?_⟩
      rw [if_neg (by simp)]
      refine ⟨r, .inr rfl, ?_⟩
      rw [if_neg (by rw [ok.sum r hr]; simp)]
      exact ⟨_, rfl⟩
  · exact fun _ _ _ => hq

theorem ok_is_garbler (T : Txt mg) (c_is_whole : Cal P w K mg base 1 "is_whole" ["thing", "low"] (spP K 2 fs_is_whole)) (c_are_rows_garblers : Cal P w K mg base 2 "are_rows_garblers" ["thing", "sure", "most"] (spP K 3 fs_are_rows_garblers)) {f : Addr} {fd : FuncData} (F : Fun K "is_garbler" "is_garbler" s_is_garbler f fd) : FnOk P w K mg base CX0 3 f fd ["thing"] (spP K 1 fs_is_garbler) := by
  obtain ⟨t_WORDS_garblers, k_WORDS_garblers⟩ := T.k_WORDS_garblers
  refine ok_P F sc_is_garbler rfl (fun cdv A outer s H E hr =>
    (S_cons (S_if (PW.pt (EB_or (EB_not (EB_val (E_isi (ty := "tuple") (by decide) (fun h => pe_callB call_isi rfl T.bt.b_isinstance b_isinstance (pa_cons h (pa_cons (pe_bltn rfl T.bt.b_tuple b_tuple rfl) pa_nil))) (E_name (pv 0))))) (EB_or (EB_cmp (op_neD hr.units) opd_ne (E_cb (fun h => pe_callB call_len_seq rfl T.bt.b_len b_len h) opn_len (EA_cons (E_name (pv 0)) EA_nil)) E_int (nomark _)) (EB_or (EB_not (EB_val (E_isi (ty := "str") (by decide) (fun h => pe_callB call_isi rfl T.bt.b_isinstance b_isinstance (pa_cons h (pa_cons (pe_bltn rfl T.bt.b_str b_str rfl) pa_nil))) (E_ix (E_name (pv 0)) E_int)))) (EB_or1 (EB_cmp (op_neD hr.units) opd_ne (E_ix (E_name (pv 0)) E_int) E_str (nomark _))))))) (S_one (S_ret E_bl)) S_nil)
      (S_one (S_ret (E_and (E_callC c_is_whole (hr.mono (by decide)) rfl tk_P (EA_cons (E_ix (E_name (pv 0)) E_int) (EA_cons E_int EA_nil))) (E_one (E_callC c_are_rows_garblers (hr.mono (by decide)) rfl tk_P (EA_cons (E_ix (E_name (pv 0)) E_int) (EA_cons (E_ix (E_name (pv 0)) E_int) (EA_cons (E_gint rfl k_WORDS_garblers) EA_nil)))))))))) (fun ds Φ hn h => ?_)
  obtain ⟨d, rows, rfl, ok, hq⟩ := h
  have h1 := ok.d1
  walk_at "jv"
  refine ⟨d, 1, rfl, ?_⟩
  rw [decide_eq_true h1]
  simp only [if_true]
  walk_at "jv"
  exact ⟨rows, d, 12, rfl, ok.ok, by decide, hq⟩

theorem ok_check_garbler (T : Txt mg) (c_is_garbler : Cal P w K mg base 3 "is_garbler" ["thing"] (spP K 1 fs_is_garbler)) {f : Addr} {fd : FuncData} (F : Fun K "check_garbler" "check_garbler" s_check_garbler f fd) : FnOk P w K mg base CX0 4 f fd ["teller", "garbler"] (spP K 2 fs_check_garbler) := by
  refine ok_P F sc_check_garbler rfl (fun cdv A outer s H E hr =>
    (S_one (S_if (PW.pt (EB_or (EB_not (EB_val (E_callC c_is_garbler (hr.mono (by decide)) rfl tk_P (EA_cons (E_name (pv 1)) EA_nil)))) (EB_or1 (EB_cmp (op_neD hr.units) opd_ne (E_cb (fun h => pe_callB call_len_seq rfl T.bt.b_len b_len h) opn_len (EA_cons (E_ix (E_name (pv 1)) E_int) EA_nil)) (E_cb (fun h => pe_callB call_len_seq rfl T.bt.b_len b_len h) opn_len (EA_cons (E_ix (E_ix (E_name (pv 0)) E_int) E_int) EA_nil)) (nomark _))))) (S_one S_never) S_nil))) (fun ds Φ hn h => ?_)
  obtain ⟨d, rows, e, m, rfl, ht, og, hl, hq⟩ := h
  obtain ⟨r0, hr0, hlr0, hat⟩ := head_at ht.ok.l1
  walk_at "jv"
  refine ⟨e, m, rfl, og, ?_⟩
  walk_at "jv"
  refine ⟨_, hat, _, rfl, ?_⟩
  walk_at "jv"
  rw [if_neg (by rw [hl, hlr0]; simp)]
  exact hq

end
end J

set_option Elab.async false
set_option linter.all false
set_option maxRecDepth 100000
set_option maxHeartbeats 4000000
namespace J
open PySem PySem.Spec L2 RZ
local macro_rules | `(tactic| walk_at "jv") => `(tactic| simp only [wSq, wIfS, wOrT, wAndT, wNotT, wB, wIsi, wName, wRet, wC, wNilS, wAndV, wOrV, wNotV, wBin, wUn, wIf, wChain, fI0, fI, fIsN, fNotN, fB, fAdd, fEq, fNe, fIx, wCall, wCons, wNil, wTup, wDrop, wSet, wOwn, wFrzA, wFrzB, wAsg, wPar, wxVal, wxOwn, wxNil, bindX, bindP, bindN, wLs, wLst, wLc, wLc2, lcBody, wYes, wipeE, J.wSeq, wRange1, wRange2, wEnum, wZip, wSl, wSlL, wNoO, wSomeO, wAppend, wExtend, wSetIx, wOwnIx, wOwnLen, wFor, wWhile, fLen, fAbs, fMin2, fMax2, fInt, fSum, fMax, fAll, fAny, fTuple, fList, fCat, fRep, startE, List.map, List.cons_append, List.nil_append, List.getElem?_cons_zero, List.getElem?_cons_succ, List.set_cons_zero, List.set_cons_succ, List.length_cons, List.length_nil, List.replicate, Option.some.injEq, Sl.val.injEq, Sl.own.injEq, D.int.injEq, D.bl.injEq, D.tup.injEq, D.lst.injEq, exists_eq_left', exists_eq_left, exists_eq_right, true_and, and_true, if_true, List.cons.injEq, exists_and_left, exists_const, items_tup, items_lst, isT_tup, isT_lst, atI_0, atI_1, atI_2, addD_int, addD_tup, intD_int, intD_bl, dTel, dRows, dI, dSta, dGar, dRat, tyq_tup, tyq_lst, tyq_int, tyq_str, tyq_bl, tyq_non, isi_tt, isi_ss, isi_ii, isi_ib, shp_eq_int, shp_eq_teller, shp_eq_stakes, shp_eq_garbler, eq_str_self, eq_int, Bool.not_true, Bool.not_false, Bool.false_eq_true, if_false, List.length_map, decide_eq_true_eq, Bool.not_eq_true', decide_eq_false_iff_not, Nat.zero_add, Nat.reduceAdd, ite_true, ite_false, Int.reduceAdd, wDctNew, wDctGet, wDctIx, wDctPut, wDctSorted, fRepT, Sl.dct.injEq, wCallT, fsT, lenI_tup, lenI_lst, lenI_scr, fsD, wDrTurn, wDrRest, wDrCells, wDrAny, wDrPop, wDrSetR, wDrSetT, drIs])
abbrev s_stakes_sum : Stmt := topS 38
theorem sc_stakes_sum : FnScope ["stakes", "second", "found", "deed", "other", "gain", "more"] ["stakes", "second"] (defScope s_stakes_sum) := ⟨rfl, rfl, rfl, by decide +kernel, rfl, by decide +kernel, by decide +kernel⟩
abbrev s_product : Stmt := topS 51
theorem sc_product : FnScope ["rows", "more", "found", "row", "z", "y"] ["rows", "more"] (defScope s_product) := ⟨rfl, rfl, rfl, by decide +kernel, rfl, by decide +kernel, by decide +kernel⟩
abbrev s_lowered_rows : Stmt := topS 52
theorem sc_lowered_rows : FnScope ["whole", "rows", "by", "row", "number"] ["whole", "rows"] (defScope s_lowered_rows) := ⟨rfl, rfl, rfl, by decide +kernel, rfl, by decide +kernel, by decide +kernel⟩
abbrev s_garbled : Stmt := topS 53
theorem sc_garbled : FnScope ["teller", "garbler", "whole", "rows"] ["teller", "garbler"] (defScope s_garbled) := ⟨rfl, rfl, rfl, by decide +kernel, rfl, by decide +kernel, by decide +kernel⟩
section
variable {P : Program} {w : World} {K : PySem.W.Frag} {mg : Str → Option Value} {base : Heap}
theorem ok_stakes_sum (T : Txt mg) (c_check_stakes : Cal P w K mg base 2 "check_stakes" ["stakes"] (spP K 1 fs_check_stakes)) (c_check_second : Cal P w K mg base 3 "check_second" ["stakes", "second"] (spP K 2 fs_check_second)) (c_made_stakes : Cal P w K mg base 1 "made_stakes" ["deeds"] (spP K 1 fs_made_stakes)) {f : Addr} {fd : FuncData} (F : Fun K "stakes_sum" "stakes_sum" s_stakes_sum f fd) : FnOk P w K mg base CX0 4 f fd ["stakes", "second"] (spP K 2 fs_stakes_sum) := by
  refine ok_P F sc_stakes_sum rfl (fun cdv A outer s H E hr =>
    (S_cons (S_expr (E_callC c_check_stakes (hr.mono (by decide)) rfl tk_P (EA_cons (E_name (pv 0)) EA_nil)))
      (S_cons (S_expr (E_callC c_check_second (hr.mono (by decide)) rfl tk_P (EA_cons (E_name (pv 0)) (EA_cons (E_name (pv 1)) EA_nil))))
      (S_cons (S_own (i := 2) (ps_set (i := 2) sc_stakes_sum.nd rfl (by first | exact Or.inl rfl | exact Or.inr rfl) (EL_lst EA_nil)))
      (S_cons (S_for PassesOwn.never rfl (EI_seq (E_ix (E_name (pv 0)) E_int)) (EG_name (pg_name (i := 3) sc_stakes_sum.nd rfl (by first | exact Or.inl rfl | exact Or.inr rfl))) (S_one (S_extend (i := 2) (ps_expr (pe_bm PySem.F.plainAttrs_list PySem.F.slot_list_extend PySem.F.type_list_extend mt_extend (pv 2) (pa_cons (EL_lc (own := [("other", 4)]) rfl sc_stakes_sum.nd (blkOk_by (by first | decide +kernel | rfl)) (by decide) (EI_seq (E_ix (E_name (pv 1)) E_int)) (fun _ _ _ _ _ => (EG_name (pg_name (i := 4) sc_stakes_sum.nd rfl (by first | exact Or.inl rfl | exact Or.inr rfl)))) (fun _ _ _ _ _ => ETs_nil) (fun _ _ _ _ _ => (E_cb (fun h => pe_callTy call_tuple_of rfl T.bt.b_tuple b_tuple h) opn_tuple (EA_cons (E_ls (EL_lc (own := [("gain", 5), ("more", 6)]) rfl sc_stakes_sum.nd (blkOk_by (by first | decide +kernel | rfl)) (by decide) (EI_zip (fun h => pi_zipA rfl T.bt.b_zip h) (EA_cons (E_name (pv 3)) (EA_cons (E_name (pv 4)) EA_nil))) (fun _ _ _ _ _ => (EG_tup (is := [5, 6]) rfl (pg_tup rfl (pgs_cons (pg_name (i := 5) sc_stakes_sum.nd rfl (by first | exact Or.inl rfl | exact Or.inr rfl)) (pgs_cons (pg_name (i := 6) sc_stakes_sum.nd rfl (by first | exact Or.inl rfl | exact Or.inr rfl)) pgs_nil))))) (fun _ _ _ _ _ => ETs_nil) (fun _ _ _ _ _ => (E_bin op_addIT opd_add (E_name (pv 5)) (E_name (pv 6)))))) EA_nil)))) pa_nil))))))
      (S_one (S_frzB (i := 2) (S_ret (E_callC c_made_stakes (hr.mono (by decide)) rfl tk_P (EA_cons (E_name (pv 2)) EA_nil)))))))))) (fun ds Φ hn h => ?_)
  obtain ⟨g, h, rfl, og, oh, hw, hl, hq⟩ := h
  walk_at "jv"
  refine ⟨g, rfl, og, g, h, rfl, og, oh, hw, by decide, ?_⟩
  refine ⟨fun k ρ _ => ∃ y z u v, ρ = [.val (dSta g), .val (dSta h), .own ((sumG (g.take k) h).map fun r => dI r), y, z, u, v], ⟨_, _, _, _, rfl⟩, ?_, ?_⟩
  · rintro k ρ _ e ⟨y, z, u, v, rfl⟩ he
    obtain ⟨r, hr, rfl⟩ := map_at he
    have hk : k < g.length := (List.getElem?_eq_some_iff.mp hr).1
    have hrm := List.mem_of_getElem? hr
    have hlr := og.len r hrm
    walk_at "jv"
    refine ⟨by rw [sizeL]; have := oh.l2; omega, ?_⟩
    refine lcRun_mapOf _ (fun b => dI ((r.zip b).map fun p => p.1 + p.2)) _ (fun b hb K t hK => ?_) ?_
    · walk_at "jv"
      refine ⟨_, _, ⟨rfl, rfl⟩, _, rfl, _, rfl, rfl, ?_⟩
      rw [zipD_int]
      refine ⟨by rw [List.length_map, List.length_zip, sizeL]; have := og.w2; omega, ?_⟩
      refine lcRun_mapOf _ (fun p => D.int (p.1 + p.2)) _ (fun p hp K t hK => ?_) ?_
      · walk_at "jv"
        exact ⟨trivial, hK⟩
      · rw [dI, List.map_map] at hK
        exact hK
    · have hs : sumG (g.take (k + 1)) h = sumG (g.take k) h ++ h.map fun b => (r.zip b).map fun p => p.1 + p.2 := by
        rw [take_succ_at hr, sumG, List.flatMap_append, sumG]
        simp
      have hlen : (sumG (g.take (k + 1)) h).length ≤ 12 := by
        have e : ∀ l : List (List Int), (sumG l h).length = l.length * h.length := fun l => by
          induction l with
          | nil => simp [sumG]
          | cons a b ih =>
            rw [sumG, List.flatMap_cons, List.length_append, List.length_map, List.length_cons, Nat.add_mul, Nat.one_mul, Nat.add_comm]
            rw [sumG] at ih
            rw [ih]
        rw [e]
        refine Nat.le_trans (Nat.mul_le_mul_right _ ?_) hl
        rw [List.length_take]; omega
      rw [hs, List.length_append, List.length_map] at hlen
      refine ⟨by rw [List.length_map, sizeL]; omega, ?_, _, rfl⟩
      rw [hs, List.map_append, List.map_map]
      rfl
  · rintro ρ _ ⟨y, z, u, v, rfl⟩
    walk_at "jv"
    rw [List.take_length]
    refine ⟨_, rfl, ?_, hq⟩
    have e : ∀ l : List (List Int), (sumG l h).length = l.length * h.length := fun l => by
      induction l with
      | nil => simp [sumG]
      | cons a b ih =>
        rw [sumG, List.flatMap_cons, List.length_append, List.length_map, List.length_cons, Nat.add_mul, Nat.one_mul, Nat.add_comm]
        rw [sumG] at ih
        rw [ih]
    rw [e]; exact hl

theorem ok_product (T : Txt mg)  {f : Addr} {fd : FuncData} (F : Fun K "product" "product" s_product f fd) : FnOk P w K mg base CX0 1 f fd ["rows", "more"] (spP K 2 fs_product) := by
  refine ok_P F sc_product rfl (fun cdv A outer s H E hr =>
    (S_cons (S_own (i := 2) (ps_set (i := 2) sc_product.nd rfl (by first | exact Or.inl rfl | exact Or.inr rfl) (EL_lst EA_nil)))
      (S_cons (S_for PassesOwn.never rfl (EI_seq (E_name (pv 0))) (EG_name (pg_name (i := 3) sc_product.nd rfl (by first | exact Or.inl rfl | exact Or.inr rfl))) (S_one (S_append (i := 2) (ps_expr (pe_bm PySem.F.plainAttrs_list PySem.F.slot_list_append PySem.F.type_list_append mt_append (pv 2) (pa_cons (E_cb (fun h => pe_callTy call_tuple_of rfl T.bt.b_tuple b_tuple h) opn_tuple (EA_cons (E_ls (EL_lc (own := [("z", 4)]) rfl sc_product.nd (blkOk_by (by first | decide +kernel | rfl)) (by decide) (EI_range1 (fun h => pi_range1 rfl T.bt.b_range h) (EA_cons (E_cb (fun h => pe_callB call_len_seq rfl T.bt.b_len b_len h) opn_len (EA_cons (E_ix (E_name (pv 1)) E_int) EA_nil)) EA_nil)) (fun _ _ _ _ _ => (EG_name (pg_name (i := 4) sc_product.nd rfl (by first | exact Or.inl rfl | exact Or.inr rfl)))) (fun _ _ _ _ _ => ETs_nil) (fun _ _ _ _ _ => (E_cb (fun h => pe_callB (cr_sumS rfl) rfl T.bt.b_sum b_sum h) opn_sum (EA_cons (E_ls (EL_lc (own := [("y", 5)]) rfl sc_product.nd (blkOk_by (by first | decide +kernel | rfl)) (by decide) (EI_range1 (fun h => pi_range1 rfl T.bt.b_range h) (EA_cons (E_cb (fun h => pe_callB call_len_seq rfl T.bt.b_len b_len h) opn_len (EA_cons (E_name (pv 3)) EA_nil)) EA_nil)) (fun _ _ _ _ _ => (EG_name (pg_name (i := 5) sc_product.nd rfl (by first | exact Or.inl rfl | exact Or.inr rfl)))) (fun _ _ _ _ _ => ETs_nil) (fun _ _ _ _ _ => (E_bin op_mulW opd_I (E_ix (E_name (pv 3)) (E_name (pv 5))) (E_ix (E_ix (E_name (pv 1)) (E_name (pv 5))) (E_name (pv 4))))))) EA_nil))))) EA_nil)) pa_nil))))))
      (S_one (S_frzB (i := 2) (S_ret (E_cb (fun h => pe_callTy call_tuple_of rfl T.bt.b_tuple b_tuple h) opn_tuple (EA_cons (E_name (pv 2)) EA_nil)))))))) (fun ds Φ hn h => ?_)
  obtain ⟨rows, more, rfl, l1, hr, m1, m2, mw, hm, hq⟩ := h
  obtain ⟨r0, hr0, hlr0, hat⟩ := head_at m1
  walk_at "jv"
  refine ⟨by decide, ?_⟩
  refine ⟨fun k ρ _ => ∃ y z u, ρ = [.val (dRows rows), .val (dRows more), .own ((prodR (rows.take k) more).map fun r => dI r), y, z, u], ⟨_, _, _, rfl⟩, ?_, ?_⟩
  · rintro k ρ _ e ⟨y, z, u, rfl⟩ he
    obtain ⟨r, hrk, rfl⟩ := map_at he
    have hk : k < rows.length := (List.getElem?_eq_some_iff.mp hrk).1
    have hrm := List.mem_of_getElem? hrk
    obtain ⟨hlr, hsm⟩ := hr r hrm
    walk_at "jv"
    refine ⟨_, hat, _, rfl, by rw [List.length_map]; omega, ?_⟩
    rw [List.length_map, hlr0]
    refine ⟨by omega, by rw [rangeD_len, sizeL]; omega, ?_⟩
    rw [Int.toNat_natCast, rangeD_eq]
    refine lcRun_mapOf _ (fun z => D.int (prodAt r more z)) _ (fun z hz K t hK => ?_) ?_
    · have hz := List.mem_range.mp hz
      walk_at "jv"
      refine ⟨by omega, by omega, by rw [rangeD_len, sizeL]; omega, ?_⟩
      rw [Int.toNat_natCast, rangeD_eq]
      refine lcRun_mapOf _ (fun y => D.int (r.getD y 0 * (more.getD y []).getD z 0)) _ (fun y hy K t hK => ?_) ?_
      · have hy := List.mem_range.mp hy
        have hym : more.getD y [] ∈ more := by
          rw [List.getD_eq_getElem?_getD, List.getElem?_eq_getElem (by omega)]
          exact List.getElem_mem _
        obtain ⟨hm1, hm2⟩ := hm _ hym
        walk_at "jv"
        refine ⟨_, by rw [atI_map, atI_getD hy]; rfl, dI (more.getD y []), ?_, _, rfl, _, by rw [atI_map, atI_getD (by omega)]; rfl, _, rfl, _, rfl, ?_, hK⟩
        · rw [atI_map, atI_nat (List.getElem?_eq_getElem (by omega)), List.getD_eq_getElem?_getD, List.getElem?_eq_getElem (by omega)]
          rfl
        · refine Sm.cmul (a := 400000) (b := 400000) (hsm _ ?_) (hm2 _ ?_) (by decide) (by decide) (by decide)
          · exact getD_mem hy
          · exact getD_mem (by omega)
      · refine ⟨(List.range r.length).map fun y => r.getD y 0 * (more.getD y []).getD z 0, .inl (by simp [Function.comp_def]), ?_⟩
        exact hK
    · have hs : prodR (rows.take (k + 1)) more = prodR (rows.take k) more ++ [(List.range (wid more)).map fun z => prodAt r more z] := by
        rw [take_succ_at hrk, prodR, List.map_append, prodR]
        rfl
      refine ⟨?_, ?_⟩
      · rw [prodR, List.length_map, List.length_take, sizeL]; omega
      · rw [hs, List.map_append]
        simp [Function.comp_def]
  · rintro ρ _ ⟨y, z, u, rfl⟩
    walk_at "jv"
    rw [List.take_length]
    exact hq

theorem ok_lowered_rows (T : Txt mg) (c_common_garblers : Cal P w K mg base 1 "common_garblers" ["numbers"] (spP K 1 fs_common_garblers)) {f : Addr} {fd : FuncData} (F : Fun K "lowered_rows" "lowered_rows" s_lowered_rows f fd) : FnOk P w K mg base CX0 2 f fd ["whole", "rows"] (spP K 2 fs_lowered_rows) := by
  refine ok_P F sc_lowered_rows rfl (fun cdv A outer s H E hr =>
    (S_cons (S_set (i := 2) (ps_set (i := 2) sc_lowered_rows.nd rfl (by first | exact Or.inl rfl | exact Or.inr rfl) (E_callC c_common_garblers (hr.mono (by decide)) rfl tk_P (EA_cons (E_ls (EL_bin op_catR opd_cat (E_ls (EL_lst (EA_cons (E_name (pv 0)) EA_nil))) (E_ls (EL_lc2 (own := [("row", 3), ("number", 4)]) (vs1 := [4]) rfl sc_lowered_rows.nd (blkOk_by (by first | decide +kernel | rfl)) (by decide) (by decide) (by decide) (EI_seq (E_name (pv 1))) (fun _ _ _ _ _ => (EG_name (pg_name (i := 3) sc_lowered_rows.nd rfl (by first | exact Or.inl rfl | exact Or.inr rfl)))) (fun _ _ _ _ _ => ETs_nil) (fun _ _ _ _ _ => (EI_seq (E_name (pv 3)))) (fun _ _ _ _ _ => (EG_name (pg_name (i := 4) sc_lowered_rows.nd rfl (by first | exact Or.inl rfl | exact Or.inr rfl)))) (fun _ _ _ _ _ => ETs_nil) (fun _ _ _ _ _ => (E_name (pv 4))))))) EA_nil))))
      (S_one (S_ret (E_tup (EA_cons (E_bin op_fdivW opd_I (E_name (pv 0)) (E_name (pv 2))) (EA_cons (E_cb (fun h => pe_callTy call_tuple_of rfl T.bt.b_tuple b_tuple h) opn_tuple (EA_cons (E_ls (EL_lc (own := [("row", 3)]) rfl sc_lowered_rows.nd (blkOk_by (by first | decide +kernel | rfl)) (by decide) (EI_seq (E_name (pv 1))) (fun _ _ _ _ _ => (EG_name (pg_name (i := 3) sc_lowered_rows.nd rfl (by first | exact Or.inl rfl | exact Or.inr rfl)))) (fun _ _ _ _ _ => ETs_nil) (fun _ _ _ _ _ => (E_cb (fun h => pe_callTy call_tuple_of rfl T.bt.b_tuple b_tuple h) opn_tuple (EA_cons (E_ls (EL_lc (own := [("number", 4)]) rfl sc_lowered_rows.nd (blkOk_by (by first | decide +kernel | rfl)) (by decide) (EI_seq (E_name (pv 3))) (fun _ _ _ _ _ => (EG_name (pg_name (i := 4) sc_lowered_rows.nd rfl (by first | exact Or.inl rfl | exact Or.inr rfl)))) (fun _ _ _ _ _ => ETs_nil) (fun _ _ _ _ _ => (E_bin op_fdivW opd_I (E_name (pv 4)) (E_name (pv 2)))))) EA_nil))))) EA_nil)) EA_nil))))))) (fun ds Φ hn h => ?_)
  obtain ⟨d, rows, rfl, l1, hr, d0, sd, hq⟩ := h
  obtain ⟨g0, g1⟩ := gcdL_pos (l := rows.flatten) d0
  have hc : ∀ x, CDivW x (gcdL (d :: rows.flatten)) := fun x => Sm.cdiv (sd.le (by omega) g1) g0 (by decide) (by decide)
  have hfl : rows.flatten.length ≤ 144 := flat_len l1 (fun r hx => (hr r hx).1)
  walk_at "jv"
  refine ⟨by decide, ?_⟩
  refine lc2_mapOf _ (fun r => r) D.int (fun _ x => D.int x) rows (fun r hr => ?_) ?_ ?_
  · refine ⟨_, rfl, fun Kb t h => h, fun Kl t h => ?_, fun y hy => ⟨_, rfl, fun Kb t h => h, fun K' t h => ?_⟩⟩
    · walk_at "jv"; exact h
    · walk_at "jv"; exact h
  · rw [flatMap_id', sizeL]; omega
  rw [flatMap_int]
  refine ⟨by rw [List.length_map, sizeL]; omega, _, d :: rows.flatten, rfl, .inl rfl, ?_, ?_⟩
  · intro x hx
    rcases List.mem_cons.mp hx with rfl | hx
    · omega
    · obtain ⟨r, h1, h2⟩ := List.mem_flatten.mp hx
      exact (hr r h1).2 x h2
  walk_at "jv"
  refine ⟨hc d, by rw [sizeL]; omega, ?_⟩
  refine lcRun_mapOf _ (fun r => dI (r.map (· / gcdL (d :: rows.flatten)))) _ (fun r hrr K t hK => ?_) ?_
  · walk_at "jv"
    refine ⟨by rw [sizeL]; have := (hr r hrr).1; omega, ?_⟩
    refine lcRun_mapOf _ (fun x => D.int (x / gcdL (d :: rows.flatten))) _ (fun x hx K t hK => ?_) ?_
    · walk_at "jv"
      exact ⟨hc x, hK⟩
    · rw [dI, List.map_map] at hK; exact hK
  · refine ⟨by decide, ?_⟩
    have e : dRows (lowR (gcdL (d :: rows.flatten)) rows) = D.tup (rows.map fun r => dI (r.map fun x => x / gcdL (d :: rows.flatten))) := by
      simp [lowR, dRows, Function.comp_def]
    rw [e] at hq
    exact hq

theorem ok_garbled (T : Txt mg) (c_check_garbler : Cal P w K mg base 4 "check_garbler" ["teller", "garbler"] (spP K 2 fs_check_garbler)) (c_lowered_rows : Cal P w K mg base 2 "lowered_rows" ["whole", "rows"] (spP K 2 fs_lowered_rows)) (c_is_teller : Cal P w K mg base 3 "is_teller" ["thing"] (spP K 1 fs_is_teller)) (c_product : Cal P w K mg base 1 "product" ["rows", "more"] (spP K 2 fs_product)) {f : Addr} {fd : FuncData} (F : Fun K "garbled" "garbled" s_garbled f fd) : FnOk P w K mg base CX0 5 f fd ["teller", "garbler"] (spP K 2 fs_garbled) := by
  obtain ⟨t_DIGITS_garblers, k_DIGITS_garblers⟩ := T.k_DIGITS_garblers
  obtain ⟨t_MOST_garblers, k_MOST_garblers⟩ := T.k_MOST_garblers
  refine ok_P F sc_garbled rfl (fun cdv A outer s H E hr =>
    (S_cons (S_if (EB_not (EB_val (E_callC c_is_teller (hr.mono (by decide)) rfl tk_P (EA_cons (E_name (pv 0)) EA_nil)))) (S_one S_never) S_nil)
      (S_cons (S_expr (E_callC c_check_garbler (hr.mono (by decide)) rfl tk_P (EA_cons (E_name (pv 0)) (EA_cons (E_name (pv 1)) EA_nil))))
      (S_cons (S_asg (ps_asg (E_callC c_lowered_rows (hr.mono (by decide)) rfl tk_P (EA_cons (E_bin op_mulW opd_I (E_ix (E_name (pv 0)) E_int) (E_ix (E_name (pv 1)) E_int)) (EA_cons (E_callC c_product (hr.mono (by decide)) rfl tk_P (EA_cons (E_ix (E_name (pv 0)) E_int) (EA_cons (E_ix (E_name (pv 1)) E_int) EA_nil))) EA_nil))) (EG_tup (is := [2, 3]) rfl (pg_tup rfl (pgs_cons (pg_name (i := 2) sc_garbled.nd rfl (by first | exact Or.inl rfl | exact Or.inr rfl)) (pgs_cons (pg_name (i := 3) sc_garbled.nd rfl (by first | exact Or.inl rfl | exact Or.inr rfl)) pgs_nil))))))
      (S_cons (S_if (EB_cmp op_gt opd_B0 (E_name (pv 2)) (E_gint rfl k_MOST_garblers) (nomark _)) (S_one S_never) S_nil)
      (S_one (S_ret (E_tup (EA_cons E_str (EA_cons (E_name (pv 2)) (EA_cons (E_name (pv 3)) EA_nil))))))))))) (fun ds Φ hn h => ?_)
  obtain ⟨d, rows, e, m, rfl, ht, og, hl, se, hM, hq⟩ := h
  walk_at "jv"
  refine ⟨d, rows, rfl, ht, ?_⟩
  walk_at "jv"
  refine ⟨d, rows, e, m, rfl, ht, og, hl, ?_⟩
  have d1 := ht.d1
  have e1 := og.d1
  have sd := small_d ht
  have de : 0 < d * e := Int.mul_pos (by omega) (by omega)
  refine ⟨Sm.cmul (sd.mono (show 100 ≤ 7000 by decide)) se (by decide) (by decide) (by decide), ?_⟩
  refine ⟨rows, m, rfl, by have := ht.ok.l2; omega, fun r hr => ⟨by rw [hl, ht.ok.len r hr], fun x hx => (ht.ok.sm sd hr hx).mono (by decide)⟩, og.ok.l1, og.ok.l2, og.ok.w2, fun r hr => ⟨og.ok.len r hr, fun x hx => (og.ok.sm se hr hx).mono (by decide)⟩, ?_⟩
  refine ⟨d * e, prodR rows m, rfl, by rw [prodR, List.length_map]; have := ht.ok.l2; omega, fun r hr => ?_, de, (sd.mul se).mono (by decide), ?_⟩
  · obtain ⟨r0, hr0, rfl⟩ := List.mem_map.mp hr
    refine ⟨by rw [List.length_map, List.length_range]; exact og.ok.w2, fun x hx => ?_⟩
    obtain ⟨z, hz, rfl⟩ := List.mem_map.mp hx
    exact prodAt_nn (fun y hy => ht.ok.nn r0 hr0 y hy) (fun r hr y hy => og.ok.nn r hr y hy) z
  · refine ⟨_, rfl, ?_⟩
    walk_at "jv"
    rw [if_neg (by omega)]
    exact ⟨by decide, hq⟩

end
end J

set_option Elab.async false
set_option linter.all false
set_option maxRecDepth 100000
set_option maxHeartbeats 4000000
namespace J
open PySem PySem.Spec L2 RZ
local macro_rules | `(tactic| walk_at "jv") => `(tactic| simp only [wSq, wIfS, wOrT, wAndT, wNotT, wB, wIsi, wName, wRet, wC, wNilS, wAndV, wOrV, wNotV, wBin, wUn, wIf, wChain, fI0, fI, fIsN, fNotN, fB, fAdd, fEq, fNe, fIx, wCall, wCons, wNil, wTup, wDrop, wSet, wOwn, wFrzA, wFrzB, wAsg, wPar, wxVal, wxOwn, wxNil, bindX, bindP, bindN, wLs, wLst, wLc, wLc2, lcBody, wYes, wipeE, J.wSeq, wRange1, wRange2, wEnum, wZip, wSl, wSlL, wNoO, wSomeO, wAppend, wExtend, wSetIx, wOwnIx, wOwnLen, wFor, wWhile, fLen, fAbs, fMin2, fMax2, fInt, fSum, fMax, fAll, fAny, fTuple, fList, fCat, fRep, startE, List.map, List.cons_append, List.nil_append, List.getElem?_cons_zero, List.getElem?_cons_succ, List.set_cons_zero, List.set_cons_succ, List.length_cons, List.length_nil, List.replicate, Option.some.injEq, Sl.val.injEq, Sl.own.injEq, D.int.injEq, D.bl.injEq, D.tup.injEq, D.lst.injEq, exists_eq_left', exists_eq_left, exists_eq_right, true_and, and_true, if_true, List.cons.injEq, exists_and_left, exists_const, items_tup, items_lst, isT_tup, isT_lst, atI_0, atI_1, atI_2, addD_int, addD_tup, intD_int, intD_bl, dTel, dRows, dI, dSta, dGar, dRat, tyq_tup, tyq_lst, tyq_int, tyq_str, tyq_bl, tyq_non, isi_tt, isi_ss, isi_ii, isi_ib, shp_eq_int, shp_eq_teller, shp_eq_stakes, shp_eq_garbler, eq_str_self, eq_int, Bool.not_true, Bool.not_false, Bool.false_eq_true, if_false, List.length_map, decide_eq_true_eq, Bool.not_eq_true', decide_eq_false_iff_not, Nat.zero_add, Nat.reduceAdd, ite_true, ite_false, Int.reduceAdd, wDctNew, wDctGet, wDctIx, wDctPut, wDctSorted, fRepT, Sl.dct.injEq, wCallT, fsT, lenI_tup, lenI_lst, lenI_scr, fsD, wDrTurn, wDrRest, wDrCells, wDrAny, wDrPop, wDrSetR, wDrSetT, drIs])
abbrev s__law_gcd : Stmt := topS 64
theorem sc__law_gcd : FnScope ["one", "other"] ["one", "other"] (defScope s__law_gcd) := ⟨rfl, rfl, rfl, by decide +kernel, rfl, by decide +kernel, by decide +kernel⟩
abbrev s__law_ratio : Stmt := topS 65
theorem sc__law_ratio : FnScope ["above", "below", "part"] ["above", "below"] (defScope s__law_ratio) := ⟨rfl, rfl, rfl, by decide +kernel, rfl, by decide +kernel, by decide +kernel⟩
abbrev s__law_less : Stmt := topS 66
theorem sc__law_less : FnScope ["first", "second"] ["first", "second"] (defScope s__law_less) := ⟨rfl, rfl, rfl, by decide +kernel, rfl, by decide +kernel, by decide +kernel⟩
abbrev s__law_columns : Stmt := topS 70
theorem sc__law_columns : FnScope ["teller", "k", "row"] ["teller"] (defScope s__law_columns) := ⟨rfl, rfl, rfl, by decide +kernel, rfl, by decide +kernel, by decide +kernel⟩
abbrev s__law_sums : Stmt := topS 71
theorem sc__law_sums : FnScope ["column", "stakes", "deed", "gain", "number"] ["column", "stakes"] (defScope s__law_sums) := ⟨rfl, rfl, rfl, by decide +kernel, rfl, by decide +kernel, by decide +kernel⟩
abbrev s__law_worth : Stmt := topS 72
theorem sc__law_worth : FnScope ["teller", "stakes", "column"] ["teller", "stakes"] (defScope s__law_worth) := ⟨rfl, rfl, rfl, by decide +kernel, rfl, by decide +kernel, by decide +kernel⟩
abbrev s__law_sum : Stmt := topS 74
theorem sc__law_sum : FnScope ["first", "second"] ["first", "second"] (defScope s__law_sum) := ⟨rfl, rfl, rfl, by decide +kernel, rfl, by decide +kernel, by decide +kernel⟩
section
variable {P : Program} {w : World} {K : PySem.W.Frag} {mg : Str → Option Value} {base : Heap}
theorem ok__law_gcd (T : Txt mg)  {f : Addr} {fd : FuncData} (F : Fun K "_law_gcd" "_law_gcd" s__law_gcd f fd) : FnOk P w K mg base CX0 1 f fd ["one", "other"] (spP K 2 fs__law_gcd) := by
  refine ok_P F sc__law_gcd rfl (fun cdv A outer s H E hr =>
    (S_cons (S_while PassesOwn.never (EB_cmp (op_neD hr.units) opd_ne (E_name (pv 1)) E_int (nomark _)) (S_one (S_par2 (i := 0) (j := 1) (by decide) (ps_par (by rfl) sc__law_gcd.nd rfl rfl (by decide) rfl rfl (EX_val (E_name (pv 1)) (EX_val (E_bin op_modN opd_I (E_name (pv 0)) (E_name (pv 1))) EX_nil)) (by rfl)))))
      (S_one (S_ret (E_cb (fun h => pe_callB call_abs rfl T.bt.b_abs b_abs h) opn_abs (EA_cons (E_name (pv 0)) EA_nil)))))) (fun ds Φ hn h => ?_)
  obtain ⟨a, b, rfl, hq⟩ := h
  walk_at "jv"
  refine ⟨fun m ρ _ => ∃ x y : Int, ρ = [.val (.int x), .val (.int y)] ∧ gcdI x y = gcdI a b ∧ m = y.natAbs, ⟨_, a, b, rfl, rfl, rfl⟩, ?_⟩
  rintro m ρ _ ⟨x, y, rfl, hg, rfl⟩
  walk_at "jv"
  by_cases hy : y = 0
  · subst hy
    simp
    rw [← gcdI_zero, hg]
    exact hq
  · simp [hy]
    exact ⟨_, fmod_lt x hy, y, x.fmod y, ⟨rfl, rfl⟩, (gcdI_fmod x y).trans hg, rfl⟩

theorem ok__law_ratio (T : Txt mg) (c__law_gcd : Cal P w K mg base 1 "_law_gcd" ["one", "other"] (spP K 2 fs__law_gcd)) {f : Addr} {fd : FuncData} (F : Fun K "_law_ratio" "_law_ratio" s__law_ratio f fd) : FnOk P w K mg base CX0 2 f fd ["above", "below"] (spP K 2 fs__law_ratio) := by
  refine ok_P F sc__law_ratio rfl (fun cdv A outer s H E hr =>
    (S_cons (S_set (i := 2) (ps_set (i := 2) sc__law_ratio.nd rfl (by first | exact Or.inl rfl | exact Or.inr rfl) (E_callC c__law_gcd (hr.mono (by decide)) rfl tk_P (EA_cons (E_name (pv 0)) (EA_cons (E_name (pv 1)) EA_nil)))))
      (S_one (S_ret (E_tup (EA_cons (E_bin op_fdivW opd_I (E_name (pv 0)) (E_name (pv 2))) (EA_cons (E_bin op_fdivW opd_I (E_name (pv 1)) (E_name (pv 2))) EA_nil))))))) (fun ds Φ hn h => ?_)
  obtain ⟨a, b, rfl, hb, hs, hq⟩ := h
  walk_at "jv"
  refine ⟨a, b, rfl, ?_⟩
  have h1 : 0 < gcdI a b := gcdI_pos hb
  have h2 := gcdI_le (a := a) hb
  have h3 : CDivW a (gcdI a b) := wide_div h1 (wide_le (Int.le_of_lt h1) h2 hs) (by decide) (by decide)
  exact ⟨_, rfl, h3, _, rfl, h3, by decide, hq⟩

theorem ok__law_less (T : Txt mg)  {f : Addr} {fd : FuncData} (F : Fun K "_law_less" "_law_less" s__law_less f fd) : FnOk P w K mg base CX0 1 f fd ["first", "second"] (spP K 2 fs__law_less) := by
  refine ok_P F sc__law_less rfl (fun cdv A outer s H E hr =>
    (S_one (S_ret (E_cmp op_lt opd_B0 (E_bin op_mulW opd_I (E_ix (E_name (pv 0)) E_int) (E_ix (E_name (pv 1)) E_int)) (E_bin op_mulW opd_I (E_ix (E_name (pv 1)) E_int) (E_ix (E_name (pv 0)) E_int)) (nomark _))))) (fun ds Φ hn h => ?_)
  obtain ⟨p, q, rfl, h1, h2, h3, h4, hq⟩ := h
  walk_at "jv"
  exact ⟨h1.cmul h4 (by decide) (by decide) (by decide), h3.cmul h2 (by decide) (by decide) (by decide), hq⟩

theorem ok__law_columns (T : Txt mg)  {f : Addr} {fd : FuncData} (F : Fun K "_law_columns" "_law_columns" s__law_columns f fd) : FnOk P w K mg base CX0 1 f fd ["teller"] (spP K 1 fs__law_columns) := by
  refine ok_P F sc__law_columns rfl (fun cdv A outer s H E hr =>
    (S_one (S_ret (E_ls (EL_lc (own := [("k", 1)]) rfl sc__law_columns.nd (blkOk_by (by first | decide +kernel | rfl)) (by decide) (EI_range1 (fun h => pi_range1 rfl T.bt.b_range h) (EA_cons (E_cb (fun h => pe_callB call_len_seq rfl T.bt.b_len b_len h) opn_len (EA_cons (E_ix (E_ix (E_name (pv 0)) E_int) E_int) EA_nil)) EA_nil)) (fun _ _ _ _ _ => (EG_name (pg_name (i := 1) sc__law_columns.nd rfl (by first | exact Or.inl rfl | exact Or.inr rfl)))) (fun _ _ _ _ _ => ETs_nil) (fun _ _ _ _ _ => (E_cb (fun h => pe_callTy call_tuple_of rfl T.bt.b_tuple b_tuple h) opn_tuple (EA_cons (E_ls (EL_lc (own := [("row", 2)]) rfl sc__law_columns.nd (blkOk_by (by first | decide +kernel | rfl)) (by decide) (EI_seq (E_ix (E_name (pv 0)) E_int)) (fun _ _ _ _ _ => (EG_name (pg_name (i := 2) sc__law_columns.nd rfl (by first | exact Or.inl rfl | exact Or.inr rfl)))) (fun _ _ _ _ _ => ETs_nil) (fun _ _ _ _ _ => (E_ix (E_name (pv 2)) (E_name (pv 1)))))) EA_nil)))))))) (fun ds Φ hn h => ?_)
  obtain ⟨d, rows, rfl, ht, hq⟩ := h
  obtain ⟨r0, hr0, hlr0, hat⟩ := head_at ht.ok.l1
  have w2 := ht.ok.w2
  walk_at "jv"
  refine ⟨_, hat, _, rfl, by rw [List.length_map]; omega, ?_⟩
  rw [List.length_map, hlr0]
  refine ⟨by omega, by rw [rangeD_len, sizeL]; omega, ?_⟩
  rw [Int.toNat_natCast, rangeD_eq]
  refine lcRun_mapOf _ (fun y => dI (rows.map fun r => r.getD y 0)) _ (fun y hy K t hK => ?_) ?_
  · walk_at "jv"
    refine ⟨by rw [sizeL]; have := ht.ok.l2; omega, ?_⟩
    refine lcRun_mapOf _ (fun r => D.int (r.getD y 0)) _ (fun r hr K t hK => ?_) ?_
    · walk_at "jv"
      refine ⟨_, ?_, hK⟩
      rw [atI_map, atI_getD (by rw [ht.ok.len r hr]; exact List.mem_range.mp hy)]
      rfl
    · rw [dI, List.map_map] at hK; exact hK
  · simpa [cols, Function.comp_def] using hq

theorem ok__law_sums (T : Txt mg)  {f : Addr} {fd : FuncData} (F : Fun K "_law_sums" "_law_sums" s__law_sums f fd) : FnOk P w K mg base CX0 1 f fd ["column", "stakes"] (spP K 2 fs__law_sums) := by
  refine ok_P F sc__law_sums rfl (fun cdv A outer s H E hr =>
    (S_one (S_ret (E_ls (EL_lc (own := [("deed", 2)]) rfl sc__law_sums.nd (blkOk_by (by first | decide +kernel | rfl)) (by decide) (EI_seq (E_ix (E_name (pv 1)) E_int)) (fun _ _ _ _ _ => (EG_name (pg_name (i := 2) sc__law_sums.nd rfl (by first | exact Or.inl rfl | exact Or.inr rfl)))) (fun _ _ _ _ _ => ETs_nil) (fun _ _ _ _ _ => (E_cb (fun h => pe_callB (cr_sumS rfl) rfl T.bt.b_sum b_sum h) opn_sum (EA_cons (E_ls (EL_lc (own := [("gain", 3), ("number", 4)]) rfl sc__law_sums.nd (blkOk_by (by first | decide +kernel | rfl)) (by decide) (EI_zip (fun h => pi_zipA rfl T.bt.b_zip h) (EA_cons (E_name (pv 2)) (EA_cons (E_name (pv 0)) EA_nil))) (fun _ _ _ _ _ => (EG_tup (is := [3, 4]) rfl (pg_tup rfl (pgs_cons (pg_name (i := 3) sc__law_sums.nd rfl (by first | exact Or.inl rfl | exact Or.inr rfl)) (pgs_cons (pg_name (i := 4) sc__law_sums.nd rfl (by first | exact Or.inl rfl | exact Or.inr rfl)) pgs_nil))))) (fun _ _ _ _ _ => ETs_nil) (fun _ _ _ _ _ => (E_bin op_mulW opd_I (E_name (pv 3)) (E_name (pv 4)))))) EA_nil)))))))) (fun ds Φ hn h => ?_)
  obtain ⟨g, c, rfl, ok, hc, hq⟩ := h
  walk_at "jv"
  refine ⟨by rw [sizeL]; have := ok.l2; omega, ?_⟩
  refine lcRun_mapOf _ (fun a => D.int (dot a c)) _ (fun a ha K t hK => ?_) ?_
  · walk_at "jv"
    refine ⟨_, _, ⟨rfl, rfl⟩, _, rfl, _, rfl, rfl, ?_⟩
    rw [zipD_int]
    refine ⟨by rw [List.length_map, List.length_zip, sizeL]; have := ok.len a ha; have := ok.w2; omega, ?_⟩
    refine lcRun_mapOf _ (fun p => D.int (p.1 * p.2)) _ (fun p hp K t hK => ?_) ?_
    · have h1 := ok.sm a ha p.1 (List.of_mem_zip hp).1
      have h2 := hc p.2 (List.of_mem_zip hp).2
      walk_at "jv"
      exact ⟨h1.cmul h2 (by decide) (by decide) (by decide), hK⟩
    · refine ⟨(a.zip c).map fun p => p.1 * p.2, .inl (by simp [Function.comp_def]), ?_⟩
      exact hK
  · rw [dLI, sumsAt, List.map_map] at hq
    exact hq

theorem ok__law_worth (T : Txt mg) (c__law_ratio : Cal P w K mg base 2 "_law_ratio" ["above", "below"] (spP K 2 fs__law_ratio)) (c__law_sums : Cal P w K mg base 1 "_law_sums" ["column", "stakes"] (spP K 2 fs__law_sums)) (c__law_columns : Cal P w K mg base 1 "_law_columns" ["teller"] (spP K 1 fs__law_columns)) {f : Addr} {fd : FuncData} (F : Fun K "_law_worth" "_law_worth" s__law_worth f fd) : FnOk P w K mg base CX0 3 f fd ["teller", "stakes"] (spP K 2 fs__law_worth) := by
  refine ok_P F sc__law_worth rfl (fun cdv A outer s H E hr =>
    (S_one (S_ret (E_callC c__law_ratio (hr.mono (by decide)) rfl tk_P (EA_cons (E_cb (fun h => pe_callB (cr_sumS rfl) rfl T.bt.b_sum b_sum h) opn_sum (EA_cons (E_ls (EL_lc (own := [("column", 2)]) rfl sc__law_worth.nd (blkOk_by (by first | decide +kernel | rfl)) (by decide) (EI_seq (E_callC c__law_columns (hr.mono (by decide)) rfl tk_P (EA_cons (E_name (pv 0)) EA_nil))) (fun _ _ _ _ _ => (EG_name (pg_name (i := 2) sc__law_worth.nd rfl (by first | exact Or.inl rfl | exact Or.inr rfl)))) (fun _ _ _ _ _ => ETs_nil) (fun _ _ _ _ _ => (E_cb (fun h => pe_callB (cr_maxS rfl) rfl T.bt.b_max b_max h) opn_max (EA_cons (E_callC c__law_sums (hr.mono (by decide)) rfl tk_P (EA_cons (E_name (pv 2)) (EA_cons (E_name (pv 1)) EA_nil))) EA_nil))))) EA_nil)) (EA_cons (E_ix (E_name (pv 0)) E_int) EA_nil)))))) (fun ds Φ hn h => ?_)
  obtain ⟨d, rows, g, rfl, ht, ok, hw, hq⟩ := h
  have sd := small_d ht
  have sc : ∀ c ∈ cols rows, ∀ x ∈ c, Sm 400000 x := fun c hc x hx => (cols_sm ht.ok sd hc hx).mono (by decide)
  walk_at "jv"
  refine ⟨d, rows, rfl, ht, ?_⟩
  walk_at "jv"
  refine ⟨by rw [sizeL]; have := ht.ok.w2; rw [cols_len]; omega, ?_⟩
  refine lcRun_mapOf _ (fun c => D.int (maxL (sumsAt g c))) _ (fun c hc K t hK => ?_) ?_
  · walk_at "jv"
    refine ⟨g, c, rfl, ok, sc c hc, _, .inl rfl, ?_, fun m h1 h2 => ?_⟩
    · rw [sumsAt, List.length_map]; have := ok.l1; omega
    · rw [maxL_eq h1 h2] at hK; exact hK
  · refine ⟨(cols rows).map fun c => maxL (sumsAt g c), .inl (by simp [Function.comp_def]), ?_⟩
    have h1 := ht.d1
    exact ⟨_, d, rfl, by omega, sd.mono (by decide), hq⟩

theorem ok__law_sum (T : Txt mg) (c__law_ratio : Cal P w K mg base 2 "_law_ratio" ["above", "below"] (spP K 2 fs__law_ratio)) {f : Addr} {fd : FuncData} (F : Fun K "_law_sum" "_law_sum" s__law_sum f fd) : FnOk P w K mg base CX0 3 f fd ["first", "second"] (spP K 2 fs__law_sum) := by
  refine ok_P F sc__law_sum rfl (fun cdv A outer s H E hr =>
    (S_one (S_ret (E_callC c__law_ratio (hr.mono (by decide)) rfl tk_P (EA_cons (E_bin op_addIT opd_add (E_bin op_mulW opd_I (E_ix (E_name (pv 0)) E_int) (E_ix (E_name (pv 1)) E_int)) (E_bin op_mulW opd_I (E_ix (E_name (pv 1)) E_int) (E_ix (E_name (pv 0)) E_int))) (EA_cons (E_bin op_mulW opd_I (E_ix (E_name (pv 0)) E_int) (E_ix (E_name (pv 1)) E_int)) EA_nil)))))) (fun ds Φ hn h => ?_)
  obtain ⟨p, q, rfl, h1, h2, h3, h4, p2, q2, hq⟩ := h
  walk_at "jv"
  refine ⟨(h1.mono (show 3000 ≤ 5000 by decide)).cmul h4 (by decide) (by decide) (by decide), (h3.mono (show 3000 ≤ 5000 by decide)).cmul h2 (by decide) (by decide) (by decide), trivial, (h2.mono (show 3000 ≤ 5000 by decide)).cmul h4 (by decide) (by decide) (by decide), ?_⟩
  exact ⟨_, _, rfl, Int.mul_pos p2 q2, (h2.mul h4).mono (by decide), hq⟩

end
end J

set_option Elab.async false
set_option linter.all false
set_option maxRecDepth 100000
set_option maxHeartbeats 4000000
namespace J
open PySem PySem.Spec L2 RZ
local macro_rules | `(tactic| walk_at "jv") => `(tactic| simp only [wSq, wIfS, wOrT, wAndT, wNotT, wB, wIsi, wName, wRet, wC, wNilS, wAndV, wOrV, wNotV, wBin, wUn, wIf, wChain, fI0, fI, fIsN, fNotN, fB, fAdd, fEq, fNe, fIx, wCall, wCons, wNil, wTup, wDrop, wSet, wOwn, wFrzA, wFrzB, wAsg, wPar, wxVal, wxOwn, wxNil, bindX, bindP, bindN, wLs, wLst, wLc, wLc2, lcBody, wYes, wipeE, J.wSeq, wRange1, wRange2, wEnum, wZip, wSl, wSlL, wNoO, wSomeO, wAppend, wExtend, wSetIx, wOwnIx, wOwnLen, wFor, wWhile, fLen, fAbs, fMin2, fMax2, fInt, fSum, fMax, fAll, fAny, fTuple, fList, fCat, fRep, startE, List.map, List.cons_append, List.nil_append, List.getElem?_cons_zero, List.getElem?_cons_succ, List.set_cons_zero, List.set_cons_succ, List.length_cons, List.length_nil, List.replicate, Option.some.injEq, Sl.val.injEq, Sl.own.injEq, D.int.injEq, D.bl.injEq, D.tup.injEq, D.lst.injEq, exists_eq_left', exists_eq_left, exists_eq_right, true_and, and_true, if_true, List.cons.injEq, exists_and_left, exists_const, items_tup, items_lst, isT_tup, isT_lst, atI_0, atI_1, atI_2, addD_int, addD_tup, intD_int, intD_bl, dTel, dRows, dI, dSta, dGar, dRat, tyq_tup, tyq_lst, tyq_int, tyq_str, tyq_bl, tyq_non, isi_tt, isi_ss, isi_ii, isi_ib, shp_eq_int, shp_eq_teller, shp_eq_stakes, shp_eq_garbler, eq_str_self, eq_int, Bool.not_true, Bool.not_false, Bool.false_eq_true, if_false, List.length_map, decide_eq_true_eq, Bool.not_eq_true', decide_eq_false_iff_not, Nat.zero_add, Nat.reduceAdd, ite_true, ite_false, Int.reduceAdd, wDctNew, wDctGet, wDctIx, wDctPut, wDctSorted, fRepT, Sl.dct.injEq, wCallT, fsT, lenI_tup, lenI_lst, lenI_scr, fsD, wDrTurn, wDrRest, wDrCells, wDrAny, wDrPop, wDrSetR, wDrSetT, drIs])
abbrev s_direction_of : Stmt := topS 55
theorem sc_direction_of : FnScope ["column", "by", "number"] ["column"] (defScope s_direction_of) := ⟨rfl, rfl, rfl, by decide +kernel, rfl, by decide +kernel, by decide +kernel⟩
abbrev s_plain_of : Stmt := topS 56
theorem sc_plain_of : FnScope ["d", "columns", "found", "column", "way", "known", "some", "one", "other", "x"] ["d", "columns"] (defScope s_plain_of) := ⟨rfl, rfl, rfl, by decide +kernel, rfl, by decide +kernel, by decide +kernel⟩
abbrev s_plain_told : Stmt := topS 57
theorem sc_plain_told : FnScope ["teller"] ["teller"] (defScope s_plain_told) := ⟨rfl, rfl, rfl, by decide +kernel, rfl, by decide +kernel, by decide +kernel⟩
abbrev s_plain : Stmt := topS 58
theorem sc_plain : FnScope ["teller"] ["teller"] (defScope s_plain) := ⟨rfl, rfl, rfl, by decide +kernel, rfl, by decide +kernel, by decide +kernel⟩
section
variable {P : Program} {w : World} {K : PySem.W.Frag} {mg : Str → Option Value} {base : Heap}
theorem ok_direction_of (T : Txt mg) (c_common_tellers : Cal P w K mg base 2 "common_tellers" ["numbers"] (spP K 1 fs_common_tellers)) {f : Addr} {fd : FuncData} (F : Fun K "direction_of" "direction_of" s_direction_of f fd) : FnOk P w K mg base CX0 3 f fd ["column"] (spP K 1 fs_direction_of) := by
  refine ok_P F sc_direction_of rfl (fun cdv A outer s H E hr =>
    (S_cons (S_set (i := 1) (ps_set (i := 1) sc_direction_of.nd rfl (by first | exact Or.inl rfl | exact Or.inr rfl) (E_callC c_common_tellers (hr.mono (by decide)) rfl tk_P (EA_cons (E_name (pv 0)) EA_nil))))
      (S_one (S_ret (E_if (EB_cmp op_gt opd_B0 (E_name (pv 1)) E_int (nomark _)) (E_cb (fun h => pe_callTy call_tuple_of rfl T.bt.b_tuple b_tuple h) opn_tuple (EA_cons (E_ls (EL_lc (own := [("number", 2)]) rfl sc_direction_of.nd (blkOk_by (by first | decide +kernel | rfl)) (by decide) (EI_seq (E_name (pv 0))) (fun _ _ _ _ _ => (EG_name (pg_name (i := 2) sc_direction_of.nd rfl (by first | exact Or.inl rfl | exact Or.inr rfl)))) (fun _ _ _ _ _ => ETs_nil) (fun _ _ _ _ _ => (E_bin op_fdivW opd_I (E_name (pv 2)) (E_name (pv 1)))))) EA_nil)) E_non))))) (fun ds Φ hn h => ?_)
  obtain ⟨c, rfl, hl, hc, hq⟩ := h
  walk_at "jv"
  refine ⟨_, c, rfl, .inr rfl, ?_⟩
  by_cases hg : 0 < gcdL c
  · rw [if_pos hg] at hq
    walk_at "jv"
    simp only [hg, if_true]
    refine ⟨by rw [sizeL]; omega, ?_⟩
    refine lcRun_mapOf _ (fun x => D.int (x / gcdL c)) _ (fun x hx K t hK => ?_) ?_
    · walk_at "jv"
      exact ⟨Sm.cdiv (b := 8000) (gcdL_sm hc hg) hg (by decide) (by decide), hK⟩
    · rw [dI, dirL, List.map_map] at hq
      exact hq
  · rw [if_neg hg] at hq
    walk_at "jv"
    simp only [hg, if_false]
    exact hq

theorem ok_plain_of (T : Txt mg) (c_made : Cal P w K mg base 3 "made" ["d", "rows"] (spP K 2 fs_made)) (c_direction_of : Cal P w K mg base 3 "direction_of" ["column"] (spP K 1 fs_direction_of)) {f : Addr} {fd : FuncData} (F : Fun K "plain_of" "plain_of" s_plain_of f fd) : FnOk P w K mg base CX0 4 f fd ["d", "columns"] (spP K 2 fs_plain_of) := by
  refine ok_P F sc_plain_of rfl (fun cdv A outer s H E hr =>
    (S_cons (S_dctNew (i := 2) (ps_set (i := 2) sc_plain_of.nd rfl (by first | exact Or.inl rfl | exact Or.inr rfl) pe_dnewT))
      (S_cons (S_for PassesOwn.never rfl (EI_seq (E_name (pv 1))) (EG_name (pg_name (i := 3) sc_plain_of.nd rfl (by first | exact Or.inl rfl | exact Or.inr rfl))) (S_cons (S_set (i := 4) (ps_set (i := 4) sc_plain_of.nd rfl (by first | exact Or.inl rfl | exact Or.inr rfl) (E_callC c_direction_of (hr.mono (by decide)) rfl tk_P (EA_cons (E_name (pv 3)) EA_nil))))
      (S_one (S_if (EB_cmp op_notN opd_notN (E_name (pv 4)) E_non (nomark _)) (S_cons (S_set (i := 5) (ps_set (i := 5) sc_plain_of.nd rfl (by first | exact Or.inl rfl | exact Or.inr rfl) (E_dctGet (i := 2) (pe_dget2 (hu1 hr) (pv 2) (E_name (pv 4)) (E_bin op_repA opd_repT (E_tup (EA_cons E_int EA_nil)) (E_cb (fun h => pe_callB call_len_seq rfl T.bt.b_len b_len h) opn_len (EA_cons (E_name (pv 3)) EA_nil))) ⟨rfl, rfl, rfl, rfl⟩))))
      (S_one (S_dctPut (i := 2) (ps_dput (hu1 hr) (pv 2) (E_name (pv 4)) (E_cb (fun h => pe_callTy call_tuple_of rfl T.bt.b_tuple b_tuple h) opn_tuple (EA_cons (E_ls (EL_lc (own := [("one", 7), ("other", 8)]) rfl sc_plain_of.nd (blkOk_by (by first | decide +kernel | rfl)) (by decide) (EI_zip (fun h => pi_zipA rfl T.bt.b_zip h) (EA_cons (E_name (pv 5)) (EA_cons (E_name (pv 3)) EA_nil))) (fun _ _ _ _ _ => (EG_tup (is := [7, 8]) rfl (pg_tup rfl (pgs_cons (pg_name (i := 7) sc_plain_of.nd rfl (by first | exact Or.inl rfl | exact Or.inr rfl)) (pgs_cons (pg_name (i := 8) sc_plain_of.nd rfl (by first | exact Or.inl rfl | exact Or.inr rfl)) pgs_nil))))) (fun _ _ _ _ _ => ETs_nil) (fun _ _ _ _ _ => (E_bin op_addIT opd_add (E_name (pv 7)) (E_name (pv 8)))))) EA_nil)) rfl)))) S_nil))))
      (S_cons (S_set (i := 6) (ps_set (i := 6) sc_plain_of.nd rfl (by first | exact Or.inl rfl | exact Or.inr rfl) (E_ls (EL_lc (own := [("way", 4)]) rfl sc_plain_of.nd (blkOk_by (by first | decide +kernel | rfl)) (by decide) (EI_new (EL_dctSorted (i := 2) (pe_callB (cr_sortDT rfl) rfl T.bt.b_sorted b_sorted (pa_cons (pv 2) pa_nil)))) (fun _ _ _ _ _ => (EG_name (pg_name (i := 4) sc_plain_of.nd rfl (by first | exact Or.inl rfl | exact Or.inr rfl)))) (fun _ _ _ _ _ => ETs_nil) (fun _ _ _ _ _ => (E_dctIx (i := 2) (pe_dget (hu1 hr) (pv 2) (E_name (pv 4)) (fun _ _ => rfl))))))))
      (S_one (S_ret (E_callC c_made (hr.mono (by decide)) rfl tk_P (EA_cons (E_name (pv 0)) (EA_cons (E_cb (fun h => pe_callTy call_tuple_of rfl T.bt.b_tuple b_tuple h) opn_tuple (EA_cons (E_ls (EL_lc (own := [("x", 9)]) rfl sc_plain_of.nd (blkOk_by (by first | decide +kernel | rfl)) (by decide) (EI_range1 (fun h => pi_range1 rfl T.bt.b_range h) (EA_cons (E_cb (fun h => pe_callB call_len_seq rfl T.bt.b_len b_len h) opn_len (EA_cons (E_ix (E_name (pv 6)) E_int) EA_nil)) EA_nil)) (fun _ _ _ _ _ => (EG_name (pg_name (i := 9) sc_plain_of.nd rfl (by first | exact Or.inl rfl | exact Or.inr rfl)))) (fun _ _ _ _ _ => ETs_nil) (fun _ _ _ _ _ => (E_cb (fun h => pe_callTy call_tuple_of rfl T.bt.b_tuple b_tuple h) opn_tuple (EA_cons (E_ls (EL_lc (own := [("column", 3)]) rfl sc_plain_of.nd (blkOk_by (by first | decide +kernel | rfl)) (by decide) (EI_seq (E_name (pv 6))) (fun _ _ _ _ _ => (EG_name (pg_name (i := 3) sc_plain_of.nd rfl (by first | exact Or.inl rfl | exact Or.inr rfl)))) (fun _ _ _ _ _ => ETs_nil) (fun _ _ _ _ _ => (E_ix (E_name (pv 3)) (E_name (pv 9)))))) EA_nil))))) EA_nil)) EA_nil))))))))) (fun ds Φ hn h => ?_)
  obtain ⟨d, columns, n, rfl, d0, d1, ok, hq⟩ := h
  walk_at "jv"
  refine ⟨fun k ρ _ => ∃ u v w x y z t, ρ = [.val (.int d), .val (.lst (columns.map fun c => dI c)), .dct ((wayD n (columns.take k)).map encK), u, v, w, x, y, z, t], ⟨_, _, _, _, _, _, _, rfl⟩, ?_, ?_⟩
  · rintro k ρ _ e ⟨u, v, w, x, y, z, t, rfl⟩ he
    obtain ⟨c, hc, rfl⟩ := map_at he
    have hcm := List.mem_of_getElem? hc
    walk_at "jv"
    refine ⟨c, rfl, by rw [ok.len c hcm]; have := ok.n2; omega, fun x hx => ⟨ok.nn c hcm x hx, ok.sm c hcm x hx⟩, ?_⟩
    obtain ⟨wk, wl⟩ := wayD_ok ok k
    rw [wayD_take hc, addWay]
    have hcl := ok.len c hcm
    have h12 := ok.l
    have hn6 := ok.n2
    have hk := (List.getElem?_eq_some_iff.mp hc).1
    by_cases hg : 0 < gcdL c
    · rw [if_pos hg, if_pos hg]
      walk_at "jv"
      refine ⟨dirL c, rfl, by decide, by simp, by rw [hcl]; have := ok.n1; omega, by omega, by decide, ?_⟩
      rw [rep_flat, Int.toNat_natCast, hcl]
      have el : (lookK (List.map encK (wayD n (List.take k columns))) (dirL c)).getD (D.tup (List.replicate n (D.int 0))) = dI ((lookN (wayD n (columns.take k)) (dirL c)).getD (List.replicate n 0)) := by
        rw [lookK_enc]
        cases lookN (wayD n (columns.take k)) (dirL c) with
        | none => simp [dI]
        | some v => rfl
      rw [el]
      refine ⟨_, _, ⟨rfl, rfl⟩, _, rfl, _, rfl, rfl, ?_⟩
      rw [zipD_int]
      refine ⟨by rw [List.length_map, List.length_zip, sizeL]; omega, ?_⟩
      refine lcRun_mapOf _ (fun p => D.int (p.1 + p.2)) _ (fun p hp K t hK => ?_) ?_
      · walk_at "jv"
        exact ⟨trivial, hK⟩
      · refine ⟨dirL c, rfl, by rw [sizeL]; omega, ?_, _, rfl⟩
        rw [← putD_enc, dI, addV, List.map_map]
        rfl
    · rw [if_neg hg, if_neg hg]
      walk_at "jv"
      exact ⟨_, rfl⟩
  · rintro ρ _ ⟨u, v, w, x, y, z, t, rfl⟩
    walk_at "jv"
    have h12 := ok.l
    have hn1 := ok.n1
    have hn6 := ok.n2
    obtain ⟨wk, wl⟩ := wayD_ok ok columns.length
    rw [List.take_length] at wk wl ⊢
    refine ⟨n, ok.n1, by omega, bigB, fun kv hkv => ?_, fun ys hy hs => ?_⟩
    · obtain ⟨kv', h1, rfl⟩ := List.mem_map.mp hkv
      exact ⟨wk.kl kv' h1, wk.bd kv' h1⟩
    have ek : List.map (fun x => x.fst) (List.map encK (wayD n columns)) = (wayD n columns).map (·.1) := by rw [List.map_map]; rfl
    rw [ek] at hy
    have hyl : ys.length = (wayD n columns).length := by rw [hy.length_eq, List.length_map]
    have hy0 : ys ≠ [] := fun e => by
      have := wayD_ne (n := n) ok.ex
      rw [e] at hyl
      exact this (List.eq_nil_of_length_eq_zero hyl.symm)
    have hval : ∀ k ∈ ys, ∃ v, lookN (wayD n columns) k = some v ∧ v.length = n := fun k hk => by
      obtain ⟨v, h1, h2⟩ := lookN_key (hy.mem_iff.mp hk)
      exact ⟨v, h1, wk.vl _ h2⟩
    have hq := hq ys hy hs
    refine ⟨by rw [sizeL]; omega, ?_⟩
    refine lcRun_mapOf _ (fun k => dI ((lookN (wayD n columns) k).getD [])) _ (fun k hk K t hK => ?_) ?_
    · obtain ⟨v, h1, h2⟩ := hval k hk
      walk_at "jv"
      refine ⟨k, rfl, _, by rw [lookK_enc, h1]; rfl, ?_⟩
      rw [h1] at hK
      exact hK
    obtain ⟨y0, yr, hys⟩ : ∃ y0 yr, ys = y0 :: yr := by
      cases ys with
      | nil => exact absurd rfl hy0
      | cons a b => exact ⟨a, b, rfl⟩
    obtain ⟨v0, h1, h2⟩ := hval y0 (by rw [hys]; exact List.mem_cons_self)
    have hat : atI (ys.map fun k => dI ((lookN (wayD n columns) k).getD [])) 0 = some (dI v0) := by
      rw [hys, List.map_cons, h1]; exact atI_0 _ _
    walk_at "jv"
    refine ⟨_, hat, _, rfl, by rw [List.length_map, h2]; omega, ?_⟩
    rw [List.length_map, h2]
    refine ⟨by omega, by rw [rangeD_len, sizeL]; omega, ?_⟩
    rw [Int.toNat_natCast, rangeD_eq]
    refine lcRun_mapOf _ (fun x => dI ((ys.map fun y => (lookN (wayD n columns) y).getD []).map fun c => c.getD x 0)) _ (fun x hx K t hK => ?_) ?_
    · have hx := List.mem_range.mp hx
      walk_at "jv"
      refine ⟨by rw [sizeL]; omega, ?_⟩
      refine lcRun_mapOf (fun k => dI ((lookN (wayD n columns) k).getD [])) (fun k => D.int (((lookN (wayD n columns) k).getD []).getD x 0)) _ (fun k hk K t hK => ?_) ?_
      · obtain ⟨v, h3, h4⟩ := hval k hk
        rw [h3] at hK ⊢
        walk_at "jv"
        refine ⟨_, ?_, hK⟩
        show atI (v.map D.int) _ = _
        rw [atI_map, atI_getD (by omega)]
        rfl
      · rw [dI, List.map_map, List.map_map] at hK
        exact hK
    · have e : ((List.range n).map fun x => dI ((ys.map fun y => (lookN (wayD n columns) y).getD []).map fun c => c.getD x 0)) = (tran n (ys.map fun y => (lookN (wayD n columns) y).getD [])).map fun r => dI r := by
        rw [tran, List.map_map]; rfl
      rw [e]
      obtain ⟨g0, g1⟩ := gcdL_pos (l := (tran n (ys.map fun y => (lookN (wayD n columns) y).getD [])).flatten) d0
      refine ⟨d, _, rfl, by rw [tran_len]; omega, by rw [tran_len]; omega, ?_, fun r hr => ?_, d0, (sm30.le (by omega) d1).mono (by decide), ?_, hq⟩
      · rw [tran_wid hn1, List.length_map, hyl]; omega
      · rw [tran_wid hn1]; exact tran_row hr
      · refine Int.le_trans (Int.ediv_le_self _ (by omega)) d1

theorem ok_plain_told (T : Txt mg) (c_plain_of : Cal P w K mg base 4 "plain_of" ["d", "columns"] (spP K 2 fs_plain_of)) (c_columns_of : Cal P w K mg base 1 "columns_of" ["teller"] (spP K 1 fs_columns_of)) {f : Addr} {fd : FuncData} (F : Fun K "plain_told" "plain_told" s_plain_told f fd) : FnOk P w K mg base CX0 5 f fd ["teller"] (spP K 1 fs_plain_told) := by
  refine ok_P F sc_plain_told rfl (fun cdv A outer s H E hr =>
    (S_one (S_ret (E_callC c_plain_of (hr.mono (by decide)) rfl tk_P (EA_cons (E_ix (E_name (pv 0)) E_int) (EA_cons (E_callC c_columns_of (hr.mono (by decide)) rfl tk_P (EA_cons (E_name (pv 0)) EA_nil)) EA_nil)))))) (fun ds Φ hn h => ?_)
  obtain ⟨d, rows, rfl, ht, hq⟩ := h
  walk_at "jv"
  refine ⟨d, rows, rfl, ht, d, cols rows, rows.length, rfl, by have := ht.d1; omega, ht.d2, tel_cols ht, hq⟩

theorem ok_plain (T : Txt mg) (c_check_teller : Cal P w K mg base 4 "check_teller" ["teller"] (spP K 1 fs_check_teller)) (c_plain_told : Cal P w K mg base 5 "plain_told" ["teller"] (spP K 1 fs_plain_told)) {f : Addr} {fd : FuncData} (F : Fun K "plain" "plain" s_plain f fd) : FnOk P w K mg base CX0 6 f fd ["teller"] (spP K 1 fs_plain) := by
  refine ok_P F sc_plain rfl (fun cdv A outer s H E hr =>
    (S_cons (S_expr (E_callC c_check_teller (hr.mono (by decide)) rfl tk_P (EA_cons (E_name (pv 0)) EA_nil)))
      (S_one (S_ret (E_callC c_plain_told (hr.mono (by decide)) rfl tk_P (EA_cons (E_name (pv 0)) EA_nil)))))) (fun ds Φ hn h => ?_)
  obtain ⟨d, rows, rfl, ht, hq⟩ := h
  walk_at "jv"
  exact ⟨d, rows, rfl, ht, d, rows, rfl, ht, hq⟩

end
end J

set_option Elab.async false
set_option linter.all false
set_option maxRecDepth 100000
set_option maxHeartbeats 4000000
namespace J
open PySem PySem.Spec L2 RZ
local macro_rules | `(tactic| walk_at "jv") => `(tactic| simp only [wSq, wIfS, wOrT, wAndT, wNotT, wB, wIsi, wName, wRet, wC, wNilS, wAndV, wOrV, wNotV, wBin, wUn, wIf, wChain, fI0, fI, fIsN, fNotN, fB, fAdd, fEq, fNe, fIx, wCall, wCons, wNil, wTup, wDrop, wSet, wOwn, wFrzA, wFrzB, wAsg, wPar, wxVal, wxOwn, wxNil, bindX, bindP, bindN, wLs, wLst, wLc, wLc2, lcBody, wYes, wipeE, J.wSeq, wRange1, wRange2, wEnum, wZip, wSl, wSlL, wNoO, wSomeO, wAppend, wExtend, wSetIx, wOwnIx, wOwnLen, wFor, wWhile, fLen, fAbs, fMin2, fMax2, fInt, fSum, fMax, fAll, fAny, fTuple, fList, fCat, fRep, startE, List.map, List.cons_append, List.nil_append, List.getElem?_cons_zero, List.getElem?_cons_succ, List.set_cons_zero, List.set_cons_succ, List.length_cons, List.length_nil, List.replicate, Option.some.injEq, Sl.val.injEq, Sl.own.injEq, D.int.injEq, D.bl.injEq, D.tup.injEq, D.lst.injEq, exists_eq_left', exists_eq_left, exists_eq_right, true_and, and_true, if_true, List.cons.injEq, exists_and_left, exists_const, items_tup, items_lst, isT_tup, isT_lst, atI_0, atI_1, atI_2, addD_int, addD_tup, intD_int, intD_bl, dTel, dRows, dI, dSta, dGar, dRat, tyq_tup, tyq_lst, tyq_int, tyq_str, tyq_bl, tyq_non, isi_tt, isi_ss, isi_ii, isi_ib, shp_eq_int, shp_eq_teller, shp_eq_stakes, shp_eq_garbler, eq_str_self, eq_int, Bool.not_true, Bool.not_false, Bool.false_eq_true, if_false, List.length_map, decide_eq_true_eq, Bool.not_eq_true', decide_eq_false_iff_not, Nat.zero_add, Nat.reduceAdd, ite_true, ite_false, Int.reduceAdd, wDctNew, wDctGet, wDctIx, wDctPut, wDctSorted, fRepT, Sl.dct.injEq, wCallT, fsT, lenI_tup, lenI_lst, lenI_scr, fsD, wDrTurn, wDrRest, wDrCells, wDrAny, wDrPop, wDrSetR, wDrSetT, drIs])
abbrev s__law_mixed : Stmt := topS 61
theorem sc__law_mixed : FnScope ["draw", "turn", "found", "prime", "blend", "grain"] ["draw"] (defScope s__law_mixed) := ⟨rfl, rfl, rfl, by decide +kernel, rfl, by decide +kernel, by decide +kernel⟩
abbrev s__law_take : Stmt := topS 62
theorem sc__law_take : FnScope ["draw", "many", "found"] ["draw", "many"] (defScope s__law_take) := ⟨rfl, rfl, rfl, by decide +kernel, rfl, by decide +kernel, by decide +kernel⟩
section
variable {P : Program} {w : World} {K : PySem.W.Frag} {mg : Str → Option Value} {base : Heap}
theorem ok__law_mixed (T : Txt mg)  {f : Addr} {fd : FuncData} (F : Fun K "_law_mixed" "_law_mixed" s__law_mixed f fd) : FnOk P w K mg base CX0 1 f fd ["draw"] (spD K 1 fs__law_mixed) := by
  refine ok_D F sc__law_mixed rfl (fun cdv A outer s H E dr dl dc dt hr =>
    (S_cons (S_par2 (i := 1) (j := 2) (by decide) (ps_par (by rfl) sc__law_mixed.nd rfl rfl (by decide) rfl rfl (EX_val (E_bin op_addIT opd_add (E_drTurn (i := 0) (pe_dget (hu1 hr) (pv 0) pe_str (fun _ _ => rfl))) E_int) (EX_val E_int EX_nil)) (by rfl)))
      (S_cons (S_drSetT (i := 0) (ps_dput (hu1 hr) (pv 0) pe_str (E_name (pv 1)) rfl))
      (S_cons (S_for PassesOwn.never rfl (EI_new (EL_lst (EA_cons E_int (EA_cons E_int (EA_cons E_int (EA_cons E_int EA_nil)))))) (EG_name (pg_name (i := 3) sc__law_mixed.nd rfl (by first | exact Or.inl rfl | exact Or.inr rfl))) (S_cons (S_set (i := 4) (ps_set (i := 4) sc__law_mixed.nd rfl (by first | exact Or.inl rfl | exact Or.inr rfl) (E_bin op_addIT opd_add (E_bin op_mulW opd_I E_int (E_name (pv 1))) (E_bin op_fdivW opd_I (E_name (pv 3)) E_int))))
      (S_cons (S_for PassesOwn.never rfl (EI_seq (E_drCells (i := 0) (pe_dget (hu1 hr) (pv 0) pe_str (fun _ _ => rfl)))) (EG_name (pg_name (i := 5) sc__law_mixed.nd rfl (by first | exact Or.inl rfl | exact Or.inr rfl))) (S_one (S_set (i := 4) (ps_set (i := 4) sc__law_mixed.nd rfl (by first | exact Or.inl rfl | exact Or.inr rfl) (E_bin op_modN opd_I (E_cb (fun h => pe_callTy call_int1 rfl T.bt.b_int b_int h) opn_int (EA_cons (E_bin op_addIT opd_add (E_bin op_addIT opd_add (E_bin op_mulW opd_I (E_name (pv 4)) E_int) (E_name (pv 5))) (E_name (pv 1))) EA_nil)) (E_name (pv 3)))))))
      (S_one (S_set (i := 2) (ps_set (i := 2) sc__law_mixed.nd rfl (by first | exact Or.inl rfl | exact Or.inr rfl) (E_bin op_addIT opd_add (E_bin op_mulW opd_I (E_name (pv 2)) E_int) (E_name (pv 4)))))))))
      (S_one (S_ret (E_name (pv 2)))))))) (fun dr ds Φ t hn h => ?_)
  obtain ⟨rfl, h0, h1, hq⟩ := h
  walk_at "jv"
  refine ⟨trivial, by rw [sizeL]; decide, ?_⟩
  refine ⟨fun k ρ t1 => t1 = { t with turn := t.turn + 1 } ∧ ∃ v p b g, ρ = [.val (.hdl dr), .val (.int (t.turn + 1)), .val (.int v), p, b, g] ∧ 0 ≤ v ∧ Sm (200 + 40 * k) v, ⟨rfl, _, _, _, _, rfl, by decide, by unfold Sm; decide⟩, ?_, ?_⟩
  · rintro k ρ t1 e ⟨rfl, v, p, b, g, rfl, hv, sv⟩ he
    have hk : k < 4 := (List.getElem?_eq_some_iff.mp he).1
    obtain ⟨pr, rfl, p0, p1⟩ : ∃ pr : Int, e = .int pr ∧ 0 < pr ∧ pr < 2147483648 := by
      rcases k with _ | _ | _ | _ | k
      · simp at he; exact ⟨_, he.symm, by decide, by decide⟩
      · simp at he; exact ⟨_, he.symm, by decide, by decide⟩
      · simp at he; exact ⟨_, he.symm, by decide, by decide⟩
      · simp at he; exact ⟨_, he.symm, by decide, by decide⟩
      · omega
    have st : Sm 101 (t.turn + 1) := by
      unfold Sm
      have : (2 : Int) ^ 100 + 1 < 2 ^ 101 := by decide
      have e1 : ((2 ^ 101 : Nat) : Int) = 2 ^ 101 := by decide
      omega
    have c1 : CMulW 48271 (t.turn + 1) := Sm.cmul (a := 16) (b := 101) (by unfold Sm; decide) st (by decide) (by decide) (by decide)
    have c2 : CDivW pr 37 := Sm.cdiv (b := 10) (by unfold Sm; decide) (by decide) (by decide) (by decide)
    walk_at "jv"
    refine ⟨c1, c2, trivial, ?_⟩
    have b0 : 0 ≤ 48271 * (t.turn + 1) + pr / 37 := by
      have := Int.ediv_nonneg (Int.le_of_lt p0) (show (0 : Int) ≤ 37 by decide)
      omega
    have b1 : Sm 190 (48271 * (t.turn + 1) + pr / 37) := by
      unfold Sm
      have h2 : pr / 37 ≤ pr := Int.ediv_le_self _ (by omega)
      have e0 : 48271 * ((2 : Int) ^ 100 + 1) + 2147483648 < 2 ^ 190 := by decide
      have e1 : ((2 ^ 190 : Nat) : Int) = 2 ^ 190 := by decide
      omega
    refine ⟨fun j ρ t2 => t2 = { t with turn := t.turn + 1 } ∧ ∃ b g, ρ = [.val (.hdl dr), .val (.int (t.turn + 1)), .val (.int v), .val (.int pr), .val (.int b), g] ∧ 0 ≤ b ∧ Sm 190 b, ⟨rfl, _, _, rfl, b0, b1⟩, ?_, ?_⟩
    · rintro j ρ t2 d ⟨rfl, b, g, rfl, hb, sb⟩ hd
      obtain ⟨gr, _, rfl⟩ := map_at hd
      have c3 : CMulW b 69621 := Sm.cmul (a := 190) (b := 17) sb (by unfold Sm; decide) (by decide) (by decide) (by decide)
      walk_at "jv"
      refine ⟨c3, trivial, trivial, by omega, ?_⟩
      refine ⟨_, _, ⟨rfl, rfl⟩, Int.fmod_nonneg_of_pos _ p0, ?_⟩
      have h1 := Int.fmod_nonneg_of_pos (b * 69621 + gr + (t.turn + 1)) p0
      have h2 := Int.fmod_lt_of_pos (b * 69621 + gr + (t.turn + 1)) p0
      unfold Sm
      have e1 : ((2 ^ 190 : Nat) : Int) = 2 ^ 190 := by decide
      have e2 : (2147483648 : Int) < 2 ^ 190 := by decide
      omega
    · rintro ρ t2 ⟨rfl, b, g, rfl, hb, sb⟩
      have c4 : CMulW v 2147483648 := Sm.cmul (a := 400) (b := 32) (sv.mono (by omega)) (by unfold Sm; decide) (by decide) (by decide) (by decide)
      walk_at "jv"
      refine ⟨c4, trivial, _, _, _, _, ⟨rfl, rfl, rfl, rfl⟩, by omega, ?_⟩
      have s1 : (v * 2147483648).natAbs < 2 ^ (200 + 40 * k + 32) := Sm.mul sv (show Sm 32 2147483648 by unfold Sm; decide)
      unfold Sm at sb ⊢
      have e1 : 2 ^ (200 + 40 * (k + 1)) = 2 ^ (200 + 40 * k + 32) * 2 ^ 8 := by rw [← Nat.pow_add, show 200 + 40 * (k + 1) = 200 + 40 * k + 32 + 8 by omega]
      have e2 : 2 ^ 190 ≤ 2 ^ (200 + 40 * k + 32) := Nat.pow_le_pow_right (by decide) (by omega)
      rw [e1]
      omega
  · rintro ρ t1 ⟨rfl, v, p, b, g, rfl, hv, sv⟩
    walk_at "jv"
    exact hq v hv

theorem ok__law_take (T : Txt mg) (c__law_mixed : Cal P w K mg base 1 "_law_mixed" ["draw"] (spD K 1 fs__law_mixed)) {f : Addr} {fd : FuncData} (F : Fun K "_law_take" "_law_take" s__law_take f fd) : FnOk P w K mg base CX0 2 f fd ["draw", "many"] (spD K 2 fs__law_take) := by
  refine ok_D F sc__law_take rfl (fun cdv A outer s H E dr dl dc dt hr =>
    (S_cons (S_if (EB_cmp (op_eqD hr.units) opd_eq (E_drRest (i := 0) (pe_dget (hu1 hr) (pv 0) pe_str (fun _ _ => rfl))) E_int (nomark _)) (S_one (S_drSetR (i := 0) (ps_dput (hu1 hr) (pv 0) pe_str (E_if (EB_drAny (i := 0) (pt_cmpR (op_neD hr.units) (pe_dget (hu1 hr) (pv 0) pe_str (fun _ _ => rfl)) (pe_lst pa_nil) (nomark _))) (E_drPop (i := 0) (pe_bm PySem.F.plainAttrs_list PySem.F.slot_list_pop PySem.F.type_list_pop mt_popAt (pe_dget (hu1 hr) (pv 0) pe_str (fun _ _ => rfl)) (pa_cons pe_int pa_nil))) (E_callC c__law_mixed (hr.mono (by decide)) rfl tk_D (EA_cons (E_name (pv 0)) EA_nil))) rfl))) S_nil)
      (S_cons (S_set (i := 2) (ps_set (i := 2) sc__law_take.nd rfl (by first | exact Or.inl rfl | exact Or.inr rfl) (E_bin op_modN opd_I (E_cb (fun h => pe_callTy call_int1 rfl T.bt.b_int b_int h) opn_int (EA_cons (E_drRest (i := 0) (pe_dget (hu1 hr) (pv 0) pe_str (fun _ _ => rfl))) EA_nil)) (E_name (pv 1)))))
      (S_cons (S_drSetR (i := 0) (ps_dput (hu1 hr) (pv 0) pe_str (E_bin op_fdivW opd_I (E_cb (fun h => pe_callTy call_int1 rfl T.bt.b_int b_int h) opn_int (EA_cons (E_drRest (i := 0) (pe_dget (hu1 hr) (pv 0) pe_str (fun _ _ => rfl))) EA_nil)) (E_name (pv 1))) rfl))
      (S_one (S_ret (E_name (pv 2)))))))) (fun dr ds Φ t hn h => ?_)
  obtain ⟨many, rfl, h0, h1, n, hb, hn9, hq⟩ := h
  have hm : many ≠ 0 := by omega
  have cd : ∀ x, CDivW x many := fun x => Sm.cdiv h1 h0 (by decide) (by decide)
  have fin : ∀ (x : Int) (t' : DS), 0 ≤ x → Dr (n + 1) t' → t'.rest = x / many → Φ (.int (x.fmod many)) t' := fun x t' hx ht _ => hq _ _ (Int.fmod_nonneg_of_pos _ h0) (Int.fmod_lt_of_pos _ h0) ht
  have dv : ∀ x : Int, 0 ≤ x → 0 ≤ x / many := fun x hx => Int.ediv_nonneg hx (by omega)
  walk_at "jv"
  by_cases hr : t.rest = 0
  · rw [if_pos hr]
    cases hl : t.large with
    | cons x r =>
      simp
      have hx : 0 ≤ x := hb.l0 x (by rw [hl]; exact List.mem_cons_self)
      refine ⟨x, r, ⟨rfl, rfl⟩, hm, cd x, fin x _ hx ⟨dv x hx, fun y hy => hb.l0 y (by rw [hl]; exact List.mem_cons_of_mem _ hy), hb.t0, ?_⟩ rfl⟩
      have := hb.tn
      show t.turn ≤ ((n + 1 : Nat) : Int)
      omega
    | nil =>
      simp
      have e2 : (1000000 : Int) < 2 ^ 100 := by decide
      have := hb.tn
      have t0 := hb.t0
      refine ⟨rfl, t0, by omega, fun v hv => ⟨v, rfl, hm, cd v, fin v _ hv ⟨dv v hv, fun y hy => by rw [hl] at hy; simp at hy, ?_, ?_⟩ rfl⟩⟩
      · show 0 ≤ t.turn + 1
        omega
      · show t.turn + 1 ≤ ((n + 1 : Nat) : Int)
        omega
  · rw [if_neg hr]
    refine ⟨hm, cd _, fin _ _ hb.r0 ⟨dv _ hb.r0, hb.l0, hb.t0, ?_⟩ rfl⟩
    have := hb.tn
    show t.turn ≤ ((n + 1 : Nat) : Int)
    omega

end
end J

set_option Elab.async false
set_option linter.all false
set_option maxRecDepth 100000
set_option maxHeartbeats 4000000
namespace J
open PySem PySem.Spec L2 RZ
local macro_rules | `(tactic| walk_at "jv") => `(tactic| simp only [wSq, wIfS, wOrT, wAndT, wNotT, wB, wIsi, wName, wRet, wC, wNilS, wAndV, wOrV, wNotV, wBin, wUn, wIf, wChain, fI0, fI, fIsN, fNotN, fB, fAdd, fEq, fNe, fIx, wCall, wCons, wNil, wTup, wDrop, wSet, wOwn, wFrzA, wFrzB, wAsg, wPar, wxVal, wxOwn, wxNil, bindX, bindP, bindN, wLs, wLst, wLc, wLc2, lcBody, wYes, wipeE, J.wSeq, wRange1, wRange2, wEnum, wZip, wSl, wSlL, wNoO, wSomeO, wAppend, wExtend, wSetIx, wOwnIx, wOwnLen, wFor, wWhile, fLen, fAbs, fMin2, fMax2, fInt, fSum, fMax, fAll, fAny, fTuple, fList, fCat, fRep, startE, List.map, List.cons_append, List.nil_append, List.getElem?_cons_zero, List.getElem?_cons_succ, List.set_cons_zero, List.set_cons_succ, List.length_cons, List.length_nil, List.replicate, Option.some.injEq, Sl.val.injEq, Sl.own.injEq, D.int.injEq, D.bl.injEq, D.tup.injEq, D.lst.injEq, exists_eq_left', exists_eq_left, exists_eq_right, true_and, and_true, if_true, List.cons.injEq, exists_and_left, exists_const, items_tup, items_lst, isT_tup, isT_lst, atI_0, atI_1, atI_2, addD_int, addD_tup, intD_int, intD_bl, dTel, dRows, dI, dSta, dGar, dRat, tyq_tup, tyq_lst, tyq_int, tyq_str, tyq_bl, tyq_non, isi_tt, isi_ss, isi_ii, isi_ib, shp_eq_int, shp_eq_teller, shp_eq_stakes, shp_eq_garbler, eq_str_self, eq_int, Bool.not_true, Bool.not_false, Bool.false_eq_true, if_false, List.length_map, decide_eq_true_eq, Bool.not_eq_true', decide_eq_false_iff_not, Nat.zero_add, Nat.reduceAdd, ite_true, ite_false, Int.reduceAdd, wDctNew, wDctGet, wDctIx, wDctPut, wDctSorted, fRepT, Sl.dct.injEq, wCallT, fsT, lenI_tup, lenI_lst, lenI_scr, fsD, wDrTurn, wDrRest, wDrCells, wDrAny, wDrPop, wDrSetR, wDrSetT, drIs])
abbrev s__law_pick : Stmt := topS 63
theorem sc__law_pick : FnScope ["draw", "some"] ["draw", "some"] (defScope s__law_pick) := ⟨rfl, rfl, rfl, by decide +kernel, rfl, by decide +kernel, by decide +kernel⟩
abbrev s__law_row : Stmt := topS 67
theorem sc__law_row : FnScope ["draw", "size", "many", "found", "some", "k", "at"] ["draw", "size", "many"] (defScope s__law_row) := ⟨rfl, rfl, rfl, by decide +kernel, rfl, by decide +kernel, by decide +kernel⟩
abbrev s__law_teller : Stmt := topS 68
theorem sc__law_teller : FnScope ["draw", "many", "most", "size", "count", "rows", "state"] ["draw", "many", "most"] (defScope s__law_teller) := ⟨rfl, rfl, rfl, by decide +kernel, rfl, by decide +kernel, by decide +kernel⟩
abbrev s__law_garbler : Stmt := topS 69
theorem sc__law_garbler : FnScope ["draw", "heard", "said", "size", "k"] ["draw", "heard", "said"] (defScope s__law_garbler) := ⟨rfl, rfl, rfl, by decide +kernel, rfl, by decide +kernel, by decide +kernel⟩
abbrev s__law_stakes : Stmt := topS 73
theorem sc__law_stakes : FnScope ["draw", "many", "low", "deeds", "k", "state"] ["draw", "many", "low"] (defScope s__law_stakes) := ⟨rfl, rfl, rfl, by decide +kernel, rfl, by decide +kernel, by decide +kernel⟩
section
variable {P : Program} {w : World} {K : PySem.W.Frag} {mg : Str → Option Value} {base : Heap}
theorem ok__law_pick (T : Txt mg) (c__law_take : Cal P w K mg base 2 "_law_take" ["draw", "many"] (spD K 2 fs__law_take)) {f : Addr} {fd : FuncData} (F : Fun K "_law_pick" "_law_pick" s__law_pick f fd) : FnOk P w K mg base CX0 3 f fd ["draw", "some"] (spD K 2 fs__law_pick) := by
  refine ok_D F sc__law_pick rfl (fun cdv A outer s H E dr dl dc dt hr =>
    (S_one (S_ret (E_ix (E_name (pv 1)) (E_callC c__law_take (hr.mono (by decide)) rfl tk_D (EA_cons (E_name (pv 0)) (EA_cons (E_cb (fun h => pe_callB call_len_seq rfl T.bt.b_len b_len h) opn_len (EA_cons (E_name (pv 1)) EA_nil)) EA_nil))))))) (fun dr ds Φ t hn h => ?_)
  obtain ⟨d, xs, rfl, hi, h0, h1, n, hb, hn9, hq⟩ := h
  have hl : d.lenI = some xs := by
    cases d with
    | tup ds => exact hi
    | lst ds => exact hi
    | _ => cases hi
  walk_at "jv"
  refine ⟨xs, hl, _, rfl, by omega, sm_small (by omega) (by omega), n, hb, hn9, fun r t' r0 r1 ht => ?_⟩
  obtain ⟨j, rfl⟩ := Int.eq_ofNat_of_zero_le r0
  have hj : j < xs.length := by omega
  refine ⟨_, rfl, xs, hi, xs[j], atI_nat (List.getElem?_eq_getElem hj), hq _ _ (List.getElem_mem hj) ht⟩

theorem ok__law_row (T : Txt mg) (c__law_pick : Cal P w K mg base 3 "_law_pick" ["draw", "some"] (spD K 2 fs__law_pick)) (c__law_take : Cal P w K mg base 2 "_law_take" ["draw", "many"] (spD K 2 fs__law_take)) {f : Addr} {fd : FuncData} (F : Fun K "_law_row" "_law_row" s__law_row f fd) : FnOk P w K mg base CX0 4 f fd ["draw", "size", "many"] (spD K 3 fs__law_row) := by
  refine ok_D F sc__law_row rfl (fun cdv A outer s H E dr dl dc dt hr =>
    (S_cons (S_par2 (i := 3) (j := 4) (by decide) (ps_par (by rfl) sc__law_row.nd rfl rfl (by decide) rfl rfl (EX_own (EL_bin op_repR opd_rep (E_ls (EL_lst (EA_cons E_int EA_nil))) (E_name (pv 2))) (EX_val (E_ls (EL_lc (own := [("k", 5)]) rfl sc__law_row.nd (blkOk_by (by first | decide +kernel | rfl)) (by decide) (EI_range1 (fun h => pi_range1 rfl T.bt.b_range h) (EA_cons (E_bin op_addIT opd_add E_int (E_callC c__law_take (hr.mono (by decide)) rfl tk_D (EA_cons (E_name (pv 0)) (EA_cons E_int EA_nil)))) EA_nil)) (fun _ _ _ _ _ => (EG_name (pg_name (i := 5) sc__law_row.nd rfl (by first | exact Or.inl rfl | exact Or.inr rfl)))) (fun _ _ _ _ _ => ETs_nil) (fun _ _ _ _ _ => (E_callC c__law_take (hr.mono (by decide)) rfl tk_D (EA_cons (E_name (pv 0)) (EA_cons (E_name (pv 2)) EA_nil)))))) EX_nil)) (by rfl)))
      (S_cons (S_for PassesOwn.never rfl (EI_range1 (fun h => pi_range1 rfl T.bt.b_range h) (EA_cons (E_name (pv 1)) EA_nil)) (EG_name (pg_name (i := 5) sc__law_row.nd rfl (by first | exact Or.inl rfl | exact Or.inr rfl))) (S_cons (S_set (i := 6) (ps_set (i := 6) sc__law_row.nd rfl (by first | exact Or.inl rfl | exact Or.inr rfl) (E_callC c__law_pick (hr.mono (by decide)) rfl tk_D (EA_cons (E_name (pv 0)) (EA_cons (E_name (pv 4)) EA_nil)))))
      (S_one (S_setIx (i := 3) (ps_asg (E_bin op_addIT opd_add (E_ownIx (pe_ix ix_list (pv 3) (E_name (pv 6)) (fun _ _ => rfl))) E_int) (pg_sub (pv 3) (E_name (pv 6)) set_list))))))
      (S_one (S_frzB (i := 3) (S_ret (E_cb (fun h => pe_callTy call_tuple_of rfl T.bt.b_tuple b_tuple h) opn_tuple (EA_cons (E_name (pv 3)) EA_nil)))))))) (fun dr ds Φ t hn h => ?_)
  obtain ⟨size, many, rfl, hs, m1, m2, n, hb, hn, hq⟩ := h
  walk_at "jv"
  refine ⟨by rw [sizeL]; decide, by omega, by omega, by rw [sizeL]; omega, ?_⟩
  refine ⟨4, rfl, by decide, sm_small (by decide) (by decide), n, hb, by omega, fun r t' r0 r1 ht => ?_⟩
  walk_at "jv"
  refine ⟨trivial, by omega, by omega, by rw [rangeD_len, sizeL]; omega, ?_⟩
  refine lcRun_inv (fun k acc t => Dr (n + 1 + k) t ∧ ∃ ns : List Int, acc = ns.map .int ∧ ns.length = k ∧ ∀ x ∈ ns, 0 ≤ x ∧ x < many) _ ⟨ht, [], rfl, rfl, by simp⟩ ?_ ?_
  · rintro k d acc K t1 hd ⟨hb1, ns, rfl, hl, hx⟩ hK
    have hk : k < 4 := by
      have := (List.getElem?_eq_some_iff.mp hd).1
      rw [rangeD_len] at this
      omega
    walk_at "jv"
    refine ⟨many, rfl, by omega, sm_small (by omega) (by omega), _, hb1, by omega, fun r2 t2 r20 r21 ht2 => ?_⟩
    refine hK [.int r2] t2 ⟨ht2, ns ++ [r2], by simp, by simp [hl], fun x hx' => ?_⟩
    rcases List.mem_append.mp hx' with h | h
    · exact hx x h
    · simp at h; subst h; exact ⟨r20, r21⟩
  · rintro acc t1 ⟨hb1, ns, rfl, hl, hx⟩
    rw [rangeD_len] at hl hb1
    have hns : 0 < ns.length := by omega
    have hns4 : ns.length ≤ 4 := by omega
    have hb1 : Dr (n + 5) t1 := hb1.mono (by omega)
    refine ⟨by omega, by omega, ?_⟩
    rw [Int.toNat_natCast, Int.toNat_natCast]
    refine ⟨fun k ρ t => Dr (n + 5 + k) t ∧ ∃ (f : List Int) (u v : Sl), ρ = [.val (.hdl dr), .val (.int size), .val (.int many), .own (f.map .int), .val (.lst (ns.map .int)), u, v] ∧ f.length = many ∧ (∀ x ∈ f, 0 ≤ x) ∧ f.sum = k, ⟨hb1, List.replicate many 0, _, _, by rw [rep_ints], by simp, by simp, by rw [sum_rep0]; rfl⟩, ?_, ?_⟩
    · rintro k ρ t2 e ⟨hb2, f, u, v, rfl, fl, f0, fsum⟩ he
      obtain ⟨hk, rfl⟩ := range_at he
      walk_at "jv"
      refine ⟨_, _, rfl, rfl, by rw [List.length_map]; exact hns, by rw [List.length_map]; omega, _, hb2, by omega, fun x t3 hxm ht3 => ?_⟩
      obtain ⟨at', ham, rfl⟩ := List.mem_map.mp hxm
      obtain ⟨a0, a1⟩ := hx at' ham
      obtain ⟨j, rfl⟩ := Int.eq_ofNat_of_zero_le a0
      have hj : j < f.length := by omega
      walk_at "jv"
      refine ⟨.int f[j], by rw [atI_map, atI_nat (List.getElem?_eq_getElem hj)]; rfl, _, rfl, trivial, j, ixN_nat hj, ht3.mono (by omega), f.set j (f[j] + 1), _, _, ⟨by rw [List.map_set], rfl, rfl⟩, by rw [List.length_set]; exact fl, fun x hx' => ?_, ?_⟩
      · rcases List.mem_or_eq_of_mem_set hx' with h | h
        · exact f0 x h
        · have := f0 _ (List.getElem_mem hj)
          omega
      · rw [set_sum f j f[j] _ (List.getElem?_eq_getElem hj), fsum]
        omega
    · rintro ρ t2 ⟨hb2, f, u, v, rfl, fl, f0, fsum⟩
      rw [rangeD_len] at hb2 fsum
      walk_at "jv"
      exact hq f t2 fl f0 fsum (hb2.mono (by omega))

theorem ok__law_teller (T : Txt mg) (c__law_row : Cal P w K mg base 4 "_law_row" ["draw", "size", "many"] (spD K 3 fs__law_row)) (c__law_take : Cal P w K mg base 2 "_law_take" ["draw", "many"] (spD K 2 fs__law_take)) {f : Addr} {fd : FuncData} (F : Fun K "_law_teller" "_law_teller" s__law_teller f fd) : FnOk P w K mg base CX0 5 f fd ["draw", "many", "most"] (spD K 3 fs__law_teller) := by
  refine ok_D F sc__law_teller rfl (fun cdv A outer s H E dr dl dc dt hr =>
    (S_cons (S_asg (ps_asg (E_tup (EA_cons (E_bin op_addIT opd_add E_int (E_callC c__law_take (hr.mono (by decide)) rfl tk_D (EA_cons (E_name (pv 0)) (EA_cons E_int EA_nil)))) (EA_cons (E_bin op_addIT opd_add E_int (E_callC c__law_take (hr.mono (by decide)) rfl tk_D (EA_cons (E_name (pv 0)) (EA_cons (E_name (pv 2)) EA_nil)))) EA_nil))) (EG_tup (is := [3, 4]) rfl (pg_tup rfl (pgs_cons (pg_name (i := 3) sc__law_teller.nd rfl (by first | exact Or.inl rfl | exact Or.inr rfl)) (pgs_cons (pg_name (i := 4) sc__law_teller.nd rfl (by first | exact Or.inl rfl | exact Or.inr rfl)) pgs_nil))))))
      (S_cons (S_frzA (i := 5) (S_own (i := 5) (PS_setLc (i := 5) (own := [("state", 6)]) rfl sc__law_teller.nd (blkOk_by (by first | decide +kernel | rfl)) (by decide) (EI_range1 (fun h => pi_range1 rfl T.bt.b_range h) (EA_cons (E_name (pv 1)) EA_nil)) (fun _ _ _ _ _ => (EG_name (pg_name (i := 6) sc__law_teller.nd rfl (by first | exact Or.inl rfl | exact Or.inr rfl)))) (fun _ _ _ _ _ => ETs_nil) (fun _ _ _ _ _ => (E_callC c__law_row (hr.mono (by decide)) rfl tk_D (EA_cons (E_name (pv 0)) (EA_cons (E_name (pv 3)) (EA_cons (E_name (pv 4)) EA_nil))))))))
      (S_cons (S_if (EB_cmp (op_eqD hr.units) opd_eq (E_callC c__law_take (hr.mono (by decide)) rfl tk_D (EA_cons (E_name (pv 0)) (EA_cons E_int EA_nil))) E_int (nomark _)) (S_one (S_set (i := 5) (ps_set (i := 5) sc__law_teller.nd rfl (by first | exact Or.inl rfl | exact Or.inr rfl) (E_ls (EL_bin op_repR opd_rep (E_ls (EL_lst (EA_cons (E_ix (E_name (pv 5)) E_int) EA_nil))) (E_name (pv 1))))))) S_nil)
      (S_one (S_ret (E_tup (EA_cons E_str (EA_cons (E_name (pv 3)) (EA_cons (E_cb (fun h => pe_callTy call_tuple_of rfl T.bt.b_tuple b_tuple h) opn_tuple (EA_cons (E_name (pv 5)) EA_nil)) EA_nil)))))))))) (fun dr ds Φ t hn h => ?_)
  obtain ⟨many, most, rfl, m1, m2, o1, o2, n, hb, hn, hq⟩ := h
  walk_at "jv"
  refine ⟨12, rfl, by decide, sm_small (by decide) (by decide), n, hb, by omega, fun r t1 r0 r1 ht1 => ?_⟩
  obtain ⟨size, hsz⟩ := Int.eq_ofNat_of_zero_le (show 0 ≤ 1 + r by omega)
  walk_at "jv"
  rw [hsz]
  refine ⟨trivial, most, rfl, by omega, sm_small (by omega) (by omega), _, ht1, by omega, fun r2 t2 r20 r21 ht2 => ?_⟩
  obtain ⟨count, hct⟩ := Int.eq_ofNat_of_zero_le (show 0 ≤ 1 + r2 by omega)
  walk_at "jv"
  rw [hct]
  refine ⟨trivial, by rw [sizeL]; decide, by omega, by omega, by rw [rangeD_len, sizeL]; omega, ?_⟩
  rw [Int.toNat_natCast]
  refine lcRun_inv (fun k acc t => Dr (n + 2 + 17 * k) t ∧ ∃ rows : List (List Int), acc = rows.map (fun r => dI r) ∧ rows.length = k ∧ ∀ r ∈ rows, r.length = count ∧ (∀ x ∈ r, 0 ≤ x) ∧ r.sum = size) _ ⟨ht2, [], rfl, rfl, by simp⟩ ?_ ?_
  · rintro k d acc K t3 hd ⟨hb1, rows, rfl, hl, hx⟩ hK
    obtain ⟨hk, rfl⟩ := range_at hd
    walk_at "jv"
    refine ⟨size, count, rfl, by omega, by omega, by omega, _, hb1, by omega, fun r3 t4 h1 h2 h3 ht4 => ?_⟩
    refine hK [dI r3] t4 ⟨ht4.mono (by omega), rows ++ [r3], by simp, by simp [hl], fun r hr => ?_⟩
    rcases List.mem_append.mp hr with h | h
    · exact hx r h
    · simp at h; subst h; exact ⟨h1, h2, h3⟩
  · rintro acc t3 ⟨hb1, rows, rfl, hl, hx⟩
    rw [rangeD_len] at hl hb1
    have fin : ∀ (rows : List (List Int)) t', rows.length = many → (∀ r ∈ rows, r.length = count ∧ (∀ x ∈ r, 0 ≤ x) ∧ r.sum = size) → Dr (n + 105) t' → Φ (dTel size rows) t' := fun rows t' hl hx ht' => by
      obtain ⟨r9, rs, hr, hw⟩ := head_wid (rows := rows) (by omega)
      have hw' : wid rows = count := by rw [hw]; exact (hx r9 (by rw [hr]; exact List.mem_cons_self)).1
      have hsz : (1 : Int) ≤ size := by omega
      refine hq size rows t' (by omega) ⟨hsz, ?_, ⟨by omega, by omega, by omega, by omega, fun r h => by rw [hw']; exact (hx r h).1, fun r h => (hx r h).2.1, fun r h => (hx r h).2.2⟩⟩ hl (by omega) ht'
      have : (12 : Int) ≤ 10 ^ 30 := by decide
      omega
    refine ⟨6, rfl, by decide, sm_small (by decide) (by decide), _, hb1, by omega, fun r4 t4 r40 r41 ht4 => ?_⟩
    walk_at "jv"
    by_cases h6 : r4 = 0
    · rw [if_pos h6]
      obtain ⟨r9, rs, hr, hw⟩ := head_wid (rows := rows) (by omega)
      refine ⟨dI r9, by rw [hr, List.map_cons]; exact atI_0 _ _, by rw [sizeL]; decide, by omega, by omega, by rw [sizeL]; omega, by rw [sizeL]; decide, ?_⟩
      have := fin (List.replicate many r9) t4 (by rw [List.length_replicate]) (fun r h => by rw [List.eq_of_mem_replicate h]; exact hx r9 (by rw [hr]; exact List.mem_cons_self)) (ht4.mono (by omega))
      rw [rep_flat]
      rw [dTel, dRows, List.map_replicate] at this
      exact this
    · rw [if_neg h6]
      exact ⟨by rw [sizeL]; decide, fin rows t4 hl hx (ht4.mono (by omega))⟩

theorem ok__law_garbler (T : Txt mg) (c__law_take : Cal P w K mg base 2 "_law_take" ["draw", "many"] (spD K 2 fs__law_take)) (c__law_row : Cal P w K mg base 4 "_law_row" ["draw", "size", "many"] (spD K 3 fs__law_row)) {f : Addr} {fd : FuncData} (F : Fun K "_law_garbler" "_law_garbler" s__law_garbler f fd) : FnOk P w K mg base CX0 5 f fd ["draw", "heard", "said"] (spD K 3 fs__law_garbler) := by
  refine ok_D F sc__law_garbler rfl (fun cdv A outer s H E dr dl dc dt hr =>
    (S_cons (S_set (i := 3) (ps_set (i := 3) sc__law_garbler.nd rfl (by first | exact Or.inl rfl | exact Or.inr rfl) (E_bin op_addIT opd_add E_int (E_callC c__law_take (hr.mono (by decide)) rfl tk_D (EA_cons (E_name (pv 0)) (EA_cons E_int EA_nil))))))
      (S_one (S_ret (E_tup (EA_cons E_str (EA_cons (E_name (pv 3)) (EA_cons (E_cb (fun h => pe_callTy call_tuple_of rfl T.bt.b_tuple b_tuple h) opn_tuple (EA_cons (E_ls (EL_lc (own := [("k", 4)]) rfl sc__law_garbler.nd (blkOk_by (by first | decide +kernel | rfl)) (by decide) (EI_range1 (fun h => pi_range1 rfl T.bt.b_range h) (EA_cons (E_name (pv 1)) EA_nil)) (fun _ _ _ _ _ => (EG_name (pg_name (i := 4) sc__law_garbler.nd rfl (by first | exact Or.inl rfl | exact Or.inr rfl)))) (fun _ _ _ _ _ => ETs_nil) (fun _ _ _ _ _ => (E_callC c__law_row (hr.mono (by decide)) rfl tk_D (EA_cons (E_name (pv 0)) (EA_cons (E_name (pv 3)) (EA_cons (E_name (pv 2)) EA_nil))))))) EA_nil)) EA_nil)))))))) (fun dr ds Φ t hn h => ?_)
  obtain ⟨heard, said, rfl, m1, m2, o1, o2, n, hb, hn, hq⟩ := h
  walk_at "jv"
  refine ⟨6, rfl, by decide, sm_small (by decide) (by decide), n, hb, by omega, fun r t1 r0 r1 ht1 => ?_⟩
  obtain ⟨size, hsz⟩ := Int.eq_ofNat_of_zero_le (show 0 ≤ 1 + r by omega)
  walk_at "jv"
  rw [hsz]
  refine ⟨trivial, by omega, by omega, by rw [rangeD_len, sizeL]; omega, ?_⟩
  rw [Int.toNat_natCast]
  refine lcRun_inv (fun k acc t => Dr (n + 1 + 17 * k) t ∧ ∃ rows : List (List Int), acc = rows.map (fun r => dI r) ∧ rows.length = k ∧ ∀ r ∈ rows, r.length = said ∧ (∀ x ∈ r, 0 ≤ x) ∧ r.sum = size) _ ⟨ht1, [], rfl, rfl, by simp⟩ ?_ ?_
  · rintro k d acc K t3 hd ⟨hb1, rows, rfl, hl, hx⟩ hK
    obtain ⟨hk, rfl⟩ := range_at hd
    walk_at "jv"
    refine ⟨size, said, rfl, by omega, by omega, by omega, _, hb1, by omega, fun r3 t4 h1 h2 h3 ht4 => ?_⟩
    refine hK [dI r3] t4 ⟨ht4.mono (by omega), rows ++ [r3], by simp, by simp [hl], fun r hr => ?_⟩
    rcases List.mem_append.mp hr with h | h
    · exact hx r h
    · simp at h; subst h; exact ⟨h1, h2, h3⟩
  · rintro acc t3 ⟨hb1, rows, rfl, hl, hx⟩
    rw [rangeD_len] at hl hb1
    obtain ⟨r9, rs, hr, hw⟩ := head_wid (rows := rows) (by omega)
    have hw' : wid rows = said := by rw [hw]; exact (hx r9 (by rw [hr]; exact List.mem_cons_self)).1
    have hsz : (1 : Int) ≤ size := by omega
    exact ⟨by rw [sizeL]; decide, hq size rows t3 (by omega) ⟨hsz, ⟨by omega, by omega, by omega, by omega, fun r h => by rw [hw']; exact (hx r h).1, fun r h => (hx r h).2.1, fun r h => (hx r h).2.2⟩⟩ hl (hb1.mono (by omega))⟩

theorem ok__law_stakes (T : Txt mg) (c__law_take : Cal P w K mg base 2 "_law_take" ["draw", "many"] (spD K 2 fs__law_take)) {f : Addr} {fd : FuncData} (F : Fun K "_law_stakes" "_law_stakes" s__law_stakes f fd) : FnOk P w K mg base CX0 3 f fd ["draw", "many", "low"] (spD K 3 fs__law_stakes) := by
  refine ok_D F sc__law_stakes rfl (fun cdv A outer s H E dr dl dc dt hr =>
    (S_cons (S_own (i := 3) (ps_set (i := 3) sc__law_stakes.nd rfl (by first | exact Or.inl rfl | exact Or.inr rfl) (EL_lst EA_nil)))
      (S_cons (S_for PassesOwn.never rfl (EI_range1 (fun h => pi_range1 rfl T.bt.b_range h) (EA_cons (E_bin op_addIT opd_add E_int (E_callC c__law_take (hr.mono (by decide)) rfl tk_D (EA_cons (E_name (pv 0)) (EA_cons E_int EA_nil)))) EA_nil)) (EG_name (pg_name (i := 4) sc__law_stakes.nd rfl (by first | exact Or.inl rfl | exact Or.inr rfl))) (S_one (S_append (i := 3) (ps_expr (pe_bm PySem.F.plainAttrs_list PySem.F.slot_list_append PySem.F.type_list_append mt_append (pv 3) (pa_cons (E_cb (fun h => pe_callTy call_tuple_of rfl T.bt.b_tuple b_tuple h) opn_tuple (EA_cons (E_ls (EL_lc (own := [("state", 5)]) rfl sc__law_stakes.nd (blkOk_by (by first | decide +kernel | rfl)) (by decide) (EI_range1 (fun h => pi_range1 rfl T.bt.b_range h) (EA_cons (E_name (pv 1)) EA_nil)) (fun _ _ _ _ _ => (EG_name (pg_name (i := 5) sc__law_stakes.nd rfl (by first | exact Or.inl rfl | exact Or.inr rfl)))) (fun _ _ _ _ _ => ETs_nil) (fun _ _ _ _ _ => (E_bin op_addIT opd_add (E_name (pv 2)) (E_callC c__law_take (hr.mono (by decide)) rfl tk_D (EA_cons (E_name (pv 0)) (EA_cons E_int EA_nil))))))) EA_nil)) pa_nil))))))
      (S_one (S_frzB (i := 3) (S_ret (E_tup (EA_cons E_str (EA_cons (E_cb (fun h => pe_callTy call_tuple_of rfl T.bt.b_tuple b_tuple h) opn_tuple (EA_cons (E_name (pv 3)) EA_nil)) EA_nil))))))))) (fun dr ds Φ t hn h => ?_)
  obtain ⟨many, low, rfl, m1, m2, n, hb, hn, hq⟩ := h
  walk_at "jv"
  refine ⟨by rw [sizeL]; decide, 4, rfl, by decide, sm_small (by decide) (by decide), n, hb, by omega, fun r t1 r0 r1 ht1 => ?_⟩
  walk_at "jv"
  refine ⟨trivial, by omega, by omega, ?_⟩
  refine ⟨fun k ρ t => Dr (n + 1 + 6 * k) t ∧ ∃ (g : List (List Int)) (u v : Sl), ρ = [.val (.hdl dr), .val (.int many), .val (.int low), .own (g.map fun r => dI r), u, v] ∧ g.length = k ∧ (∀ r ∈ g, r.length = many ∧ ∀ x ∈ r, low ≤ x ∧ x ≤ low + 11), ⟨ht1, [], _, _, rfl, rfl, by simp⟩, ?_, ?_⟩
  · rintro k ρ t2 e ⟨hb2, g, u, v, rfl, hl, hg⟩ he
    obtain ⟨hk, rfl⟩ := range_at he
    walk_at "jv"
    refine ⟨by omega, by omega, by rw [rangeD_len, sizeL]; omega, ?_⟩
    rw [Int.toNat_natCast]
    refine lcRun_inv (fun j acc t => Dr (n + 1 + 6 * k + j) t ∧ ∃ ns : List Int, acc = ns.map .int ∧ ns.length = j ∧ ∀ x ∈ ns, low ≤ x ∧ x ≤ low + 11) _ ⟨hb2, [], rfl, rfl, by simp⟩ ?_ ?_
    · rintro j d acc K t3 hd ⟨hb3, ns, rfl, nl, hx⟩ hK
      obtain ⟨hj, rfl⟩ := range_at hd
      walk_at "jv"
      refine ⟨12, rfl, by decide, sm_small (by decide) (by decide), _, hb3, by omega, fun r2 t4 r20 r21 ht4 => ?_⟩
      refine ⟨_, rfl, trivial, hK [.int (low + r2)] t4 ⟨ht4, ns ++ [low + r2], by simp, by simp [nl], fun x hx' => ?_⟩⟩
      rcases List.mem_append.mp hx' with h | h
      · exact hx x h
      · simp at h; subst h; omega
    · rintro acc t3 ⟨hb3, ns, rfl, nl, hx⟩
      rw [rangeD_len] at nl hb3
      refine ⟨by rw [sizeL]; omega, hb3.mono (by omega), g ++ [ns], _, _, ⟨by rw [List.map_append]; rfl, rfl, rfl⟩, by rw [List.length_append, hl]; rfl, fun r hr => ?_⟩
      rcases List.mem_append.mp hr with h | h
      · exact hg r h
      · simp at h; subst h; exact ⟨nl, hx⟩
  · rintro ρ t2 ⟨hb2, g, u, v, rfl, hl, hg⟩
    rw [rangeD_len] at hl hb2
    walk_at "jv"
    exact ⟨by rw [sizeL]; decide, hq g t2 (by omega) ⟨by omega, fun r h => (hg r h).1, fun r h => (hg r h).2⟩ (hb2.mono (by omega))⟩

end
end J

set_option Elab.async false
set_option linter.all false
set_option maxRecDepth 100000
set_option maxHeartbeats 4000000
namespace J
open PySem PySem.Spec L2 RZ
local macro_rules | `(tactic| walk_at "jv") => `(tactic| simp only [wSq, wIfS, wOrT, wAndT, wNotT, wB, wIsi, wName, wRet, wC, wNilS, wAndV, wOrV, wNotV, wBin, wUn, wIf, wChain, fI0, fI, fIsN, fNotN, fB, fAdd, fEq, fNe, fIx, wCall, wCons, wNil, wTup, wDrop, wSet, wOwn, wFrzA, wFrzB, wAsg, wPar, wxVal, wxOwn, wxNil, bindX, bindP, bindN, wLs, wLst, wLc, wLc2, lcBody, wYes, wipeE, J.wSeq, wRange1, wRange2, wEnum, wZip, wSl, wSlL, wNoO, wSomeO, wAppend, wExtend, wSetIx, wOwnIx, wOwnLen, wFor, wWhile, fLen, fAbs, fMin2, fMax2, fInt, fSum, fMax, fAll, fAny, fTuple, fList, fCat, fRep, startE, List.map, List.cons_append, List.nil_append, List.getElem?_cons_zero, List.getElem?_cons_succ, List.set_cons_zero, List.set_cons_succ, List.length_cons, List.length_nil, List.replicate, Option.some.injEq, Sl.val.injEq, Sl.own.injEq, D.int.injEq, D.bl.injEq, D.tup.injEq, D.lst.injEq, exists_eq_left', exists_eq_left, exists_eq_right, true_and, and_true, if_true, List.cons.injEq, exists_and_left, exists_const, items_tup, items_lst, isT_tup, isT_lst, atI_0, atI_1, atI_2, addD_int, addD_tup, intD_int, intD_bl, dTel, dRows, dI, dSta, dGar, dRat, tyq_tup, tyq_lst, tyq_int, tyq_str, tyq_bl, tyq_non, isi_tt, isi_ss, isi_ii, isi_ib, shp_eq_int, shp_eq_teller, shp_eq_stakes, shp_eq_garbler, eq_str_self, eq_int, Bool.not_true, Bool.not_false, Bool.false_eq_true, if_false, List.length_map, decide_eq_true_eq, Bool.not_eq_true', decide_eq_false_iff_not, Nat.zero_add, Nat.reduceAdd, ite_true, ite_false, Int.reduceAdd, wDctNew, wDctGet, wDctIx, wDctPut, wDctSorted, fRepT, Sl.dct.injEq, wCallT, fsT, lenI_tup, lenI_lst, lenI_scr, fsD, wDrTurn, wDrRest, wDrCells, wDrAny, wDrPop, wDrSetR, wDrSetT, drIs])
abbrev s__law_begun : Stmt := topS 60
theorem sc__law_begun : FnScope ["script", "large", "grain"] ["script"] (defScope s__law_begun) := ⟨rfl, rfl, rfl, by decide +kernel, rfl, by decide +kernel, by decide +kernel⟩
abbrev s_law : Stmt := topS 75
theorem sc_law : FnScope ["script", "draw", "turn", "many", "teller", "some", "more", "both", "chosen", "sums", "deed", "stakes", "due", "k", "column", "told", "later", "state", "by", "moved", "twice", "far", "one", "other", "a"] ["script"] (defScope s_law) := ⟨rfl, rfl, rfl, by decide +kernel, rfl, by decide +kernel, by decide +kernel⟩
section
variable {P : Program} {w : World} {K : PySem.W.Frag} {mg : Str → Option Value} {base : Heap}
theorem ok__law_begun (T : Txt mg) {f : Addr} {fd : FuncData} (F : Fun K "_law_begun" "_law_begun" s__law_begun f fd) : FnOk P w K mg base CX0 1 f fd ["script"] (spB K) := by
  refine F.ok sc__law_begun (fun vs H Q E h => by obtain ⟨a, ns, rfl, _⟩ := h; rfl) (fun cdv A outer s H vs Q E0 hr h => ?_)
  obtain ⟨a, ns, rfl, hl, h63, q⟩ := h
  refine ⟨_, pss_cons (S_own (R := Rg.pure K H) (i := 1) (PS_setLc (i := 1) (own := [("grain", 2)]) rfl sc__law_begun.nd (blkOk_by (by first | decide +kernel | rfl)) (by decide) (EI_scr (E_name (pv 0))) (fun _ _ _ _ _ => (EG_name (pg_name (i := 2) sc__law_begun.nd rfl (by first | exact Or.inl rfl | exact Or.inr rfl)))) (fun _ _ _ _ _ => (pts_one (EB_cmp op_ge opd_B0 (E_cb (fun h => pe_callB call_abs rfl T.bt.b_abs b_abs h) opn_abs (EA_cons (E_name (pv 2)) EA_nil)) (E_bin op_pow opd_I E_int E_int) (nomark _)))) (fun _ _ _ _ _ => (E_bin op_sub opd_I0 (E_cb (fun h => pe_callB call_abs rfl T.bt.b_abs b_abs h) opn_abs (EA_cons (E_name (pv 2)) EA_nil)) (E_bin op_pow opd_I E_int E_int)))))
    (pss_one (ps_ret (pe_disp (pps_cons pe_str (pv 1) (pps_cons pe_str (E_ls (R := Rg.pure K H) (EL_lc (own := [("grain", 2)]) rfl sc__law_begun.nd (blkOk_by (by first | decide +kernel | rfl)) (by decide) (EI_scr (E_name (pv 0))) (fun _ _ _ _ _ => (EG_name (pg_name (i := 2) sc__law_begun.nd rfl (by first | exact Or.inl rfl | exact Or.inr rfl)))) (fun _ _ _ _ _ => ETs_nil) (fun _ _ _ _ _ => (E_bin op_modN opd_I (E_cb (fun h => pe_callTy call_int1 rfl T.bt.b_int b_int h) opn_int (EA_cons (E_cb (fun h => pe_callB call_abs rfl T.bt.b_abs b_abs h) opn_abs (EA_cons (E_name (pv 2)) EA_nil)) EA_nil)) E_int)))) (pps_cons pe_str pe_int (pps_cons pe_str pe_int pps_nil)))) (by rfl) (by rfl) (by simp) (by decide)))), ?_⟩
  have hst : EnvOk (Rg.pure K H) () H (L2.start ["script", "large", "grain"] [.ref a]) (startE ["script", "large", "grain"] [.scr ns]) := start_ok (R := Rg.pure K H) trivial rfl rfl (.cons (.scr hl) .nil)
  refine ⟨_, (), { nx := fun ρ _ => ∃ ls : List Int, ρ = [.val (.scr ns), .own (ls.map .int), .no] ∧ ∀ x ∈ ls, 0 ≤ x, rt := fun _ _ => False }, hst, ?_, ?_⟩
  · walk_at "jv"
    simp only [wScr]
    walk_at "jv"
    refine ⟨ns, rfl, by rw [sizeL]; omega, ?_⟩
    refine lcRun_fmOf _ (fun x => if 10 ^ 18 ≤ (if x < 0 then -x else x) then [D.int ((if x < 0 then -x else x) - 10 ^ 18)] else []) _ (fun x hx K1 t hK => ?_) ?_
    · walk_at "jv"
      have e18 : (10 : Int) ^ Int.toNat 18 = 10 ^ 18 := rfl
      rw [e18]
      refine ⟨⟨by decide, by decide, by decide⟩, ?_⟩
      by_cases hh : (10 : Int) ^ 18 ≤ (if x < 0 then -x else x)
      · rw [if_pos hh] at hK ⊢
        exact ⟨⟨by decide, by decide, by decide⟩, hK⟩
      · rw [if_neg hh] at hK ⊢
        exact hK
    · rw [fm_ints (fun x => 10 ^ 18 ≤ (if x < 0 then -x else x)) (fun x => (if x < 0 then -x else x) - 10 ^ 18)]
      refine ⟨_, rfl, fun x hx => ?_⟩
      obtain ⟨y, _, hy⟩ := List.mem_flatMap.mp hx
      split at hy <;> simp at hy <;> omega
  · refine ⟨fun σ' H1 ρ' t' x ok ⟨ls, e, h0⟩ => ?_, fun v H' d t' _ _ _ z => z.elim, fun _ _ _ _ _ _ z => z.elim, fun _ _ _ _ _ _ z => z.elim⟩
    subst e
    intro p n
    obtain ⟨lp, lvs, hs1, hl1, hD1, hn0, _⟩ := ok.own 1 _ rfl
    have g1 : (Rg.pure K H).Go t' H1 t' (upd H1 p (.dK [])) := .new ok.gd n
    refine ⟨.ref lp, hs1, _, t', fun d _ => ∃ cs : List Int, d = .lst (cs.map .int), ok.go g1, ?_, fun H3 t3 v d g3 hd hq => ?_⟩
    · walk_at "jv"
      simp only [wScr]
      walk_at "jv"
      refine ⟨ns, rfl, by rw [sizeL]; omega, ?_⟩
      refine lcRun_mapOf _ (fun x => D.int ((if x < 0 then -x else x).fmod 2147483629)) _ (fun x hx K1 t hK => ?_) ?_
      · walk_at "jv"
        exact ⟨by decide, hK⟩
      · exact ⟨ns.map fun x => (if x < 0 then -x else x).fmod 2147483629, by rw [List.map_map]; rfl⟩
    · obtain ⟨cs, rfl⟩ := hq
      cases hd with
      | @lst c vs _ hc hds =>
        have hp3 : H3 p = some (.dK []) := g3.st.st p _ upd_same fun z => z
        refine ⟨hp3, [(.inr "large", .ref lp), (.inr "cells", .ref c), (.inr "rest", .int 0), (.inr "turn", .int 0)], rfl, by simp, ?_⟩
        have em : mergeK [] [((.inr "large" : Key), V.ref lp), (.inr "cells", .ref c), (.inr "rest", .int 0), (.inr "turn", .int 0)] = drKV ⟨ls, cs, 0, 0⟩ lp c := by
          simp only [mergeK, List.foldl_cons, List.foldl_nil, putK, drKV, List.any_cons, List.any_nil, List.nil_append, List.cons_append, k_ne1, k_ne2, k_ne3, k_ne4, k_ne5, k_ne6, decide_false, Bool.or_false, Bool.false_eq_true, if_false]
        rw [em]
        have ne : lp ≠ p := fun z => by rw [z, n] at hl1; cases hl1
        have hl3 : H3 lp = some (.lst lvs) := g3.st.st lp _ (by rw [upd_ne ne]; exact hl1) fun z => z
        obtain ⟨oc, hc⟩ := hc
        have ncp : c ≠ p := fun z => by rw [z, hp3] at hc; cases hc
        refine q _ p lp c ⟨ls, cs, 0, 0⟩ (fun b o hb => ?_) ⟨upd_same, ?_, oc, ?_⟩ ⟨Int.le_refl 0, h0, Int.le_refl 0, Int.le_refl 0⟩
        · have hb1 := ok.st.st b o hb fun z => z
          have nb : b ≠ p := fun z => by rw [z, n] at hb1; cases hb1
          rw [upd_ne nb]
          exact g3.st.st b o (by rw [upd_ne nb]; exact hb1) fun z => z
        · rw [upd_ne ne, hl3, hD1.ints]
        · rw [upd_ne ncp, hc, hds.ints]
theorem ok_law (T : Txt mg) (c_garbled : Cal P w K mg base 5 "garbled" ["teller", "garbler"] (spP K 2 fs_garbled)) (c__law_less : Cal P w K mg base 1 "_law_less" ["first", "second"] (spP K 2 fs__law_less)) (c__law_take : Cal P w K mg base 2 "_law_take" ["draw", "many"] (spD K 2 fs__law_take)) (c__law_teller : Cal P w K mg base 5 "_law_teller" ["draw", "many", "most"] (spD K 3 fs__law_teller)) (c__law_stakes : Cal P w K mg base 3 "_law_stakes" ["draw", "many", "low"] (spD K 3 fs__law_stakes)) (c_stakes_sum : Cal P w K mg base 4 "stakes_sum" ["stakes", "second"] (spP K 2 fs_stakes_sum)) (c_stakes_either : Cal P w K mg base 4 "stakes_either" ["stakes", "second"] (spP K 2 fs_stakes_either)) (c__law_worth : Cal P w K mg base 3 "_law_worth" ["teller", "stakes"] (spP K 2 fs__law_worth)) (c_worth : Cal P w K mg base 5 "worth" ["teller", "stakes"] (spP K 2 fs_worth)) (c__law_sum : Cal P w K mg base 3 "_law_sum" ["first", "second"] (spP K 2 fs__law_sum)) (c__law_garbler : Cal P w K mg base 5 "_law_garbler" ["draw", "heard", "said"] (spD K 3 fs__law_garbler)) (c_are_stakes : Cal P w K mg base 1 "are_stakes" ["thing"] (spP K 1 fs_are_stakes)) (c__law_columns : Cal P w K mg base 1 "_law_columns" ["teller"] (spP K 1 fs__law_columns)) (c__law_sums : Cal P w K mg base 1 "_law_sums" ["column", "stakes"] (spP K 2 fs__law_sums)) (c_unheard : Cal P w K mg base 3 "unheard" ["stakes"] (spP K 1 fs_unheard)) (c_best_deeds : Cal P w K mg base 5 "best_deeds" ["teller", "stakes", "word"] (spP K 3 fs_best_deeds)) (c_plain : Cal P w K mg base 6 "plain" ["teller"] (spP K 1 fs_plain)) (c__law_begun : Cal P w K mg base 1 "_law_begun" ["script"] (spB K)) {f : Addr} {fd : FuncData} (F : Fun K "law" "law" s_law f fd) : FnOk P w K mg base CX0 7 f fd ["script"] (spL K) := by
  obtain ⟨fb, fdb, Fb, hmb, hkb, hbb⟩ := c__law_begun.ex
  refine F.ok sc_law (fun vs H Q E h => by obtain ⟨a, ns, rfl, _⟩ := h; rfl) (fun cdv A outer s H vs Q E0 hr h => ?_)
  obtain ⟨a, ns, rfl, hl, h63, q⟩ := h
  refine ⟨_, pss_cons (ps_set (i := 1) sc_law.nd rfl (by first | exact Or.inl rfl | exact Or.inr rfl) (pe_call Fb (hr.mono (by decide)) rfl hmb hkb hbb .nil pass0 (pa_cons (pv 0) pa_nil))) (pss_any (K := K) fun H0 dr dl dc dt =>
    (S_cons (S_for PassesOwn.never rfl (EI_range1 (fun h => pi_range1 rfl T.bt.b_range h) (EA_cons (E_bin op_addIT opd_add E_int (E_cb (fun h => pe_callB (call_min2 rfl) rfl T.bt.b_min b_min h) opn_min2 (EA_cons (E_cb (fun h => pe_callB call_len_seq rfl T.bt.b_len b_len h) opn_len (EA_cons (E_name (pv 0)) EA_nil)) (EA_cons E_int EA_nil)))) EA_nil)) (EG_name (pg_name (i := 2) sc_law.nd rfl (by first | exact Or.inl rfl | exact Or.inr rfl))) (S_cons (S_set (i := 3) (ps_set (i := 3) sc_law.nd rfl (by first | exact Or.inl rfl | exact Or.inr rfl) (E_bin op_addIT opd_add E_int (E_callC c__law_take (hr.mono (by decide)) rfl tk_D (EA_cons (E_name (pv 1)) (EA_cons E_int EA_nil))))))
      (S_cons (S_par3 (i := 4) (j := 5) (l := 6) (by decide) (by decide) (by decide) (ps_par3 (by rfl) sc_law.nd rfl rfl rfl (by decide) (by decide) (by decide) rfl rfl rfl (EX_val (E_callC c__law_teller (hr.mono (by decide)) rfl tk_D (EA_cons (E_name (pv 1)) (EA_cons (E_name (pv 3)) (EA_cons E_int EA_nil)))) (EX_val (E_callC c__law_stakes (hr.mono (by decide)) rfl tk_D (EA_cons (E_name (pv 1)) (EA_cons (E_name (pv 3)) (EA_cons (E_un un_neg opd_neg E_int) EA_nil)))) (EX_val (E_callC c__law_stakes (hr.mono (by decide)) rfl tk_D (EA_cons (E_name (pv 1)) (EA_cons (E_name (pv 3)) (EA_cons (E_un un_neg opd_neg E_int) EA_nil)))) EX_nil))) (by rfl)))
      (S_cons (S_par2 (i := 5) (j := 6) (by decide) (ps_par (by rfl) sc_law.nd rfl rfl (by decide) rfl rfl (EX_val (E_tup (EA_cons E_str (EA_cons (E_slT (E_ix (E_name (pv 5)) E_int) EO_none (EO_some E_int)) EA_nil))) (EX_val (E_tup (EA_cons E_str (EA_cons (E_slT (E_ix (E_name (pv 6)) E_int) EO_none (EO_some E_int)) EA_nil))) EX_nil)) (by rfl)))
      (S_cons (S_par2 (i := 7) (j := 8) (by decide) (ps_par (by rfl) sc_law.nd rfl rfl (by decide) rfl rfl (EX_val (E_callC c_stakes_sum (hr.mono (by decide)) rfl tk_P (EA_cons (E_name (pv 5)) (EA_cons (E_name (pv 6)) EA_nil))) (EX_val (E_callC c_stakes_either (hr.mono (by decide)) rfl tk_P (EA_cons (E_name (pv 5)) (EA_cons (E_name (pv 6)) EA_nil))) EX_nil)) (by rfl)))
      (S_cons (S_set (i := 9) (ps_set (i := 9) sc_law.nd rfl (by first | exact Or.inl rfl | exact Or.inr rfl) (E_ls (EL_lst EA_nil))))
      (S_cons (S_for PassesOwn.never rfl (EI_seq (E_ix (E_name (pv 5)) E_int)) (EG_name (pg_name (i := 10) sc_law.nd rfl (by first | exact Or.inl rfl | exact Or.inr rfl))) (S_one (S_set (i := 9) (ps_set (i := 9) sc_law.nd rfl (by first | exact Or.inl rfl | exact Or.inr rfl) (E_ls (EL_bin op_catR opd_cat (E_name (pv 9)) (E_ls (EL_lc (own := [("far", 21)]) rfl sc_law.nd (blkOk_by (by first | decide +kernel | rfl)) (by decide) (EI_seq (E_ix (E_name (pv 6)) E_int)) (fun _ _ _ _ _ => (EG_name (pg_name (i := 21) sc_law.nd rfl (by first | exact Or.inl rfl | exact Or.inr rfl)))) (fun _ _ _ _ _ => ETs_nil) (fun _ _ _ _ _ => (E_cb (fun h => pe_callTy call_tuple_of rfl T.bt.b_tuple b_tuple h) opn_tuple (EA_cons (E_ls (EL_lc (own := [("one", 22), ("other", 23)]) rfl sc_law.nd (blkOk_by (by first | decide +kernel | rfl)) (by decide) (EI_zip (fun h => pi_zipA rfl T.bt.b_zip h) (EA_cons (E_name (pv 10)) (EA_cons (E_name (pv 21)) EA_nil))) (fun _ _ _ _ _ => (EG_tup (is := [22, 23]) rfl (pg_tup rfl (pgs_cons (pg_name (i := 22) sc_law.nd rfl (by first | exact Or.inl rfl | exact Or.inr rfl)) (pgs_cons (pg_name (i := 23) sc_law.nd rfl (by first | exact Or.inl rfl | exact Or.inr rfl)) pgs_nil))))) (fun _ _ _ _ _ => ETs_nil) (fun _ _ _ _ _ => (E_bin op_addIT opd_add (E_name (pv 22)) (E_name (pv 23)))))) EA_nil)))))))))))
      (S_cons (S_if (PW.pt (EB_or (EB_cmp op_notBl opd_notB (E_callC c_are_stakes (hr.mono (by decide)) rfl tk_P (EA_cons (E_name (pv 5)) EA_nil)) E_bl (nomark _)) (EB_or (EB_cmp (op_neD hr.units) opd_ne (E_name (pv 7)) (E_tup (EA_cons E_str (EA_cons (E_cb (fun h => pe_callTy call_tuple_of rfl T.bt.b_tuple b_tuple h) opn_tuple (EA_cons (E_name (pv 9)) EA_nil)) EA_nil))) (nomark _)) (EB_or1 (EB_cmp (op_neD hr.units) opd_ne (E_name (pv 8)) (E_tup (EA_cons E_str (EA_cons (E_bin op_addIT opd_add (E_ix (E_name (pv 5)) E_int) (E_ix (E_name (pv 6)) E_int)) EA_nil))) (nomark _)))))) (S_one (S_ret E_bl)) S_nil)
      (S_cons (S_for PassesOwn.never rfl (EI_new (EL_lst (EA_cons (E_name (pv 5)) (EA_cons (E_name (pv 6)) (EA_cons (E_name (pv 7)) (EA_cons (E_name (pv 8)) EA_nil)))))) (EG_name (pg_name (i := 11) sc_law.nd rfl (by first | exact Or.inl rfl | exact Or.inr rfl))) (S_cons (S_set (i := 12) (ps_set (i := 12) sc_law.nd rfl (by first | exact Or.inl rfl | exact Or.inr rfl) (E_callC c__law_worth (hr.mono (by decide)) rfl tk_P (EA_cons (E_name (pv 4)) (EA_cons (E_name (pv 11)) EA_nil)))))
      (S_cons (S_if (PW.pt (EB_or (EB_cmp (op_neD hr.units) opd_ne (E_callC c_worth (hr.mono (by decide)) rfl tk_P (EA_cons (E_name (pv 4)) (EA_cons (E_name (pv 11)) EA_nil))) (E_name (pv 12)) (nomark _)) (EB_or (EB_cmp (op_neD hr.units) opd_ne (E_callC c_unheard (hr.mono (by decide)) rfl tk_P (EA_cons (E_name (pv 11)) EA_nil)) (E_cb (fun h => pe_callB (cr_maxS rfl) rfl T.bt.b_max b_max h) opn_max (EA_cons (E_ls (EL_lc (own := [("deed", 10)]) rfl sc_law.nd (blkOk_by (by first | decide +kernel | rfl)) (by decide) (EI_seq (E_ix (E_name (pv 11)) E_int)) (fun _ _ _ _ _ => (EG_name (pg_name (i := 10) sc_law.nd rfl (by first | exact Or.inl rfl | exact Or.inr rfl)))) (fun _ _ _ _ _ => ETs_nil) (fun _ _ _ _ _ => (E_cb (fun h => pe_callB (cr_sumS rfl) rfl T.bt.b_sum b_sum h) opn_sum (EA_cons (E_name (pv 10)) EA_nil))))) EA_nil)) (nomark _)) (EB_or1 (EB_val (E_callC c__law_less (hr.mono (by decide)) rfl tk_P (EA_cons (E_name (pv 12)) (EA_cons (E_tup (EA_cons (E_callC c_unheard (hr.mono (by decide)) rfl tk_P (EA_cons (E_name (pv 11)) EA_nil)) (EA_cons E_int EA_nil))) EA_nil)))))))) (S_one (S_ret E_bl)) S_nil)
      (S_cons (S_for PassesOwn.never rfl (EI_enum (fun h => pi_enum rfl T.bt.b_enumerate h) (EA_cons (E_callC c__law_columns (hr.mono (by decide)) rfl tk_P (EA_cons (E_name (pv 4)) EA_nil)) EA_nil)) (EG_tup (is := [13, 14]) rfl (pg_tup rfl (pgs_cons (pg_name (i := 13) sc_law.nd rfl (by first | exact Or.inl rfl | exact Or.inr rfl)) (pgs_cons (pg_name (i := 14) sc_law.nd rfl (by first | exact Or.inl rfl | exact Or.inr rfl)) pgs_nil)))) (S_cons (S_set (i := 15) (ps_set (i := 15) sc_law.nd rfl (by first | exact Or.inl rfl | exact Or.inr rfl) (E_callC c__law_sums (hr.mono (by decide)) rfl tk_P (EA_cons (E_name (pv 14)) (EA_cons (E_name (pv 11)) EA_nil)))))
      (S_one (S_if (EB_cmp (op_neD hr.units) opd_ne (E_callC c_best_deeds (hr.mono (by decide)) rfl tk_P (EA_cons (E_name (pv 4)) (EA_cons (E_name (pv 11)) (EA_cons (E_name (pv 13)) EA_nil)))) (E_cb (fun h => pe_callTy call_tuple_of rfl T.bt.b_tuple b_tuple h) opn_tuple (EA_cons (E_ls (EL_lc (own := [("a", 24)]) rfl sc_law.nd (blkOk_by (by first | decide +kernel | rfl)) (by decide) (EI_range1 (fun h => pi_range1 rfl T.bt.b_range h) (EA_cons (E_cb (fun h => pe_callB call_len_seq rfl T.bt.b_len b_len h) opn_len (EA_cons (E_name (pv 15)) EA_nil)) EA_nil)) (fun _ _ _ _ _ => (EG_name (pg_name (i := 24) sc_law.nd rfl (by first | exact Or.inl rfl | exact Or.inr rfl)))) (fun _ _ _ _ _ => (pts_one (EB_cmp (op_eqD hr.units) opd_eq (E_ix (E_name (pv 15)) (E_name (pv 24))) (E_cb (fun h => pe_callB (cr_maxS rfl) rfl T.bt.b_max b_max h) opn_max (EA_cons (E_name (pv 15)) EA_nil)) (nomark _)))) (fun _ _ _ _ _ => (E_name (pv 24))))) EA_nil)) (nomark _)) (S_one (S_ret E_bl)) S_nil))))
      (S_one (S_if (EB_cmp (op_neD hr.units) opd_ne (E_callC c_worth (hr.mono (by decide)) rfl tk_P (EA_cons (E_callC c_plain (hr.mono (by decide)) rfl tk_P (EA_cons (E_name (pv 4)) EA_nil)) (EA_cons (E_name (pv 11)) EA_nil))) (E_name (pv 12)) (nomark _)) (S_one (S_ret E_bl)) S_nil))))))
      (S_cons (S_if (EB_cmp (op_neD hr.units) opd_ne (E_callC c_worth (hr.mono (by decide)) rfl tk_P (EA_cons (E_name (pv 4)) (EA_cons (E_name (pv 7)) EA_nil))) (E_callC c__law_sum (hr.mono (by decide)) rfl tk_P (EA_cons (E_callC c_worth (hr.mono (by decide)) rfl tk_P (EA_cons (E_name (pv 4)) (EA_cons (E_name (pv 5)) EA_nil))) (EA_cons (E_callC c_worth (hr.mono (by decide)) rfl tk_P (EA_cons (E_name (pv 4)) (EA_cons (E_name (pv 6)) EA_nil))) EA_nil))) (nomark _)) (S_one (S_ret E_bl)) S_nil)
      (S_cons (S_if (PW.pt (EB_or (EB_val (E_callC c__law_less (hr.mono (by decide)) rfl tk_P (EA_cons (E_callC c_worth (hr.mono (by decide)) rfl tk_P (EA_cons (E_name (pv 4)) (EA_cons (E_name (pv 8)) EA_nil))) (EA_cons (E_callC c_worth (hr.mono (by decide)) rfl tk_P (EA_cons (E_name (pv 4)) (EA_cons (E_name (pv 5)) EA_nil))) EA_nil)))) (EB_or1 (EB_val (E_callC c__law_less (hr.mono (by decide)) rfl tk_P (EA_cons (E_callC c_worth (hr.mono (by decide)) rfl tk_P (EA_cons (E_name (pv 4)) (EA_cons (E_name (pv 8)) EA_nil))) (EA_cons (E_callC c_worth (hr.mono (by decide)) rfl tk_P (EA_cons (E_name (pv 4)) (EA_cons (E_name (pv 6)) EA_nil))) EA_nil))))))) (S_one (S_ret E_bl)) S_nil)
      (S_cons (S_set (i := 16) (ps_set (i := 16) sc_law.nd rfl (by first | exact Or.inl rfl | exact Or.inr rfl) (E_callC c_garbled (hr.mono (by decide)) rfl tk_P (EA_cons (E_name (pv 4)) (EA_cons (E_callC c__law_garbler (hr.mono (by decide)) rfl tk_D (EA_cons (E_name (pv 1)) (EA_cons (E_cb (fun h => pe_callB call_len_seq rfl T.bt.b_len b_len h) opn_len (EA_cons (E_ix (E_ix (E_name (pv 4)) E_int) E_int) EA_nil)) (EA_cons (E_bin op_addIT opd_add E_int (E_callC c__law_take (hr.mono (by decide)) rfl tk_D (EA_cons (E_name (pv 1)) (EA_cons E_int EA_nil)))) EA_nil)))) EA_nil)))))
      (S_cons (S_if (EB_val (E_callC c__law_less (hr.mono (by decide)) rfl tk_P (EA_cons (E_callC c_worth (hr.mono (by decide)) rfl tk_P (EA_cons (E_name (pv 4)) (EA_cons (E_name (pv 5)) EA_nil))) (EA_cons (E_callC c_worth (hr.mono (by decide)) rfl tk_P (EA_cons (E_name (pv 16)) (EA_cons (E_name (pv 5)) EA_nil))) EA_nil)))) (S_one (S_ret E_bl)) S_nil)
      (S_cons (S_asg (ps_asg (E_tup (EA_cons (E_callC c__law_take (hr.mono (by decide)) rfl tk_D (EA_cons (E_name (pv 1)) (EA_cons (E_name (pv 3)) EA_nil))) (EA_cons (E_bin op_sub opd_I0 (E_callC c__law_take (hr.mono (by decide)) rfl tk_D (EA_cons (E_name (pv 1)) (EA_cons E_int EA_nil))) E_int) EA_nil))) (EG_tup (is := [17, 18]) rfl (pg_tup rfl (pgs_cons (pg_name (i := 17) sc_law.nd rfl (by first | exact Or.inl rfl | exact Or.inr rfl)) (pgs_cons (pg_name (i := 18) sc_law.nd rfl (by first | exact Or.inl rfl | exact Or.inr rfl)) pgs_nil))))))
      (S_cons (S_set (i := 19) (ps_set (i := 19) sc_law.nd rfl (by first | exact Or.inl rfl | exact Or.inr rfl) (E_tup (EA_cons E_str (EA_cons (E_cb (fun h => pe_callTy call_tuple_of rfl T.bt.b_tuple b_tuple h) opn_tuple (EA_cons (E_ls (EL_lc (own := [("deed", 10)]) rfl sc_law.nd (blkOk_by (by first | decide +kernel | rfl)) (by decide) (EI_seq (E_ix (E_name (pv 5)) E_int)) (fun _ _ _ _ _ => (EG_name (pg_name (i := 10) sc_law.nd rfl (by first | exact Or.inl rfl | exact Or.inr rfl)))) (fun _ _ _ _ _ => ETs_nil) (fun _ _ _ _ _ => (E_bin op_addIT opd_add (E_bin op_addIT opd_add (E_slT (E_name (pv 10)) EO_none (EO_some (E_name (pv 17)))) (E_tup (EA_cons (E_bin op_addIT opd_add (E_ix (E_name (pv 10)) (E_name (pv 17))) (E_name (pv 18))) EA_nil))) (E_slT (E_name (pv 10)) (EO_some (E_bin op_addIT opd_add (E_name (pv 17)) E_int)) EO_none))))) EA_nil)) EA_nil)))))
      (S_cons (S_if (EB_cmp (op_neD hr.units) opd_ne (E_callC c_worth (hr.mono (by decide)) rfl tk_P (EA_cons (E_name (pv 4)) (EA_cons (E_name (pv 19)) EA_nil))) (E_callC c__law_sum (hr.mono (by decide)) rfl tk_P (EA_cons (E_callC c_worth (hr.mono (by decide)) rfl tk_P (EA_cons (E_name (pv 4)) (EA_cons (E_name (pv 5)) EA_nil))) (EA_cons (E_tup (EA_cons (E_name (pv 18)) (EA_cons E_int EA_nil))) EA_nil))) (nomark _)) (S_one (S_ret E_bl)) S_nil)
      (S_cons (S_set (i := 20) (ps_set (i := 20) sc_law.nd rfl (by first | exact Or.inl rfl | exact Or.inr rfl) (E_tup (EA_cons E_str (EA_cons (E_bin op_addIT opd_add (E_ix (E_name (pv 5)) E_int) (E_slT (E_ix (E_name (pv 5)) E_int) EO_none (EO_some E_int))) EA_nil)))))
      (S_one (S_if (EB_cmp (op_neD hr.units) opd_ne (E_callC c_worth (hr.mono (by decide)) rfl tk_P (EA_cons (E_name (pv 4)) (EA_cons (E_name (pv 20)) EA_nil))) (E_callC c_worth (hr.mono (by decide)) rfl tk_P (EA_cons (E_name (pv 4)) (EA_cons (E_name (pv 5)) EA_nil))) (nomark _)) (S_one (S_ret E_bl)) S_nil)))))))))))))))))))
      (S_one (S_ret E_bl)))), ?_⟩
  refine begin_ok (N := ["script", "draw", "turn", "many", "teller", "some", "more", "both", "chosen", "sums", "deed", "stakes", "due", "k", "column", "told", "later", "state", "by", "moved", "twice", "far", "one", "other", "a"]) (by decide) hl h63 (fun v H' e => by subst e; exact q H') (fun dr t ht => ?_)
  clear c_garbled c__law_less c__law_take c__law_teller c__law_stakes c_stakes_sum c_stakes_either c__law_worth c_worth c__law_sum c__law_garbler c_are_stakes c__law_columns c__law_sums c_unheard c_best_deeds c_plain c__law_begun F Fb hmb hkb hbb hr q hl T
  have e0 : startE ["script", "draw", "turn", "many", "teller", "some", "more", "both", "chosen", "sums", "deed", "stakes", "due", "k", "column", "told", "later", "state", "by", "moved", "twice", "far", "one", "other", "a"] [.scr ns] = [.val (.scr ns), .no, .no, .no, .no, .no, .no, .no, .no, .no, .no, .no, .no, .no, .no, .no, .no, .no, .no, .no, .no, .no, .no, .no, .no] := rfl
  rw [e0]
  refine sq_abs fun N hN => ?_
  refine for_abs fun WB hWB => ?_
  walk_at "jv"
  refine ⟨_, _, ⟨rfl, rfl⟩, trivial, ?_⟩
  have hm : 3 ≤ (3 + if (5 : Int) < ns.length then 5 else (ns.length : Int)) ∧ (3 + if (5 : Int) < ns.length then 5 else (ns.length : Int)) ≤ 8 := by split <;> omega
  generalize (3 + if (5 : Int) < ns.length then 5 else (ns.length : Int)) = M at hm ⊢
  refine ⟨by omega, by omega, ?_⟩
  subst hWB
  refine forI_mk (fun k ρ t => k ≤ 8 ∧ Dr (1000 * k) t ∧ ∃ s2 s3 s4 s5 s6 s7 s8 s9 s10 s11 s12 s13 s14 s15 s16 s17 s18 s19 s20 s21 s22 s23 s24, ρ = [.val (.scr ns), .val (.hdl dr), s2, s3, s4, s5, s6, s7, s8, s9, s10, s11, s12, s13, s14, s15, s16, s17, s18, s19, s20, s21, s22, s23, s24]) ⟨by decide, ht, _, _, _, _, _, _, _, _, _, _, _, _, _, _, _, _, _, _, _, _, _, _, _, rfl⟩ ?_ ?_
  · rintro k ρ t1 d ⟨hk8, hb, s2, s3, s4, s5, s6, s7, s8, s9, s10, s11, s12, s13, s14, s15, s16, s17, s18, s19, s20, s21, s22, s23, s24, rfl⟩ hd
    obtain ⟨hk, rfl⟩ := range_at hd
    refine ⟨_, rfl, fun N1 hN1 => ?_⟩
    refine sq_abs fun N2 hN2 => ?_
    walk_at "jv"
    refine ⟨5, rfl, by decide, sm_small (by decide) (by decide), _, hb, by omega, fun r t2 r0 r1 hb2 => ?_⟩
    obtain ⟨many, hmany⟩ := Int.eq_ofNat_of_zero_le (show 0 ≤ 1 + r by omega)
    have m1 : 1 ≤ many := by omega
    have m2 : many ≤ 5 := by omega
    walk_at "jv"
    rw [hmany]
    refine ⟨trivial, hN2 _ _ ?_⟩
    refine sq_abs fun N3 hN3 => ?_
    walk_at "jv"
    refine ⟨many, 5, rfl, m1, by omega, by decide, by decide, _, hb2, by omega, fun size rows t3 hsz ht hrl hwid hb3 => ?_⟩
    walk_at "jv"
    refine ⟨many, -6, rfl, m1, by omega, _, hb3, by omega, fun g t4 gl gok hb4 => ?_⟩
    walk_at "jv"
    refine ⟨many, -6, rfl, m1, by omega, _, hb4, by omega, fun h t5 hl' hok hb5 => ?_⟩
    refine hN3 _ _ ?_
    refine sq_abs fun N4 hN4 => ?_
    walk_at "jv"
    have e3 : cutD (g.map fun r => D.tup (r.map D.int)) none (some 3) = (g.take 3).map fun r => D.tup (r.map D.int) := by
      rw [show (3 : Int) = ((3 : Nat) : Int) from rfl, cut_take, ← List.map_take]
    have e4 : cutD (h.map fun r => D.tup (r.map D.int)) none (some 4) = (h.take 4).map fun r => D.tup (r.map D.int) := by
      rw [show (4 : Int) = ((4 : Nat) : Int) from rfl, cut_take, ← List.map_take]
    rw [e3, e4]
    refine ⟨by rw [sizeL]; decide, by rw [sizeL]; decide, hN4 _ _ ?_⟩
    clear e3 e4
    have sg : Sg many 6 (g.take 3) := Sg.take ⟨gok.l1, gok.len, fun r hr x hx => by have := gok.bd r hr x hx; omega⟩ (by decide)
    have sh : Sg many 6 (h.take 4) := Sg.take ⟨hok.l1, hok.len, fun r hr x hx => by have := hok.bd r hr x hx; omega⟩ (by decide)
    have lg : (g.take 3).length ≤ 3 := by rw [List.length_take]; omega
    have lh : (h.take 4).length ≤ 4 := by rw [List.length_take]; omega
    clear gok hok gl hl'
    generalize g.take 3 = G at *
    generalize h.take 4 = Hh at *
    have lgh : G.length * Hh.length ≤ 12 := Nat.mul_le_mul lg lh
    have ig : IsSta G := sg.sta (by omega) m1 (by omega) (by decide)
    have ih : IsSta Hh := sh.sta (by omega) m1 (by omega) (by decide)
    have ss : Sg many 12 (sumG G Hh) := sg.sum sh
    have is : IsSta (sumG G Hh) := ss.sta (by rw [sumG_len]; exact lgh) m1 (by omega) (by decide)
    have se : Sg many 6 (G ++ Hh) := sg.app fun r hr => ⟨sh.len r hr, sh.bd r hr⟩
    have ie : IsSta (G ++ Hh) := se.sta (by rw [List.length_append]; omega) m1 (by omega) (by decide)
    refine sq_abs fun N5 hN5 => ?_
    walk_at "jv"
    refine ⟨G, Hh, rfl, ig, ih, by rw [sg.wid, sh.wid], lgh, G, Hh, rfl, ig, ih, by rw [sg.wid, sh.wid], by omega, ?_⟩
    refine hN5 _ _ ?_
    refine sq_abs fun N6 hN6 => ?_
    walk_at "jv"
    refine ⟨by rw [sizeL]; decide, hN6 _ _ ?_⟩
    refine sq_abs fun N7 hN7 => ?_
    refine for_abs fun WB hWB => ?_
    walk_at "jv"
    subst hWB
    refine forI_mk (fun j ρ t => t = t5 ∧ ∃ u, ρ = [.val (.scr ns), .val (.hdl dr), .val (.int k), .val (.int many), .val (dTel size rows), .val (dSta G), .val (dSta Hh), .val (dSta (sumG G Hh)), .val (dSta (G ++ Hh)), .val (.lst ((sumG (G.take j) Hh).map fun r => dI r)), u, s11, s12, s13, s14, s15, s16, s17, s18, s19, s20, s21, s22, s23, s24]) ⟨rfl, _, rfl⟩ ?_ ?_
    · rintro j ρ t1 d ⟨rfl, u, rfl⟩ hd
      obtain ⟨deed, hdeed, rfl⟩ := map_at hd
      have hj : j < G.length := (List.getElem?_eq_some_iff.mp hdeed).1
      have hdm := List.mem_of_getElem? hdeed
      refine ⟨_, rfl, fun N8 hN8 => ?_⟩
      walk_at "jv"
      refine ⟨by rw [sizeL]; omega, ?_⟩
      refine lcRun_mapOf _ (fun b => dI ((deed.zip b).map fun p => p.1 + p.2)) _ (fun b hb' K t hK => ?_) ?_
      · walk_at "jv"
        refine ⟨_, _, ⟨rfl, rfl⟩, _, rfl, _, rfl, rfl, ?_⟩
        rw [zipD_int]
        refine ⟨by rw [List.length_map, List.length_zip, sizeL, sg.len deed hdm]; omega, ?_⟩
        refine lcRun_mapOf _ (fun p => D.int (p.1 + p.2)) _ (fun p hp K t hK => ?_) ?_
        · walk_at "jv"
          exact ⟨trivial, hK⟩
        · rw [dI, List.map_map] at hK
          exact hK
      · have hs : sumG (G.take (j + 1)) Hh = sumG (G.take j) Hh ++ Hh.map fun b => (deed.zip b).map fun p => p.1 + p.2 := by
          rw [take_succ_at hdeed, sumG, List.flatMap_append, sumG]
          simp
        have hlen : (sumG (G.take j) Hh).length ≤ 12 := by
          rw [sumG_len]
          refine Nat.le_trans (Nat.mul_le_mul_right _ ?_) lgh
          rw [List.length_take]; omega
        refine ⟨by rw [List.length_map, sizeL]; omega, hN8 _ _ ⟨rfl, .val (dI deed), ?_⟩⟩
        have el : ((sumG (G.take (j + 1)) Hh).map fun r => dI r) = ((sumG (G.take j) Hh).map fun r => dI r) ++ Hh.map fun b => dI ((deed.zip b).map fun p => p.1 + p.2) := by
          rw [hs, List.map_append, List.map_map]
          rfl
        rw [el]
    · rintro ρ t1 ⟨rfl, u, rfl⟩
      refine hN7 _ _ ?_
      rw [List.length_map, List.take_length]
      refine sq_abs fun N8 hN8 => ?_
      walk_at "jv"
      rw [← List.map_append]
      refine ⟨G, rfl, ig, true, rfl, ?_⟩
      rw [if_neg (by simp)]
      refine ⟨by rw [sizeL]; decide, shp_sta _, shp_sta _, ?_⟩
      rw [if_neg (fun z => by have := sta_eq (sumG G Hh); rw [dSta, dRows] at this; rw [this] at z; cases z)]
      refine ⟨?_, by rw [sizeL]; decide, shp_sta _, shp_sta _, ?_⟩
      · show (List.map (fun r => D.tup (List.map D.int r)) (G ++ Hh)).length ≤ sizeLine
        rw [List.length_map, List.length_append, sizeL]; omega
      rw [if_neg (fun z => by have := sta_eq (G ++ Hh); rw [dSta, dRows] at this; rw [this] at z; cases z)]
      refine hN8 _ _ ?_
      have hr1 := ht.d1
      have hpos : (0 : Int) < size := by omega
      have inner : ∀ S : List (List Int), Sg many 12 S → S.length ≤ 12 → IsSta S ∧ wid S = rows.length := fun S h1 h2 => ⟨h1.sta h2 m1 (by omega) (by decide), by rw [h1.wid, hrl]⟩
      refine sq_abs fun N9 hN9 => ?_
      refine for_abs fun WB hWB => ?_
      walk_at "jv"
      subst hWB
      refine ⟨by rw [sizeL]; decide, ?_⟩
      refine forI_mk (fun j ρ t => t = t1 ∧ ∃ u10 u11 u12 u13 u14 u15, ρ = [.val (.scr ns), .val (.hdl dr), .val (.int k), .val (.int many), .val (dTel size rows), .val (dSta G), .val (dSta Hh), .val (dSta (sumG G Hh)), .val (dSta (G ++ Hh)), .val (.lst ((sumG G Hh).map fun r => dI r)), u10, u11, u12, u13, u14, u15, s16, s17, s18, s19, s20, s21, s22, s23, s24]) ⟨rfl, _, _, _, _, _, _, rfl⟩ ?_ ?_
      · rintro j ρ t2 d ⟨rfl, u10, u11, u12, u13, u14, u15, rfl⟩ hd
        obtain ⟨S, rfl, sS, lS⟩ : ∃ S, d = dSta S ∧ Sg many 12 S ∧ S.length ≤ 12 := by
          have := List.mem_of_getElem? hd
          simp only [List.mem_cons, List.not_mem_nil, or_false] at this
          rcases this with h | h | h | h
          · exact ⟨G, h, sg.mono (by decide), by omega⟩
          · exact ⟨Hh, h, sh.mono (by decide), by omega⟩
          · exact ⟨_, h, ss, by rw [sumG_len]; exact lgh⟩
          · exact ⟨_, h, se.mono (by decide), by rw [List.length_append]; omega⟩
        obtain ⟨iS, wS⟩ := inner S sS lS
        have rsm := rat_sm ht sS (by decide) (by decide)
        refine ⟨_, rfl, fun N10 hN10 => ?_⟩
        refine sq_abs fun N11 hN11 => ?_
        walk_at "jv"
        refine ⟨size, rows, S, rfl, ht, iS, wS, hN11 _ _ ?_⟩
        refine sq_abs fun N12 hN12 => ?_
        walk_at "jv"
        refine ⟨size, rows, S, rfl, ht, iS, wS, shp_rat _, shp_rat _, ?_⟩
        rw [if_neg (fun z => by have := rat_eq (ratN (worthN rows S) size); rw [dRat] at this; rw [this] at z; cases z)]
        refine ⟨S, rfl, iS, by rw [sizeL]; omega, ?_⟩
        refine lcRun_mapOf _ (fun a => D.int a.sum) _ (fun a ha K t hK => ?_) ?_
        · walk_at "jv"
          exact ⟨a, .inr rfl, hK⟩
        refine ⟨S.map List.sum, .inl (by simp [Function.comp_def]), by rw [List.length_map]; exact sS.l1, fun m hm1 hm2 => ?_⟩
        have em := maxL_eq hm1 hm2
        subst em
        refine ⟨shp_int _, ?_⟩
        rw [if_neg (by rw [eq_int]; simp)]
        refine ⟨S, rfl, iS, by rw [sizeL]; decide, ?_⟩
        have usm := sums_bd sS (by decide) (by decide) (by omega)
        refine ⟨ratN (worthN rows S) size, (maxL (S.map List.sum), 1), rfl, rsm.1.mono (by decide), rsm.2.1.mono (by decide), usm.mono (by decide), sm_one, _, rfl, ?_⟩
        have hnl := ratN_nlt (a := worthN rows S) (b := size) (a' := maxL (S.map List.sum)) (b' := 1) hpos (by decide) (by
          have := W_hear ht.ok sS.l1 (fun a ha => by rw [sS.len a ha, hrl])
          omega)
        rw [ratN_one] at hnl
        rw [if_neg (by rw [decide_eq_true_eq]; exact hnl)]
        refine hN12 _ _ ?_
        refine sq_abs fun N13 hN13 => ?_
        refine for_abs fun WB hWB => ?_
        walk_at "jv"
        subst hWB
        refine ⟨size, rows, rfl, ht, ?_⟩
        refine ⟨_, rfl, ?_⟩
        refine forI_mk (fun i ρ t => t = t2 ∧ ∃ v13 v14 v15 v10, ρ = [.val (.scr ns), .val (.hdl dr), .val (.int k), .val (.int many), .val (dTel size rows), .val (dSta G), .val (dSta Hh), .val (dSta (sumG G Hh)), .val (dSta (G ++ Hh)), .val (.lst ((sumG G Hh).map fun r => dI r)), v10, .val (dSta S), .val (dRat (ratN (worthN rows S) size)), v13, v14, v15, s16, s17, s18, s19, s20, s21, s22, s23, s24]) ⟨rfl, _, _, _, _, rfl⟩ ?_ ?_
        · rintro i ρ t3 d ⟨rfl, v13, v14, v15, v10, rfl⟩ hd
          have hil : i < (cols rows).length := by
            have := (List.getElem?_eq_some_iff.mp hd).1
            rw [enumD_len, List.length_map] at this
            exact this
          have hed : d = .tup [.int (i : Nat), dI (cols rows)[i]] := by
            unfold enumD at hd
            rw [List.getElem?_map, List.getElem?_range (by rw [List.length_map]; exact hil)] at hd
            have hd := Option.some.inj hd
            rw [← hd]
            simp [List.getD_eq_getElem?_getD, hil]
          subst hed
          have hiw : i < wid rows := by rw [← cols_len]; exact hil
          have hcm : (cols rows)[i] ∈ cols rows := List.getElem_mem hil
          have hg : (cols rows).getD i [] = (cols rows)[i] := by rw [List.getD_eq_getElem?_getD, List.getElem?_eq_getElem hil]; rfl
          refine ⟨_, rfl, fun N14 hN14 => ?_⟩
          refine sq_abs fun N15 hN15 => ?_
          walk_at "jv"
          refine ⟨S, (cols rows)[i], rfl, iS, fun x hx => (cols_sm ht.ok (small_d ht) hcm hx).mono (by decide), hN15 _ _ ?_⟩
          walk_at "jv"
          refine ⟨size, rows, S, i, rfl, ht, iS, wS, by omega, by omega, ?_⟩
          have l12 : (sumsAt S (cols rows)[i]).length ≤ 12 := by rw [sumsAt, List.length_map]; exact lS
          have l1 : 1 ≤ (sumsAt S (cols rows)[i]).length := by rw [sumsAt, List.length_map]; exact sS.l1
          have et : ((i : Nat) : Int).toNat = i := Int.toNat_natCast i
          rw [et, hg]
          dsimp only
          generalize hw : sumsAt S (cols rows)[i] = w at *
          refine ⟨by omega, by omega, by rw [rangeD_len, sizeL]; omega, ?_⟩
          rw [Int.toNat_natCast, rangeD_eq]
          refine lcRun_fmOf _ (fun a => if w.getD a 0 = maxL w then [D.int (a : Nat)] else []) _ (fun a ha K t hK => ?_) ?_
          · have ha := List.mem_range.mp ha
            walk_at "jv"
            refine ⟨.int (w.getD a 0), by rw [atI_map, atI_getD ha]; rfl, w, .inl rfl, by omega, fun m hm1 hm2 => ?_⟩
            have em := maxL_eq hm1 hm2
            subst em
            refine ⟨shp_int _, ?_⟩
            rw [eq_int]
            by_cases hh : w.getD a 0 = maxL w
            · rw [if_pos hh] at hK
              rw [if_pos (decide_eq_true hh)]
              exact hK
            · rw [if_neg hh] at hK
              rw [if_neg (by simpa using hh)]
              exact hK
          · rw [best_fm w]
            refine ⟨shp_dI _, shp_dI _, ?_⟩
            rw [if_neg (fun z => by have := dI_eq (bestL w); rw [dI] at this; rw [this] at z; cases z)]
            exact hN14 _ _ ⟨rfl, _, _, _, _, rfl⟩
        · rintro ρ t3 ⟨rfl, v13, v14, v15, v10, rfl⟩
          refine hN13 _ _ ?_
          walk_at "jv"
          refine ⟨size, rows, rfl, ht, fun ys hy _ => ?_⟩
          obtain ⟨d', rows', ep, ht', hrl', hrat⟩ := plain_ok ht hy
          rw [ep]
          refine ⟨d', rows', S, rfl, ht', iS, by rw [wS, hrl'], ?_⟩
          rw [hrat S]
          refine ⟨shp_rat _, shp_rat _, ?_⟩
          rw [if_neg (fun z => by have := rat_eq (ratN (worthN rows S) size); rw [dRat] at this; rw [this] at z; cases z)]
          exact hN10 _ _ ⟨rfl, _, _, _, _, _, _, rfl⟩
      · rintro ρ t2 ⟨rfl, u10, u11, u12, u13, u14, u15, rfl⟩
        refine hN9 _ _ ?_
        clear hN hN2 hN3 hN4 hN5 hN6 hN7 hN8 hN9
        obtain ⟨igw, wG⟩ := inner G (sg.mono (by decide)) (by omega)
        obtain ⟨_, wH⟩ := inner Hh (sh.mono (by decide)) (by omega)
        obtain ⟨_, wS⟩ := inner _ ss (by rw [sumG_len]; exact lgh)
        obtain ⟨_, wE⟩ := inner _ (se.mono (by decide)) (by rw [List.length_append]; omega)
        have rG := rat_sm ht sg (by decide) (by decide)
        have rH := rat_sm ht sh (by decide) (by decide)
        have rE := rat_sm ht se (by decide) (by decide)
        refine sq_abs fun N10 hN10 => ?_
        walk_at "jv"
        refine ⟨size, rows, _, rfl, ht, is, wS, size, rows, G, rfl, ht, ig, wG, size, rows, Hh, rfl, ht, ih, wH, ?_⟩
        refine ⟨ratN (worthN rows G) size, ratN (worthN rows Hh) size, rfl, rG.1.mono (by decide), rG.2.1.mono (by decide), rH.1.mono (by decide), rH.2.1.mono (by decide), rG.2.2, rH.2.2, ?_⟩
        have eW : ratN ((ratN (worthN rows G) size).1 * (ratN (worthN rows Hh) size).2 + (ratN (worthN rows Hh) size).1 * (ratN (worthN rows G) size).2) ((ratN (worthN rows G) size).2 * (ratN (worthN rows Hh) size).2) = ratN (worthN rows (sumG G Hh)) size := by
          rw [ratN_sum hpos, worthN_eq, worthN_eq, worthN_eq, Wc_sum sg.l1 sh.l1 sg.len sh.len]
        rw [eW]
        refine ⟨shp_rat _, shp_rat _, ?_⟩
        rw [if_neg (fun z => by have := rat_eq (ratN (worthN rows (sumG G Hh)) size); rw [this] at z; cases z)]
        refine hN10 _ _ ?_
        refine sq_abs fun N11 hN11 => ?_
        walk_at "jv"
        have nl1 := ratN_nlt (a := worthN rows (G ++ Hh)) (b := size) (a' := worthN rows G) (b' := size) hpos hpos (Int.mul_le_mul_of_nonneg_right (by rw [worthN_eq, worthN_eq]; exact Wc_either sg.l1) (by omega))
        have nl2 := ratN_nlt (a := worthN rows (G ++ Hh)) (b := size) (a' := worthN rows Hh) (b' := size) hpos hpos (Int.mul_le_mul_of_nonneg_right (by rw [worthN_eq, worthN_eq]; exact Wc_either' sh.l1) (by omega))
        refine ⟨size, rows, _, rfl, ht, ie, wE, size, rows, G, rfl, ht, ig, wG, ?_⟩
        refine ⟨ratN (worthN rows (G ++ Hh)) size, ratN (worthN rows G) size, rfl, rE.1.mono (by decide), rE.2.1.mono (by decide), rG.1.mono (by decide), rG.2.1.mono (by decide), _, rfl, ?_⟩
        rw [if_neg (by rw [decide_eq_true_eq]; exact nl1)]
        refine ⟨size, rows, _, rfl, ht, ie, wE, size, rows, Hh, rfl, ht, ih, wH, ?_⟩
        refine ⟨ratN (worthN rows (G ++ Hh)) size, ratN (worthN rows Hh) size, rfl, rE.1.mono (by decide), rE.2.1.mono (by decide), rH.1.mono (by decide), rH.2.1.mono (by decide), _, rfl, ?_⟩
        rw [if_neg (by rw [decide_eq_true_eq]; exact nl2)]
        refine hN11 _ _ ?_
        refine sq_abs fun N12 hN12 => ?_
        walk_at "jv"
        obtain ⟨r0, hr0, hlr0, hat⟩ := head_at ht.ok.l1
        refine ⟨_, hat, _, rfl, ?_⟩
        rw [List.length_map, hlr0]
        refine ⟨4, rfl, by decide, sm_small (by decide) (by decide), _, hb5, by omega, fun r6 t6 r60 r61 hb6 => ?_⟩
        obtain ⟨said, hsaid⟩ := Int.eq_ofNat_of_zero_le (show 0 ≤ 1 + r6 by omega)
        walk_at "jv"
        rw [hsaid]
        refine ⟨trivial, ?_⟩
        have w1 := ht.ok.w1
        refine ⟨wid rows, said, rfl, w1, by omega, by omega, by omega, _, hb6, by omega, fun gs gm t7 hgs og hgl hb7 => ?_⟩
        have g1 := og.d1
        have dg1 : (1 : Int) ≤ size * gs := Int.mul_pos hpos (by omega)
        have dg2 : (size : Int) * gs ≤ 12 * 6 := Int.mul_le_mul (by omega) (by omega) (by omega) (by decide)
        have rp := rows_prod ht.ok og.ok hgl
        have hle : (size : Int) * gs / gcdL ((size : Int) * gs :: (prodR rows gm).flatten) ≤ 10 ^ 30 := by
          refine Int.le_trans (Int.ediv_le_self _ (by omega)) ?_
          have : (12 * 6 : Int) ≤ 10 ^ 30 := by decide
          omega
        have lt' := tel_low dg1 rp hle
        have lr := low_rat (s := G) dg1 rp
        have lpos := lt'.d1
        have lrl : (lowR (gcdL ((size : Int) * gs :: (prodR rows gm).flatten)) (prodR rows gm)).length = rows.length := by rw [lowR, List.length_map, prodR, List.length_map]
        have lsm := rat_sm lt' sg (by decide) (by decide)
        refine ⟨rfl, size, rows, gs, gm, rfl, ht, og, hgl, (sm_small (by omega) (by omega)).mono (by decide), hle, hN12 _ _ ?_⟩
        have nl3 := ratN_nlt (a := worthN rows G) (b := size) (a' := worthN (prodR rows gm) G) (b' := (size : Int) * gs) hpos (by omega) (by
          have h1 := W_garbled (s := G) ht.ok og.ok hgl sg.l1
          have h2 : worthN (prodR rows gm) G * size ≤ worthN rows G * gs * size := Int.mul_le_mul_of_nonneg_right h1 (by omega)
          have h3 : worthN rows G * gs * size = worthN rows G * (size * gs) := by grind
          omega)
        rw [← lr] at nl3
        refine sq_abs fun N13 hN13 => ?_
        walk_at "jv"
        refine ⟨size, rows, G, rfl, ht, ig, wG, ?_⟩
        refine ⟨_, _, G, rfl, lt', ig, by rw [wG, lrl], ?_⟩
        refine ⟨_, _, rfl, rG.1.mono (by decide), rG.2.1.mono (by decide), lsm.1.mono (by decide), lsm.2.1.mono (by decide), _, rfl, ?_⟩
        rw [if_neg (by rw [decide_eq_true_eq]; exact nl3)]
        refine hN13 _ _ ?_
        generalize size * gs / gcdL (size * gs :: (prodR rows gm).flatten) = later at *
        refine sq_abs fun N14 hN14 => ?_
        walk_at "jv"
        refine ⟨many, rfl, by omega, sm_small (by omega) (by omega), _, hb7, by omega, fun st t8 st0 st1 hb8 => ?_⟩
        obtain ⟨sn, rfl⟩ := Int.eq_ofNat_of_zero_le st0
        walk_at "jv"
        refine ⟨9, rfl, by decide, sm_small (by decide) (by decide), _, hb8, by omega, fun r9 t9 r90 r91 hb9 => ?_⟩
        refine ⟨r9, rfl, by rw [sizeL]; decide, hN14 _ _ ?_⟩
        have hsn : sn < many := by omega
        have hby : -4 ≤ r9 - 4 ∧ r9 - 4 ≤ 4 := by omega
        generalize r9 - 4 = bb at *
        have sm : Sg many 10 (G.map (mvd sn bb)) := sg.mv hsn hby
        obtain ⟨imv, wM⟩ := inner _ (sm.mono (by decide)) (by rw [List.length_map]; omega)
        have rM := rat_sm ht sm (by decide) (by decide)
        refine sq_abs fun N15 hN15 => ?_
        walk_at "jv"
        refine ⟨by rw [sizeL]; omega, ?_⟩
        refine lcRun_mapOf _ (fun a => dI (mvd sn bb a)) _ (fun a ha K t hK => ?_) ?_
        · have hal := sg.len a ha
          walk_at "jv"
          have ec1 : cutD (a.map D.int) none (some (sn : Int)) = (a.take sn).map D.int := by rw [cut_take, ← List.map_take]
          have ec2 : cutD (a.map D.int) (some ((sn : Int) + 1)) none = (a.drop (sn + 1)).map D.int := by
            rw [show (sn : Int) + 1 = ((sn + 1 : Nat) : Int) from rfl, cut_drop, ← List.map_drop]
          rw [ec1, ec2]
          have el : (a.take sn).map D.int ++ [.int (a.getD sn 0 + bb)] ++ (a.drop (sn + 1)).map D.int = (mvd sn bb a).map D.int := by
            rw [mvd, List.map_append, List.map_cons, List.append_assoc]
            rfl
          have hml := mvd_len (k := bb) (show sn < a.length by omega)
          refine ⟨.int (a.getD sn 0), by rw [atI_map, atI_getD (by omega)]; rfl, _, rfl, trivial, by rw [sizeL]; decide, ?_, trivial, ?_, ?_⟩
          · show ((a.take sn).map D.int ++ [D.int (a.getD sn 0 + bb)]).length ≤ sizeLine
            rw [List.length_append, List.length_map, List.length_take, sizeL, List.length_singleton]; omega
          · rw [el]
            show ((mvd sn bb a).map D.int).length ≤ sizeLine
            rw [List.length_map, hml, sizeL]; omega
          · rw [el]; exact hK
        refine ⟨by rw [sizeL]; decide, hN15 _ _ ?_⟩
        have emv : (G.map fun a => dI (mvd sn bb a)) = (G.map (mvd sn bb)).map fun r => dI r := by rw [List.map_map]; rfl
        rw [emv]
        have eWm : worthN rows (G.map (mvd sn bb)) = worthN rows G + bb * size := W_moved ht.ok sg.l1 (fun a ha => by rw [sg.len a ha, hrl]) (by omega)
        generalize G.map (mvd sn bb) = Mv at *
        refine sq_abs fun N16 hN16 => ?_
        walk_at "jv"
        refine ⟨size, rows, Mv, rfl, ht, imv, wM, size, rows, G, rfl, ht, ig, wG, by rw [sizeL]; decide, ?_⟩
        refine ⟨ratN (worthN rows G) size, (bb, 1), rfl, rG.1.mono (by decide), rG.2.1.mono (by decide), ?_, ?_, rG.2.2, by show (0 : Int) < 1; decide, ?_⟩
        · exact (sm_of (B := 4) hby (by decide)).mono (by decide)
        · exact Nat.one_lt_two_pow (by decide)
        have eW2 := ratN_sum1 (a := worthN rows G) (k := bb) hpos
        rw [eW2, ← eWm]
        refine ⟨shp_rat _, shp_rat _, ?_⟩
        rw [if_neg (fun z => by have := rat_eq (ratN (worthN rows Mv) size); rw [this] at z; cases z)]
        refine hN16 _ _ ?_
        refine sq_abs fun N17 hN17 => ?_
        walk_at "jv"
        have e1 : cutD (G.map fun r => D.tup (r.map D.int)) none (some 1) = (G.take 1).map fun r => D.tup (r.map D.int) := by
          rw [show (1 : Int) = ((1 : Nat) : Int) from rfl, cut_take, ← List.map_take]
        rw [e1, ← List.map_append]
        have st2 : Sg many 6 (G ++ G.take 1) := sg.app fun r hr => ⟨sg.len r (List.mem_of_mem_take hr), sg.bd r (List.mem_of_mem_take hr)⟩
        have lt2 : (G ++ G.take 1).length ≤ 4 := by rw [List.length_append, List.length_take]; omega
        obtain ⟨it2, wT⟩ := inner _ (st2.mono (by decide)) (by omega)
        have eT : worthN rows (G ++ G.take 1) = worthN rows G := by rw [worthN_eq, worthN_eq]; exact Wc_twice sg.l1
        refine ⟨?_, by rw [sizeL]; decide, hN17 _ _ ?_⟩
        · show (List.map (fun r => D.tup (List.map D.int r)) (G ++ G.take 1)).length ≤ sizeLine
          rw [List.length_map, sizeL]; omega
        generalize G ++ G.take 1 = Tw at *
        walk_at "jv"
        refine ⟨size, rows, Tw, rfl, ht, it2, wT, size, rows, G, rfl, ht, ig, wG, ?_⟩
        rw [eT]
        refine ⟨shp_rat _, shp_rat _, ?_⟩
        rw [if_neg (fun z => by have := rat_eq (ratN (worthN rows G) size); rw [this] at z; cases z)]
        exact hN1 _ _ ⟨by omega, hb9.mono (by omega), _, _, _, _, _, _, _, _, _, _, _, _, _, _, _, _, _, _, _, _, _, _, _, rfl⟩
  · rintro ρ t1 ⟨hk8, hb, s2, s3, s4, s5, s6, s7, s8, s9, s10, s11, s12, s13, s14, s15, s16, s17, s18, s19, s20, s21, s22, s23, s24, rfl⟩
    refine hN _ _ ?_
    walk_at "jv"

end
end J

set_option Elab.async false
set_option linter.all false
set_option maxRecDepth 100000
set_option maxHeartbeats 4000000
namespace J
open PySem PySem.Spec L2 RZ
theorem lk_of {K : PySem.W.Frag} {H : Hp} {a : Addr} {xs : List V} (hO : Only H) (h : SqL K H a xs) : LK K H a xs := by
  rcases h with h | h
  · rcases h with h | ⟨o, h⟩
    · rcases hO a with n | ⟨o, ys, n⟩
      · rw [h] at n; cases n
      · rw [h] at n; cases n
    · exact .inl ⟨o, h⟩
  · exact .inr h
theorem all_mk {l : PySem.W.OpenLaw} {w : World} {K : PySem.W.Frag} {h : Heap} {mg : Str → Option Value} {fa : Addr} (X : K.In h) (G : h.Ns mainGlobals mg) (hfa : mg "law" = some (.ref fa))
    {f0 : Addr} {od0 an0 : Option Addr} {sl0 : Array (Option Value)} {oc0 kV0 dc0 pm0 cd0 ct0 : Value}
    {f1 : Addr} {od1 an1 : Option Addr} {sl1 : Array (Option Value)} {oc1 kV1 dc1 pm1 cd1 ct1 : Value}
    {f2 : Addr} {od2 an2 : Option Addr} {sl2 : Array (Option Value)} {oc2 kV2 dc2 pm2 cd2 ct2 : Value}
    {f3 : Addr} {od3 an3 : Option Addr} {sl3 : Array (Option Value)} {oc3 kV3 dc3 pm3 cd3 ct3 : Value}
    {f4 : Addr} {od4 an4 : Option Addr} {sl4 : Array (Option Value)} {oc4 kV4 dc4 pm4 cd4 ct4 : Value}
    {f5 : Addr} {od5 an5 : Option Addr} {sl5 : Array (Option Value)} {oc5 kV5 dc5 pm5 cd5 ct5 : Value}
    {f6 : Addr} {od6 an6 : Option Addr} {sl6 : Array (Option Value)} {oc6 kV6 dc6 pm6 cd6 ct6 : Value}
    {f7 : Addr} {od7 an7 : Option Addr} {sl7 : Array (Option Value)} {oc7 kV7 dc7 pm7 cd7 ct7 : Value}
    {f8 : Addr} {od8 an8 : Option Addr} {sl8 : Array (Option Value)} {oc8 kV8 dc8 pm8 cd8 ct8 : Value}
    {f9 : Addr} {od9 an9 : Option Addr} {sl9 : Array (Option Value)} {oc9 kV9 dc9 pm9 cd9 ct9 : Value}
    {f10 : Addr} {od10 an10 : Option Addr} {sl10 : Array (Option Value)} {oc10 kV10 dc10 pm10 cd10 ct10 : Value}
    {f11 : Addr} {od11 an11 : Option Addr} {sl11 : Array (Option Value)} {oc11 kV11 dc11 pm11 cd11 ct11 : Value}
    {f12 : Addr} {od12 an12 : Option Addr} {sl12 : Array (Option Value)} {oc12 kV12 dc12 pm12 cd12 ct12 : Value}
    {f13 : Addr} {od13 an13 : Option Addr} {sl13 : Array (Option Value)} {oc13 kV13 dc13 pm13 cd13 ct13 : Value}
    {f14 : Addr} {od14 an14 : Option Addr} {sl14 : Array (Option Value)} {oc14 kV14 dc14 pm14 cd14 ct14 : Value}
    {f15 : Addr} {od15 an15 : Option Addr} {sl15 : Array (Option Value)} {oc15 kV15 dc15 pm15 cd15 ct15 : Value}
    {f16 : Addr} {od16 an16 : Option Addr} {sl16 : Array (Option Value)} {oc16 kV16 dc16 pm16 cd16 ct16 : Value}
    {f17 : Addr} {od17 an17 : Option Addr} {sl17 : Array (Option Value)} {oc17 kV17 dc17 pm17 cd17 ct17 : Value}
    {f18 : Addr} {od18 an18 : Option Addr} {sl18 : Array (Option Value)} {oc18 kV18 dc18 pm18 cd18 ct18 : Value}
    {f19 : Addr} {od19 an19 : Option Addr} {sl19 : Array (Option Value)} {oc19 kV19 dc19 pm19 cd19 ct19 : Value}
    {f20 : Addr} {od20 an20 : Option Addr} {sl20 : Array (Option Value)} {oc20 kV20 dc20 pm20 cd20 ct20 : Value}
    {f21 : Addr} {od21 an21 : Option Addr} {sl21 : Array (Option Value)} {oc21 kV21 dc21 pm21 cd21 ct21 : Value}
    {f22 : Addr} {od22 an22 : Option Addr} {sl22 : Array (Option Value)} {oc22 kV22 dc22 pm22 cd22 ct22 : Value}
    {f23 : Addr} {od23 an23 : Option Addr} {sl23 : Array (Option Value)} {oc23 kV23 dc23 pm23 cd23 ct23 : Value}
    {f24 : Addr} {od24 an24 : Option Addr} {sl24 : Array (Option Value)} {oc24 kV24 dc24 pm24 cd24 ct24 : Value}
    {f25 : Addr} {od25 an25 : Option Addr} {sl25 : Array (Option Value)} {oc25 kV25 dc25 pm25 cd25 ct25 : Value}
    {f26 : Addr} {od26 an26 : Option Addr} {sl26 : Array (Option Value)} {oc26 kV26 dc26 pm26 cd26 ct26 : Value}
    {f27 : Addr} {od27 an27 : Option Addr} {sl27 : Array (Option Value)} {oc27 kV27 dc27 pm27 cd27 ct27 : Value}
    {f28 : Addr} {od28 an28 : Option Addr} {sl28 : Array (Option Value)} {oc28 kV28 dc28 pm28 cd28 ct28 : Value}
    {f29 : Addr} {od29 an29 : Option Addr} {sl29 : Array (Option Value)} {oc29 kV29 dc29 pm29 cd29 ct29 : Value}
    {f30 : Addr} {od30 an30 : Option Addr} {sl30 : Array (Option Value)} {oc30 kV30 dc30 pm30 cd30 ct30 : Value}
    {f31 : Addr} {od31 an31 : Option Addr} {sl31 : Array (Option Value)} {oc31 kV31 dc31 pm31 cd31 ct31 : Value}
    {f32 : Addr} {od32 an32 : Option Addr} {sl32 : Array (Option Value)} {oc32 kV32 dc32 pm32 cd32 ct32 : Value}
    {f33 : Addr} {od33 an33 : Option Addr} {sl33 : Array (Option Value)} {oc33 kV33 dc33 pm33 cd33 ct33 : Value}
    {f34 : Addr} {od34 an34 : Option Addr} {sl34 : Array (Option Value)} {oc34 kV34 dc34 pm34 cd34 ct34 : Value}
    {f35 : Addr} {od35 an35 : Option Addr} {sl35 : Array (Option Value)} {oc35 kV35 dc35 pm35 cd35 ct35 : Value}
    {f36 : Addr} {od36 an36 : Option Addr} {sl36 : Array (Option Value)} {oc36 kV36 dc36 pm36 cd36 ct36 : Value}
    {f37 : Addr} {od37 an37 : Option Addr} {sl37 : Array (Option Value)} {oc37 kV37 dc37 pm37 cd37 ct37 : Value}
    {f38 : Addr} {od38 an38 : Option Addr} {sl38 : Array (Option Value)} {oc38 kV38 dc38 pm38 cd38 ct38 : Value}
    {f39 : Addr} {od39 an39 : Option Addr} {sl39 : Array (Option Value)} {oc39 kV39 dc39 pm39 cd39 ct39 : Value}
    {f40 : Addr} {od40 an40 : Option Addr} {sl40 : Array (Option Value)} {oc40 kV40 dc40 pm40 cd40 ct40 : Value}
    {f41 : Addr} {od41 an41 : Option Addr} {sl41 : Array (Option Value)} {oc41 kV41 dc41 pm41 cd41 ct41 : Value}
    {f42 : Addr} {od42 an42 : Option Addr} {sl42 : Array (Option Value)} {oc42 kV42 dc42 pm42 cd42 ct42 : Value}
    {f43 : Addr} {od43 an43 : Option Addr} {sl43 : Array (Option Value)} {oc43 kV43 dc43 pm43 cd43 ct43 : Value}
    {f44 : Addr} {od44 an44 : Option Addr} {sl44 : Array (Option Value)} {oc44 kV44 dc44 pm44 cd44 ct44 : Value}
    {f45 : Addr} {od45 an45 : Option Addr} {sl45 : Array (Option Value)} {oc45 kV45 dc45 pm45 cd45 ct45 : Value}
    {f46 : Addr} {od46 an46 : Option Addr} {sl46 : Array (Option Value)} {oc46 kV46 dc46 pm46 cd46 ct46 : Value}
    {f47 : Addr} {od47 an47 : Option Addr} {sl47 : Array (Option Value)} {oc47 kV47 dc47 pm47 cd47 ct47 : Value}
    {f48 : Addr} {od48 an48 : Option Addr} {sl48 : Array (Option Value)} {oc48 kV48 dc48 pm48 cd48 ct48 : Value}
    {f49 : Addr} {od49 an49 : Option Addr} {sl49 : Array (Option Value)} {oc49 kV49 dc49 pm49 cd49 ct49 : Value}
    {f50 : Addr} {od50 an50 : Option Addr} {sl50 : Array (Option Value)} {oc50 kV50 dc50 pm50 cd50 ct50 : Value}
    {tk0 : Tok}
    {tk1 : Tok}
    {tk2 : Tok}
    {tk3 : Tok}
    {tk4 : Tok}
    {tk5 : Tok}
    {tk6 : Tok}
    {tk7 : Tok}
    (a0 : PySem.W.nsIn K mainGlobals "_law_begun" = some (some (.ref f0)))
    (l0 : K.lookup f0 = some ⟨oc0, od0, .func (PySem.W.fnOf "_law_begun" "_law_begun" (defArgs s__law_begun) (defBody s__law_begun) (defScope s__law_begun) .none kV0 dc0 pm0 an0 cd0 ct0), sl0⟩)
    (c0 : PySem.W.codeIn K cd0 "_law_begun" = true)
    (k0 : PySem.W.keepIn K (.ref f0) = true)
    (a1 : PySem.W.nsIn K mainGlobals "is_whole" = some (some (.ref f1)))
    (l1 : K.lookup f1 = some ⟨oc1, od1, .func (PySem.W.fnOf "is_whole" "is_whole" (defArgs s_is_whole) (defBody s_is_whole) (defScope s_is_whole) .none kV1 dc1 pm1 an1 cd1 ct1), sl1⟩)
    (c1 : PySem.W.codeIn K cd1 "is_whole" = true)
    (k1 : PySem.W.keepIn K (.ref f1) = true)
    (a2 : PySem.W.nsIn K mainGlobals "are_rows_garblers" = some (some (.ref f2)))
    (l2 : K.lookup f2 = some ⟨oc2, od2, .func (PySem.W.fnOf "are_rows" "are_rows" (defArgs s_are_rows_garblers) (defBody s_are_rows_garblers) (defScope s_are_rows_garblers) .none kV2 dc2 pm2 an2 cd2 ct2), sl2⟩)
    (c2 : PySem.W.codeIn K cd2 "are_rows" = true)
    (k2 : PySem.W.keepIn K (.ref f2) = true)
    (a3 : PySem.W.nsIn K mainGlobals "is_garbler" = some (some (.ref f3)))
    (l3 : K.lookup f3 = some ⟨oc3, od3, .func (PySem.W.fnOf "is_garbler" "is_garbler" (defArgs s_is_garbler) (defBody s_is_garbler) (defScope s_is_garbler) .none kV3 dc3 pm3 an3 cd3 ct3), sl3⟩)
    (c3 : PySem.W.codeIn K cd3 "is_garbler" = true)
    (k3 : PySem.W.keepIn K (.ref f3) = true)
    (a4 : PySem.W.nsIn K mainGlobals "check_garbler" = some (some (.ref f4)))
    (l4 : K.lookup f4 = some ⟨oc4, od4, .func (PySem.W.fnOf "check_garbler" "check_garbler" (defArgs s_check_garbler) (defBody s_check_garbler) (defScope s_check_garbler) .none kV4 dc4 pm4 an4 cd4 ct4), sl4⟩)
    (c4 : PySem.W.codeIn K cd4 "check_garbler" = true)
    (k4 : PySem.W.keepIn K (.ref f4) = true)
    (a5 : PySem.W.nsIn K mainGlobals "common_garblers" = some (some (.ref f5)))
    (l5 : K.lookup f5 = some ⟨oc5, od5, .func (PySem.W.fnOf "common" "common" (defArgs s_common_garblers) (defBody s_common_garblers) (defScope s_common_garblers) .none kV5 dc5 pm5 an5 cd5 ct5), sl5⟩)
    (c5 : PySem.W.codeIn K cd5 "common" = true)
    (k5 : PySem.W.keepIn K (.ref f5) = true)
    (a6 : PySem.W.nsIn K mainGlobals "lowered_rows" = some (some (.ref f6)))
    (l6 : K.lookup f6 = some ⟨oc6, od6, .func (PySem.W.fnOf "lowered_rows" "lowered_rows" (defArgs s_lowered_rows) (defBody s_lowered_rows) (defScope s_lowered_rows) .none kV6 dc6 pm6 an6 cd6 ct6), sl6⟩)
    (c6 : PySem.W.codeIn K cd6 "lowered_rows" = true)
    (k6 : PySem.W.keepIn K (.ref f6) = true)
    (a7 : PySem.W.nsIn K mainGlobals "is_number" = some (some (.ref f7)))
    (l7 : K.lookup f7 = some ⟨oc7, od7, .func (PySem.W.fnOf "is_number" "is_number" (defArgs s_is_number) (defBody s_is_number) (defScope s_is_number) .none kV7 dc7 pm7 an7 cd7 ct7), sl7⟩)
    (c7 : PySem.W.codeIn K cd7 "is_number" = true)
    (k7 : PySem.W.keepIn K (.ref f7) = true)
    (a8 : PySem.W.nsIn K mainGlobals "are_rows_tellers" = some (some (.ref f8)))
    (l8 : K.lookup f8 = some ⟨oc8, od8, .func (PySem.W.fnOf "are_rows" "are_rows" (defArgs s_are_rows_tellers) (defBody s_are_rows_tellers) (defScope s_are_rows_tellers) .none kV8 dc8 pm8 an8 cd8 ct8), sl8⟩)
    (c8 : PySem.W.codeIn K cd8 "are_rows" = true)
    (k8 : PySem.W.keepIn K (.ref f8) = true)
    (a9 : PySem.W.nsIn K mainGlobals "is_teller" = some (some (.ref f9)))
    (l9 : K.lookup f9 = some ⟨oc9, od9, .func (PySem.W.fnOf "is_teller" "is_teller" (defArgs s_is_teller) (defBody s_is_teller) (defScope s_is_teller) .none kV9 dc9 pm9 an9 cd9 ct9), sl9⟩)
    (c9 : PySem.W.codeIn K cd9 "is_teller" = true)
    (k9 : PySem.W.keepIn K (.ref f9) = true)
    (a10 : PySem.W.nsIn K mainGlobals "product" = some (some (.ref f10)))
    (l10 : K.lookup f10 = some ⟨oc10, od10, .func (PySem.W.fnOf "product" "product" (defArgs s_product) (defBody s_product) (defScope s_product) .none kV10 dc10 pm10 an10 cd10 ct10), sl10⟩)
    (c10 : PySem.W.codeIn K cd10 "product" = true)
    (k10 : PySem.W.keepIn K (.ref f10) = true)
    (a11 : PySem.W.nsIn K mainGlobals "garbled" = some (some (.ref f11)))
    (l11 : K.lookup f11 = some ⟨oc11, od11, .func (PySem.W.fnOf "garbled" "garbled" (defArgs s_garbled) (defBody s_garbled) (defScope s_garbled) .none kV11 dc11 pm11 an11 cd11 ct11), sl11⟩)
    (c11 : PySem.W.codeIn K cd11 "garbled" = true)
    (k11 : PySem.W.keepIn K (.ref f11) = true)
    (a12 : PySem.W.nsIn K mainGlobals "_law_less" = some (some (.ref f12)))
    (l12 : K.lookup f12 = some ⟨oc12, od12, .func (PySem.W.fnOf "_law_less" "_law_less" (defArgs s__law_less) (defBody s__law_less) (defScope s__law_less) .none kV12 dc12 pm12 an12 cd12 ct12), sl12⟩)
    (c12 : PySem.W.codeIn K cd12 "_law_less" = true)
    (k12 : PySem.W.keepIn K (.ref f12) = true)
    (a13 : PySem.W.nsIn K mainGlobals "_law_mixed" = some (some (.ref f13)))
    (l13 : K.lookup f13 = some ⟨oc13, od13, .func (PySem.W.fnOf "_law_mixed" "_law_mixed" (defArgs s__law_mixed) (defBody s__law_mixed) (defScope s__law_mixed) .none kV13 dc13 pm13 an13 cd13 ct13), sl13⟩)
    (c13 : PySem.W.codeIn K cd13 "_law_mixed" = true)
    (k13 : PySem.W.keepIn K (.ref f13) = true)
    (a14 : PySem.W.nsIn K mainGlobals "_law_take" = some (some (.ref f14)))
    (l14 : K.lookup f14 = some ⟨oc14, od14, .func (PySem.W.fnOf "_law_take" "_law_take" (defArgs s__law_take) (defBody s__law_take) (defScope s__law_take) .none kV14 dc14 pm14 an14 cd14 ct14), sl14⟩)
    (c14 : PySem.W.codeIn K cd14 "_law_take" = true)
    (k14 : PySem.W.keepIn K (.ref f14) = true)
    (a15 : PySem.W.nsIn K mainGlobals "_law_pick" = some (some (.ref f15)))
    (l15 : K.lookup f15 = some ⟨oc15, od15, .func (PySem.W.fnOf "_law_pick" "_law_pick" (defArgs s__law_pick) (defBody s__law_pick) (defScope s__law_pick) .none kV15 dc15 pm15 an15 cd15 ct15), sl15⟩)
    (c15 : PySem.W.codeIn K cd15 "_law_pick" = true)
    (k15 : PySem.W.keepIn K (.ref f15) = true)
    (a16 : PySem.W.nsIn K mainGlobals "_law_row" = some (some (.ref f16)))
    (l16 : K.lookup f16 = some ⟨oc16, od16, .func (PySem.W.fnOf "_law_row" "_law_row" (defArgs s__law_row) (defBody s__law_row) (defScope s__law_row) .none kV16 dc16 pm16 an16 cd16 ct16), sl16⟩)
    (c16 : PySem.W.codeIn K cd16 "_law_row" = true)
    (k16 : PySem.W.keepIn K (.ref f16) = true)
    (a17 : PySem.W.nsIn K mainGlobals "_law_teller" = some (some (.ref f17)))
    (l17 : K.lookup f17 = some ⟨oc17, od17, .func (PySem.W.fnOf "_law_teller" "_law_teller" (defArgs s__law_teller) (defBody s__law_teller) (defScope s__law_teller) .none kV17 dc17 pm17 an17 cd17 ct17), sl17⟩)
    (c17 : PySem.W.codeIn K cd17 "_law_teller" = true)
    (k17 : PySem.W.keepIn K (.ref f17) = true)
    (a18 : PySem.W.nsIn K mainGlobals "_law_stakes" = some (some (.ref f18)))
    (l18 : K.lookup f18 = some ⟨oc18, od18, .func (PySem.W.fnOf "_law_stakes" "_law_stakes" (defArgs s__law_stakes) (defBody s__law_stakes) (defScope s__law_stakes) .none kV18 dc18 pm18 an18 cd18 ct18), sl18⟩)
    (c18 : PySem.W.codeIn K cd18 "_law_stakes" = true)
    (k18 : PySem.W.keepIn K (.ref f18) = true)
    (a19 : PySem.W.nsIn K mainGlobals "are_stakes" = some (some (.ref f19)))
    (l19 : K.lookup f19 = some ⟨oc19, od19, .func (PySem.W.fnOf "are_stakes" "are_stakes" (defArgs s_are_stakes) (defBody s_are_stakes) (defScope s_are_stakes) .none kV19 dc19 pm19 an19 cd19 ct19), sl19⟩)
    (c19 : PySem.W.codeIn K cd19 "are_stakes" = true)
    (k19 : PySem.W.keepIn K (.ref f19) = true)
    (a20 : PySem.W.nsIn K mainGlobals "check_stakes" = some (some (.ref f20)))
    (l20 : K.lookup f20 = some ⟨oc20, od20, .func (PySem.W.fnOf "check_stakes" "check_stakes" (defArgs s_check_stakes) (defBody s_check_stakes) (defScope s_check_stakes) .none kV20 dc20 pm20 an20 cd20 ct20), sl20⟩)
    (c20 : PySem.W.codeIn K cd20 "check_stakes" = true)
    (k20 : PySem.W.keepIn K (.ref f20) = true)
    (a21 : PySem.W.nsIn K mainGlobals "are_stakes_for" = some (some (.ref f21)))
    (l21 : K.lookup f21 = some ⟨oc21, od21, .func (PySem.W.fnOf "are_stakes_for" "are_stakes_for" (defArgs s_are_stakes_for) (defBody s_are_stakes_for) (defScope s_are_stakes_for) .none kV21 dc21 pm21 an21 cd21 ct21), sl21⟩)
    (c21 : PySem.W.codeIn K cd21 "are_stakes_for" = true)
    (k21 : PySem.W.keepIn K (.ref f21) = true)
    (a22 : PySem.W.nsIn K mainGlobals "check_second" = some (some (.ref f22)))
    (l22 : K.lookup f22 = some ⟨oc22, od22, .func (PySem.W.fnOf "check_second" "check_second" (defArgs s_check_second) (defBody s_check_second) (defScope s_check_second) .none kV22 dc22 pm22 an22 cd22 ct22), sl22⟩)
    (c22 : PySem.W.codeIn K cd22 "check_second" = true)
    (k22 : PySem.W.keepIn K (.ref f22) = true)
    (a23 : PySem.W.nsIn K mainGlobals "made_stakes" = some (some (.ref f23)))
    (l23 : K.lookup f23 = some ⟨oc23, od23, .func (PySem.W.fnOf "made_stakes" "made_stakes" (defArgs s_made_stakes) (defBody s_made_stakes) (defScope s_made_stakes) .none kV23 dc23 pm23 an23 cd23 ct23), sl23⟩)
    (c23 : PySem.W.codeIn K cd23 "made_stakes" = true)
    (k23 : PySem.W.keepIn K (.ref f23) = true)
    (a24 : PySem.W.nsIn K mainGlobals "stakes_sum" = some (some (.ref f24)))
    (l24 : K.lookup f24 = some ⟨oc24, od24, .func (PySem.W.fnOf "stakes_sum" "stakes_sum" (defArgs s_stakes_sum) (defBody s_stakes_sum) (defScope s_stakes_sum) .none kV24 dc24 pm24 an24 cd24 ct24), sl24⟩)
    (c24 : PySem.W.codeIn K cd24 "stakes_sum" = true)
    (k24 : PySem.W.keepIn K (.ref f24) = true)
    (a25 : PySem.W.nsIn K mainGlobals "stakes_either" = some (some (.ref f25)))
    (l25 : K.lookup f25 = some ⟨oc25, od25, .func (PySem.W.fnOf "stakes_either" "stakes_either" (defArgs s_stakes_either) (defBody s_stakes_either) (defScope s_stakes_either) .none kV25 dc25 pm25 an25 cd25 ct25), sl25⟩)
    (c25 : PySem.W.codeIn K cd25 "stakes_either" = true)
    (k25 : PySem.W.keepIn K (.ref f25) = true)
    (a26 : PySem.W.nsIn K mainGlobals "_law_gcd" = some (some (.ref f26)))
    (l26 : K.lookup f26 = some ⟨oc26, od26, .func (PySem.W.fnOf "_law_gcd" "_law_gcd" (defArgs s__law_gcd) (defBody s__law_gcd) (defScope s__law_gcd) .none kV26 dc26 pm26 an26 cd26 ct26), sl26⟩)
    (c26 : PySem.W.codeIn K cd26 "_law_gcd" = true)
    (k26 : PySem.W.keepIn K (.ref f26) = true)
    (a27 : PySem.W.nsIn K mainGlobals "_law_ratio" = some (some (.ref f27)))
    (l27 : K.lookup f27 = some ⟨oc27, od27, .func (PySem.W.fnOf "_law_ratio" "_law_ratio" (defArgs s__law_ratio) (defBody s__law_ratio) (defScope s__law_ratio) .none kV27 dc27 pm27 an27 cd27 ct27), sl27⟩)
    (c27 : PySem.W.codeIn K cd27 "_law_ratio" = true)
    (k27 : PySem.W.keepIn K (.ref f27) = true)
    (a28 : PySem.W.nsIn K mainGlobals "_law_sums" = some (some (.ref f28)))
    (l28 : K.lookup f28 = some ⟨oc28, od28, .func (PySem.W.fnOf "_law_sums" "_law_sums" (defArgs s__law_sums) (defBody s__law_sums) (defScope s__law_sums) .none kV28 dc28 pm28 an28 cd28 ct28), sl28⟩)
    (c28 : PySem.W.codeIn K cd28 "_law_sums" = true)
    (k28 : PySem.W.keepIn K (.ref f28) = true)
    (a29 : PySem.W.nsIn K mainGlobals "_law_columns" = some (some (.ref f29)))
    (l29 : K.lookup f29 = some ⟨oc29, od29, .func (PySem.W.fnOf "_law_columns" "_law_columns" (defArgs s__law_columns) (defBody s__law_columns) (defScope s__law_columns) .none kV29 dc29 pm29 an29 cd29 ct29), sl29⟩)
    (c29 : PySem.W.codeIn K cd29 "_law_columns" = true)
    (k29 : PySem.W.keepIn K (.ref f29) = true)
    (a30 : PySem.W.nsIn K mainGlobals "_law_worth" = some (some (.ref f30)))
    (l30 : K.lookup f30 = some ⟨oc30, od30, .func (PySem.W.fnOf "_law_worth" "_law_worth" (defArgs s__law_worth) (defBody s__law_worth) (defScope s__law_worth) .none kV30 dc30 pm30 an30 cd30 ct30), sl30⟩)
    (c30 : PySem.W.codeIn K cd30 "_law_worth" = true)
    (k30 : PySem.W.keepIn K (.ref f30) = true)
    (a31 : PySem.W.nsIn K mainGlobals "check_teller" = some (some (.ref f31)))
    (l31 : K.lookup f31 = some ⟨oc31, od31, .func (PySem.W.fnOf "check_teller" "check_teller" (defArgs s_check_teller) (defBody s_check_teller) (defScope s_check_teller) .none kV31 dc31 pm31 an31 cd31 ct31), sl31⟩)
    (c31 : PySem.W.codeIn K cd31 "check_teller" = true)
    (k31 : PySem.W.keepIn K (.ref f31) = true)
    (a32 : PySem.W.nsIn K mainGlobals "check_stakes_for" = some (some (.ref f32)))
    (l32 : K.lookup f32 = some ⟨oc32, od32, .func (PySem.W.fnOf "check_stakes_for" "check_stakes_for" (defArgs s_check_stakes_for) (defBody s_check_stakes_for) (defScope s_check_stakes_for) .none kV32 dc32 pm32 an32 cd32 ct32), sl32⟩)
    (c32 : PySem.W.codeIn K cd32 "check_stakes_for" = true)
    (k32 : PySem.W.keepIn K (.ref f32) = true)
    (a33 : PySem.W.nsIn K mainGlobals "divisor" = some (some (.ref f33)))
    (l33 : K.lookup f33 = some ⟨oc33, od33, .func (PySem.W.fnOf "divisor" "divisor" (defArgs s_divisor) (defBody s_divisor) (defScope s_divisor) .none kV33 dc33 pm33 an33 cd33 ct33), sl33⟩)
    (c33 : PySem.W.codeIn K cd33 "divisor" = true)
    (k33 : PySem.W.keepIn K (.ref f33) = true)
    (a34 : PySem.W.nsIn K mainGlobals "ratio" = some (some (.ref f34)))
    (l34 : K.lookup f34 = some ⟨oc34, od34, .func (PySem.W.fnOf "ratio" "ratio" (defArgs s_ratio) (defBody s_ratio) (defScope s_ratio) .none kV34 dc34 pm34 an34 cd34 ct34), sl34⟩)
    (c34 : PySem.W.codeIn K cd34 "ratio" = true)
    (k34 : PySem.W.keepIn K (.ref f34) = true)
    (a35 : PySem.W.nsIn K mainGlobals "sums_at" = some (some (.ref f35)))
    (l35 : K.lookup f35 = some ⟨oc35, od35, .func (PySem.W.fnOf "sums_at" "sums_at" (defArgs s_sums_at) (defBody s_sums_at) (defScope s_sums_at) .none kV35 dc35 pm35 an35 cd35 ct35), sl35⟩)
    (c35 : PySem.W.codeIn K cd35 "sums_at" = true)
    (k35 : PySem.W.keepIn K (.ref f35) = true)
    (a36 : PySem.W.nsIn K mainGlobals "columns_of" = some (some (.ref f36)))
    (l36 : K.lookup f36 = some ⟨oc36, od36, .func (PySem.W.fnOf "columns_of" "columns_of" (defArgs s_columns_of) (defBody s_columns_of) (defScope s_columns_of) .none kV36 dc36 pm36 an36 cd36 ct36), sl36⟩)
    (c36 : PySem.W.codeIn K cd36 "columns_of" = true)
    (k36 : PySem.W.keepIn K (.ref f36) = true)
    (a37 : PySem.W.nsIn K mainGlobals "worth_told" = some (some (.ref f37)))
    (l37 : K.lookup f37 = some ⟨oc37, od37, .func (PySem.W.fnOf "worth_told" "worth_told" (defArgs s_worth_told) (defBody s_worth_told) (defScope s_worth_told) .none kV37 dc37 pm37 an37 cd37 ct37), sl37⟩)
    (c37 : PySem.W.codeIn K cd37 "worth_told" = true)
    (k37 : PySem.W.keepIn K (.ref f37) = true)
    (a38 : PySem.W.nsIn K mainGlobals "worth" = some (some (.ref f38)))
    (l38 : K.lookup f38 = some ⟨oc38, od38, .func (PySem.W.fnOf "worth" "worth" (defArgs s_worth) (defBody s_worth) (defScope s_worth) .none kV38 dc38 pm38 an38 cd38 ct38), sl38⟩)
    (c38 : PySem.W.codeIn K cd38 "worth" = true)
    (k38 : PySem.W.keepIn K (.ref f38) = true)
    (a39 : PySem.W.nsIn K mainGlobals "_law_sum" = some (some (.ref f39)))
    (l39 : K.lookup f39 = some ⟨oc39, od39, .func (PySem.W.fnOf "_law_sum" "_law_sum" (defArgs s__law_sum) (defBody s__law_sum) (defScope s__law_sum) .none kV39 dc39 pm39 an39 cd39 ct39), sl39⟩)
    (c39 : PySem.W.codeIn K cd39 "_law_sum" = true)
    (k39 : PySem.W.keepIn K (.ref f39) = true)
    (a40 : PySem.W.nsIn K mainGlobals "_law_garbler" = some (some (.ref f40)))
    (l40 : K.lookup f40 = some ⟨oc40, od40, .func (PySem.W.fnOf "_law_garbler" "_law_garbler" (defArgs s__law_garbler) (defBody s__law_garbler) (defScope s__law_garbler) .none kV40 dc40 pm40 an40 cd40 ct40), sl40⟩)
    (c40 : PySem.W.codeIn K cd40 "_law_garbler" = true)
    (k40 : PySem.W.keepIn K (.ref f40) = true)
    (a41 : PySem.W.nsIn K mainGlobals "unheard" = some (some (.ref f41)))
    (l41 : K.lookup f41 = some ⟨oc41, od41, .func (PySem.W.fnOf "unheard" "unheard" (defArgs s_unheard) (defBody s_unheard) (defScope s_unheard) .none kV41 dc41 pm41 an41 cd41 ct41), sl41⟩)
    (c41 : PySem.W.codeIn K cd41 "unheard" = true)
    (k41 : PySem.W.keepIn K (.ref f41) = true)
    (a42 : PySem.W.nsIn K mainGlobals "check_word" = some (some (.ref f42)))
    (l42 : K.lookup f42 = some ⟨oc42, od42, .func (PySem.W.fnOf "check_word" "check_word" (defArgs s_check_word) (defBody s_check_word) (defScope s_check_word) .none kV42 dc42 pm42 an42 cd42 ct42), sl42⟩)
    (c42 : PySem.W.codeIn K cd42 "check_word" = true)
    (k42 : PySem.W.keepIn K (.ref f42) = true)
    (a43 : PySem.W.nsIn K mainGlobals "best_deeds" = some (some (.ref f43)))
    (l43 : K.lookup f43 = some ⟨oc43, od43, .func (PySem.W.fnOf "best_deeds" "best_deeds" (defArgs s_best_deeds) (defBody s_best_deeds) (defScope s_best_deeds) .none kV43 dc43 pm43 an43 cd43 ct43), sl43⟩)
    (c43 : PySem.W.codeIn K cd43 "best_deeds" = true)
    (k43 : PySem.W.keepIn K (.ref f43) = true)
    (a44 : PySem.W.nsIn K mainGlobals "common_tellers" = some (some (.ref f44)))
    (l44 : K.lookup f44 = some ⟨oc44, od44, .func (PySem.W.fnOf "common" "common" (defArgs s_common_tellers) (defBody s_common_tellers) (defScope s_common_tellers) .none kV44 dc44 pm44 an44 cd44 ct44), sl44⟩)
    (c44 : PySem.W.codeIn K cd44 "common" = true)
    (k44 : PySem.W.keepIn K (.ref f44) = true)
    (a45 : PySem.W.nsIn K mainGlobals "made" = some (some (.ref f45)))
    (l45 : K.lookup f45 = some ⟨oc45, od45, .func (PySem.W.fnOf "made" "made" (defArgs s_made) (defBody s_made) (defScope s_made) .none kV45 dc45 pm45 an45 cd45 ct45), sl45⟩)
    (c45 : PySem.W.codeIn K cd45 "made" = true)
    (k45 : PySem.W.keepIn K (.ref f45) = true)
    (a46 : PySem.W.nsIn K mainGlobals "direction_of" = some (some (.ref f46)))
    (l46 : K.lookup f46 = some ⟨oc46, od46, .func (PySem.W.fnOf "direction_of" "direction_of" (defArgs s_direction_of) (defBody s_direction_of) (defScope s_direction_of) .none kV46 dc46 pm46 an46 cd46 ct46), sl46⟩)
    (c46 : PySem.W.codeIn K cd46 "direction_of" = true)
    (k46 : PySem.W.keepIn K (.ref f46) = true)
    (a47 : PySem.W.nsIn K mainGlobals "plain_of" = some (some (.ref f47)))
    (l47 : K.lookup f47 = some ⟨oc47, od47, .func (PySem.W.fnOf "plain_of" "plain_of" (defArgs s_plain_of) (defBody s_plain_of) (defScope s_plain_of) .none kV47 dc47 pm47 an47 cd47 ct47), sl47⟩)
    (c47 : PySem.W.codeIn K cd47 "plain_of" = true)
    (k47 : PySem.W.keepIn K (.ref f47) = true)
    (a48 : PySem.W.nsIn K mainGlobals "plain_told" = some (some (.ref f48)))
    (l48 : K.lookup f48 = some ⟨oc48, od48, .func (PySem.W.fnOf "plain_told" "plain_told" (defArgs s_plain_told) (defBody s_plain_told) (defScope s_plain_told) .none kV48 dc48 pm48 an48 cd48 ct48), sl48⟩)
    (c48 : PySem.W.codeIn K cd48 "plain_told" = true)
    (k48 : PySem.W.keepIn K (.ref f48) = true)
    (a49 : PySem.W.nsIn K mainGlobals "plain" = some (some (.ref f49)))
    (l49 : K.lookup f49 = some ⟨oc49, od49, .func (PySem.W.fnOf "plain" "plain" (defArgs s_plain) (defBody s_plain) (defScope s_plain) .none kV49 dc49 pm49 an49 cd49 ct49), sl49⟩)
    (c49 : PySem.W.codeIn K cd49 "plain" = true)
    (k49 : PySem.W.keepIn K (.ref f49) = true)
    (a50 : PySem.W.nsIn K mainGlobals "law" = some (some (.ref f50)))
    (l50 : K.lookup f50 = some ⟨oc50, od50, .func (PySem.W.fnOf "law" "law" (defArgs s_law) (defBody s_law) (defScope s_law) .none kV50 dc50 pm50 an50 cd50 ct50), sl50⟩)
    (c50 : PySem.W.codeIn K cd50 "law" = true)
    (k50 : PySem.W.keepIn K (.ref f50) = true)
    (n0 : PySem.W.nsIn K mainGlobals "STATES" = some (some (.int (6) tk0)))
    (n1 : PySem.W.nsIn K mainGlobals "WORDS_tellers" = some (some (.int (12) tk1)))
    (n2 : PySem.W.nsIn K mainGlobals "DIGITS_tellers" = some (some (.int (30) tk2)))
    (n3 : PySem.W.nsIn K mainGlobals "MOST_tellers" = some (some (.int (10 ^ 30) tk3)))
    (n4 : PySem.W.nsIn K mainGlobals "DEEDS" = some (some (.int (12) tk4)))
    (n5 : PySem.W.nsIn K mainGlobals "WORDS_garblers" = some (some (.int (12) tk5)))
    (n6 : PySem.W.nsIn K mainGlobals "DIGITS_garblers" = some (some (.int (30) tk6)))
    (n7 : PySem.W.nsIn K mainGlobals "MOST_garblers" = some (some (.int (10 ^ 30) tk7)))
    (z0 : PySem.W.nsIn K mainGlobals "len" = some none)
    (z1 : PySem.W.nsIn K mainGlobals "abs" = some none)
    (z2 : PySem.W.nsIn K mainGlobals "sum" = some none)
    (z3 : PySem.W.nsIn K mainGlobals "max" = some none)
    (z4 : PySem.W.nsIn K mainGlobals "min" = some none)
    (z5 : PySem.W.nsIn K mainGlobals "all" = some none)
    (z6 : PySem.W.nsIn K mainGlobals "any" = some none)
    (z7 : PySem.W.nsIn K mainGlobals "int" = some none)
    (z8 : PySem.W.nsIn K mainGlobals "bool" = some none)
    (z9 : PySem.W.nsIn K mainGlobals "str" = some none)
    (z10 : PySem.W.nsIn K mainGlobals "tuple" = some none)
    (z11 : PySem.W.nsIn K mainGlobals "list" = some none)
    (z12 : PySem.W.nsIn K mainGlobals "isinstance" = some none)
    (z13 : PySem.W.nsIn K mainGlobals "range" = some none)
    (z14 : PySem.W.nsIn K mainGlobals "enumerate" = some none)
    (z15 : PySem.W.nsIn K mainGlobals "zip" = some none)
    (z16 : PySem.W.nsIn K mainGlobals "sorted" = some none) :
    ∃ fd : FuncData, (∀ (s : Shared) (v : Value), BindsTo s fd ⟨[v], []⟩ [("script", v)]) ∧ ∀ base : Heap, K.In base → base.Ns mainGlobals mg → FnOk l.prog w K mg base CX0 7 fa fd ["script"] (spL K) := by
  have e := hfa.symm.trans (PySem.W.mg_of X G a50)
  cases e
  have T : Txt mg := ⟨⟨PySem.W.mg_none_of X G z0, PySem.W.mg_none_of X G z1, PySem.W.mg_none_of X G z2, PySem.W.mg_none_of X G z3, PySem.W.mg_none_of X G z4, PySem.W.mg_none_of X G z5, PySem.W.mg_none_of X G z6, PySem.W.mg_none_of X G z7, PySem.W.mg_none_of X G z8, PySem.W.mg_none_of X G z9, PySem.W.mg_none_of X G z10, PySem.W.mg_none_of X G z11, PySem.W.mg_none_of X G z12, PySem.W.mg_none_of X G z13, PySem.W.mg_none_of X G z14, PySem.W.mg_none_of X G z15, PySem.W.mg_none_of X G z16⟩, ⟨tk0, PySem.W.mg_of X G n0⟩, ⟨tk1, PySem.W.mg_of X G n1⟩, ⟨tk2, PySem.W.mg_of X G n2⟩, ⟨tk3, PySem.W.mg_of X G n3⟩, ⟨tk4, PySem.W.mg_of X G n4⟩, ⟨tk5, PySem.W.mg_of X G n5⟩, ⟨tk6, PySem.W.mg_of X G n6⟩, ⟨tk7, PySem.W.mg_of X G n7⟩⟩
  have F0 := fun_mk (st := s__law_begun) l0 c0 k0
  have b0 := F0.binds (ps := ["script"]) fun _ _ _ _ _ _ us hl => match us, hl with | [_], _ => rfl
  have F1 := fun_mk (st := s_is_whole) l1 c1 k1
  have b1 := F1.binds (ps := ["thing", "low"]) fun _ _ _ _ _ _ us hl => match us, hl with | [_, _], _ => rfl
  have F2 := fun_mk (st := s_are_rows_garblers) l2 c2 k2
  have b2 := F2.binds (ps := ["thing", "sure", "most"]) fun _ _ _ _ _ _ us hl => match us, hl with | [_, _, _], _ => rfl
  have F3 := fun_mk (st := s_is_garbler) l3 c3 k3
  have b3 := F3.binds (ps := ["thing"]) fun _ _ _ _ _ _ us hl => match us, hl with | [_], _ => rfl
  have F4 := fun_mk (st := s_check_garbler) l4 c4 k4
  have b4 := F4.binds (ps := ["teller", "garbler"]) fun _ _ _ _ _ _ us hl => match us, hl with | [_, _], _ => rfl
  have F5 := fun_mk (st := s_common_garblers) l5 c5 k5
  have b5 := F5.binds (ps := ["numbers"]) fun _ _ _ _ _ _ us hl => match us, hl with | [_], _ => rfl
  have F6 := fun_mk (st := s_lowered_rows) l6 c6 k6
  have b6 := F6.binds (ps := ["whole", "rows"]) fun _ _ _ _ _ _ us hl => match us, hl with | [_, _], _ => rfl
  have F7 := fun_mk (st := s_is_number) l7 c7 k7
  have b7 := F7.binds (ps := ["thing", "low", "high"]) fun _ _ _ _ _ _ us hl => match us, hl with | [_, _, _], _ => rfl
  have F8 := fun_mk (st := s_are_rows_tellers) l8 c8 k8
  have b8 := F8.binds (ps := ["thing", "total", "most", "wide"]) fun _ _ _ _ _ _ us hl => match us, hl with | [_, _, _, _], _ => rfl
  have F9 := fun_mk (st := s_is_teller) l9 c9 k9
  have b9 := F9.binds (ps := ["thing"]) fun _ _ _ _ _ _ us hl => match us, hl with | [_], _ => rfl
  have F10 := fun_mk (st := s_product) l10 c10 k10
  have b10 := F10.binds (ps := ["rows", "more"]) fun _ _ _ _ _ _ us hl => match us, hl with | [_, _], _ => rfl
  have F11 := fun_mk (st := s_garbled) l11 c11 k11
  have b11 := F11.binds (ps := ["teller", "garbler"]) fun _ _ _ _ _ _ us hl => match us, hl with | [_, _], _ => rfl
  have F12 := fun_mk (st := s__law_less) l12 c12 k12
  have b12 := F12.binds (ps := ["first", "second"]) fun _ _ _ _ _ _ us hl => match us, hl with | [_, _], _ => rfl
  have F13 := fun_mk (st := s__law_mixed) l13 c13 k13
  have b13 := F13.binds (ps := ["draw"]) fun _ _ _ _ _ _ us hl => match us, hl with | [_], _ => rfl
  have F14 := fun_mk (st := s__law_take) l14 c14 k14
  have b14 := F14.binds (ps := ["draw", "many"]) fun _ _ _ _ _ _ us hl => match us, hl with | [_, _], _ => rfl
  have F15 := fun_mk (st := s__law_pick) l15 c15 k15
  have b15 := F15.binds (ps := ["draw", "some"]) fun _ _ _ _ _ _ us hl => match us, hl with | [_, _], _ => rfl
  have F16 := fun_mk (st := s__law_row) l16 c16 k16
  have b16 := F16.binds (ps := ["draw", "size", "many"]) fun _ _ _ _ _ _ us hl => match us, hl with | [_, _, _], _ => rfl
  have F17 := fun_mk (st := s__law_teller) l17 c17 k17
  have b17 := F17.binds (ps := ["draw", "many", "most"]) fun _ _ _ _ _ _ us hl => match us, hl with | [_, _, _], _ => rfl
  have F18 := fun_mk (st := s__law_stakes) l18 c18 k18
  have b18 := F18.binds (ps := ["draw", "many", "low"]) fun _ _ _ _ _ _ us hl => match us, hl with | [_, _, _], _ => rfl
  have F19 := fun_mk (st := s_are_stakes) l19 c19 k19
  have b19 := F19.binds (ps := ["thing"]) fun _ _ _ _ _ _ us hl => match us, hl with | [_], _ => rfl
  have F20 := fun_mk (st := s_check_stakes) l20 c20 k20
  have b20 := F20.binds (ps := ["stakes"]) fun _ _ _ _ _ _ us hl => match us, hl with | [_], _ => rfl
  have F21 := fun_mk (st := s_are_stakes_for) l21 c21 k21
  have b21 := F21.binds (ps := ["many", "thing"]) fun _ _ _ _ _ _ us hl => match us, hl with | [_, _], _ => rfl
  have F22 := fun_mk (st := s_check_second) l22 c22 k22
  have b22 := F22.binds (ps := ["stakes", "second"]) fun _ _ _ _ _ _ us hl => match us, hl with | [_, _], _ => rfl
  have F23 := fun_mk (st := s_made_stakes) l23 c23 k23
  have b23 := F23.binds (ps := ["deeds"]) fun _ _ _ _ _ _ us hl => match us, hl with | [_], _ => rfl
  have F24 := fun_mk (st := s_stakes_sum) l24 c24 k24
  have b24 := F24.binds (ps := ["stakes", "second"]) fun _ _ _ _ _ _ us hl => match us, hl with | [_, _], _ => rfl
  have F25 := fun_mk (st := s_stakes_either) l25 c25 k25
  have b25 := F25.binds (ps := ["stakes", "second"]) fun _ _ _ _ _ _ us hl => match us, hl with | [_, _], _ => rfl
  have F26 := fun_mk (st := s__law_gcd) l26 c26 k26
  have b26 := F26.binds (ps := ["one", "other"]) fun _ _ _ _ _ _ us hl => match us, hl with | [_, _], _ => rfl
  have F27 := fun_mk (st := s__law_ratio) l27 c27 k27
  have b27 := F27.binds (ps := ["above", "below"]) fun _ _ _ _ _ _ us hl => match us, hl with | [_, _], _ => rfl
  have F28 := fun_mk (st := s__law_sums) l28 c28 k28
  have b28 := F28.binds (ps := ["column", "stakes"]) fun _ _ _ _ _ _ us hl => match us, hl with | [_, _], _ => rfl
  have F29 := fun_mk (st := s__law_columns) l29 c29 k29
  have b29 := F29.binds (ps := ["teller"]) fun _ _ _ _ _ _ us hl => match us, hl with | [_], _ => rfl
  have F30 := fun_mk (st := s__law_worth) l30 c30 k30
  have b30 := F30.binds (ps := ["teller", "stakes"]) fun _ _ _ _ _ _ us hl => match us, hl with | [_, _], _ => rfl
  have F31 := fun_mk (st := s_check_teller) l31 c31 k31
  have b31 := F31.binds (ps := ["teller"]) fun _ _ _ _ _ _ us hl => match us, hl with | [_], _ => rfl
  have F32 := fun_mk (st := s_check_stakes_for) l32 c32 k32
  have b32 := F32.binds (ps := ["many", "stakes"]) fun _ _ _ _ _ _ us hl => match us, hl with | [_, _], _ => rfl
  have F33 := fun_mk (st := s_divisor) l33 c33 k33
  have b33 := F33.binds (ps := ["one", "other"]) fun _ _ _ _ _ _ us hl => match us, hl with | [_, _], _ => rfl
  have F34 := fun_mk (st := s_ratio) l34 c34 k34
  have b34 := F34.binds (ps := ["top", "bottom"]) fun _ _ _ _ _ _ us hl => match us, hl with | [_, _], _ => rfl
  have F35 := fun_mk (st := s_sums_at) l35 c35 k35
  have b35 := F35.binds (ps := ["stakes", "numbers"]) fun _ _ _ _ _ _ us hl => match us, hl with | [_, _], _ => rfl
  have F36 := fun_mk (st := s_columns_of) l36 c36 k36
  have b36 := F36.binds (ps := ["teller"]) fun _ _ _ _ _ _ us hl => match us, hl with | [_], _ => rfl
  have F37 := fun_mk (st := s_worth_told) l37 c37 k37
  have b37 := F37.binds (ps := ["teller", "stakes"]) fun _ _ _ _ _ _ us hl => match us, hl with | [_, _], _ => rfl
  have F38 := fun_mk (st := s_worth) l38 c38 k38
  have b38 := F38.binds (ps := ["teller", "stakes"]) fun _ _ _ _ _ _ us hl => match us, hl with | [_, _], _ => rfl
  have F39 := fun_mk (st := s__law_sum) l39 c39 k39
  have b39 := F39.binds (ps := ["first", "second"]) fun _ _ _ _ _ _ us hl => match us, hl with | [_, _], _ => rfl
  have F40 := fun_mk (st := s__law_garbler) l40 c40 k40
  have b40 := F40.binds (ps := ["draw", "heard", "said"]) fun _ _ _ _ _ _ us hl => match us, hl with | [_, _, _], _ => rfl
  have F41 := fun_mk (st := s_unheard) l41 c41 k41
  have b41 := F41.binds (ps := ["stakes"]) fun _ _ _ _ _ _ us hl => match us, hl with | [_], _ => rfl
  have F42 := fun_mk (st := s_check_word) l42 c42 k42
  have b42 := F42.binds (ps := ["teller", "word"]) fun _ _ _ _ _ _ us hl => match us, hl with | [_, _], _ => rfl
  have F43 := fun_mk (st := s_best_deeds) l43 c43 k43
  have b43 := F43.binds (ps := ["teller", "stakes", "word"]) fun _ _ _ _ _ _ us hl => match us, hl with | [_, _, _], _ => rfl
  have F44 := fun_mk (st := s_common_tellers) l44 c44 k44
  have b44 := F44.binds (ps := ["numbers"]) fun _ _ _ _ _ _ us hl => match us, hl with | [_], _ => rfl
  have F45 := fun_mk (st := s_made) l45 c45 k45
  have b45 := F45.binds (ps := ["d", "rows"]) fun _ _ _ _ _ _ us hl => match us, hl with | [_, _], _ => rfl
  have F46 := fun_mk (st := s_direction_of) l46 c46 k46
  have b46 := F46.binds (ps := ["column"]) fun _ _ _ _ _ _ us hl => match us, hl with | [_], _ => rfl
  have F47 := fun_mk (st := s_plain_of) l47 c47 k47
  have b47 := F47.binds (ps := ["d", "columns"]) fun _ _ _ _ _ _ us hl => match us, hl with | [_, _], _ => rfl
  have F48 := fun_mk (st := s_plain_told) l48 c48 k48
  have b48 := F48.binds (ps := ["teller"]) fun _ _ _ _ _ _ us hl => match us, hl with | [_], _ => rfl
  have F49 := fun_mk (st := s_plain) l49 c49 k49
  have b49 := F49.binds (ps := ["teller"]) fun _ _ _ _ _ _ us hl => match us, hl with | [_], _ => rfl
  have F50 := fun_mk (st := s_law) l50 c50 k50
  refine ⟨PySem.W.fnOf "law" "law" (defArgs s_law) (defBody s_law) (defScope s_law) .none kV50 dc50 pm50 an50 cd50 ct50, fun s v => .of_eq rfl, fun base _ _ => ?_⟩
  have q__law_begun := Cal.mk' (P := l.prog) (w := w) (mg := mg) (base := base) (x := "_law_begun") F0 (ok__law_begun T  F0) (PySem.W.mg_of X G a0) b0
  have q_is_whole := Cal.mk' (P := l.prog) (w := w) (mg := mg) (base := base) (x := "is_whole") F1 (ok_is_whole T  F1) (PySem.W.mg_of X G a1) b1
  have q_are_rows_garblers := Cal.mk' (P := l.prog) (w := w) (mg := mg) (base := base) (x := "are_rows_garblers") F2 (ok_are_rows_garblers T q_is_whole F2) (PySem.W.mg_of X G a2) b2
  have q_is_garbler := Cal.mk' (P := l.prog) (w := w) (mg := mg) (base := base) (x := "is_garbler") F3 (ok_is_garbler T q_is_whole q_are_rows_garblers F3) (PySem.W.mg_of X G a3) b3
  have q_check_garbler := Cal.mk' (P := l.prog) (w := w) (mg := mg) (base := base) (x := "check_garbler") F4 (ok_check_garbler T q_is_garbler F4) (PySem.W.mg_of X G a4) b4
  have q_common_garblers := Cal.mk' (P := l.prog) (w := w) (mg := mg) (base := base) (x := "common_garblers") F5 (ok_common_garblers T  F5) (PySem.W.mg_of X G a5) b5
  have q_lowered_rows := Cal.mk' (P := l.prog) (w := w) (mg := mg) (base := base) (x := "lowered_rows") F6 (ok_lowered_rows T q_common_garblers F6) (PySem.W.mg_of X G a6) b6
  have q_is_number := Cal.mk' (P := l.prog) (w := w) (mg := mg) (base := base) (x := "is_number") F7 (ok_is_number T  F7) (PySem.W.mg_of X G a7) b7
  have q_are_rows_tellers := Cal.mk' (P := l.prog) (w := w) (mg := mg) (base := base) (x := "are_rows_tellers") F8 (ok_are_rows_tellers T q_is_number F8) (PySem.W.mg_of X G a8) b8
  have q_is_teller := Cal.mk' (P := l.prog) (w := w) (mg := mg) (base := base) (x := "is_teller") F9 (ok_is_teller T q_is_number q_are_rows_tellers F9) (PySem.W.mg_of X G a9) b9
  have q_product := Cal.mk' (P := l.prog) (w := w) (mg := mg) (base := base) (x := "product") F10 (ok_product T  F10) (PySem.W.mg_of X G a10) b10
  have q_garbled := Cal.mk' (P := l.prog) (w := w) (mg := mg) (base := base) (x := "garbled") F11 (ok_garbled T q_check_garbler q_lowered_rows q_is_teller q_product F11) (PySem.W.mg_of X G a11) b11
  have q__law_less := Cal.mk' (P := l.prog) (w := w) (mg := mg) (base := base) (x := "_law_less") F12 (ok__law_less T  F12) (PySem.W.mg_of X G a12) b12
  have q__law_mixed := Cal.mk' (P := l.prog) (w := w) (mg := mg) (base := base) (x := "_law_mixed") F13 (ok__law_mixed T  F13) (PySem.W.mg_of X G a13) b13
  have q__law_take := Cal.mk' (P := l.prog) (w := w) (mg := mg) (base := base) (x := "_law_take") F14 (ok__law_take T q__law_mixed F14) (PySem.W.mg_of X G a14) b14
  have q__law_pick := Cal.mk' (P := l.prog) (w := w) (mg := mg) (base := base) (x := "_law_pick") F15 (ok__law_pick T q__law_take F15) (PySem.W.mg_of X G a15) b15
  have q__law_row := Cal.mk' (P := l.prog) (w := w) (mg := mg) (base := base) (x := "_law_row") F16 (ok__law_row T q__law_pick q__law_take F16) (PySem.W.mg_of X G a16) b16
  have q__law_teller := Cal.mk' (P := l.prog) (w := w) (mg := mg) (base := base) (x := "_law_teller") F17 (ok__law_teller T q__law_row q__law_take F17) (PySem.W.mg_of X G a17) b17
  have q__law_stakes := Cal.mk' (P := l.prog) (w := w) (mg := mg) (base := base) (x := "_law_stakes") F18 (ok__law_stakes T q__law_take F18) (PySem.W.mg_of X G a18) b18
  have q_are_stakes := Cal.mk' (P := l.prog) (w := w) (mg := mg) (base := base) (x := "are_stakes") F19 (ok_are_stakes T  F19) (PySem.W.mg_of X G a19) b19
  have q_check_stakes := Cal.mk' (P := l.prog) (w := w) (mg := mg) (base := base) (x := "check_stakes") F20 (ok_check_stakes T q_are_stakes F20) (PySem.W.mg_of X G a20) b20
  have q_are_stakes_for := Cal.mk' (P := l.prog) (w := w) (mg := mg) (base := base) (x := "are_stakes_for") F21 (ok_are_stakes_for T q_are_stakes F21) (PySem.W.mg_of X G a21) b21
  have q_check_second := Cal.mk' (P := l.prog) (w := w) (mg := mg) (base := base) (x := "check_second") F22 (ok_check_second T q_are_stakes_for F22) (PySem.W.mg_of X G a22) b22
  have q_made_stakes := Cal.mk' (P := l.prog) (w := w) (mg := mg) (base := base) (x := "made_stakes") F23 (ok_made_stakes T  F23) (PySem.W.mg_of X G a23) b23
  have q_stakes_sum := Cal.mk' (P := l.prog) (w := w) (mg := mg) (base := base) (x := "stakes_sum") F24 (ok_stakes_sum T q_check_stakes q_check_second q_made_stakes F24) (PySem.W.mg_of X G a24) b24
  have q_stakes_either := Cal.mk' (P := l.prog) (w := w) (mg := mg) (base := base) (x := "stakes_either") F25 (ok_stakes_either T q_check_stakes q_check_second q_made_stakes F25) (PySem.W.mg_of X G a25) b25
  have q__law_gcd := Cal.mk' (P := l.prog) (w := w) (mg := mg) (base := base) (x := "_law_gcd") F26 (ok__law_gcd T  F26) (PySem.W.mg_of X G a26) b26
  have q__law_ratio := Cal.mk' (P := l.prog) (w := w) (mg := mg) (base := base) (x := "_law_ratio") F27 (ok__law_ratio T q__law_gcd F27) (PySem.W.mg_of X G a27) b27
  have q__law_sums := Cal.mk' (P := l.prog) (w := w) (mg := mg) (base := base) (x := "_law_sums") F28 (ok__law_sums T  F28) (PySem.W.mg_of X G a28) b28
  have q__law_columns := Cal.mk' (P := l.prog) (w := w) (mg := mg) (base := base) (x := "_law_columns") F29 (ok__law_columns T  F29) (PySem.W.mg_of X G a29) b29
  have q__law_worth := Cal.mk' (P := l.prog) (w := w) (mg := mg) (base := base) (x := "_law_worth") F30 (ok__law_worth T q__law_ratio q__law_sums q__law_columns F30) (PySem.W.mg_of X G a30) b30
  have q_check_teller := Cal.mk' (P := l.prog) (w := w) (mg := mg) (base := base) (x := "check_teller") F31 (ok_check_teller T q_is_teller F31) (PySem.W.mg_of X G a31) b31
  have q_check_stakes_for := Cal.mk' (P := l.prog) (w := w) (mg := mg) (base := base) (x := "check_stakes_for") F32 (ok_check_stakes_for T q_are_stakes_for F32) (PySem.W.mg_of X G a32) b32
  have q_divisor := Cal.mk' (P := l.prog) (w := w) (mg := mg) (base := base) (x := "divisor") F33 (ok_divisor T  F33) (PySem.W.mg_of X G a33) b33
  have q_ratio := Cal.mk' (P := l.prog) (w := w) (mg := mg) (base := base) (x := "ratio") F34 (ok_ratio T q_divisor F34) (PySem.W.mg_of X G a34) b34
  have q_sums_at := Cal.mk' (P := l.prog) (w := w) (mg := mg) (base := base) (x := "sums_at") F35 (ok_sums_at T  F35) (PySem.W.mg_of X G a35) b35
  have q_columns_of := Cal.mk' (P := l.prog) (w := w) (mg := mg) (base := base) (x := "columns_of") F36 (ok_columns_of T  F36) (PySem.W.mg_of X G a36) b36
  have q_worth_told := Cal.mk' (P := l.prog) (w := w) (mg := mg) (base := base) (x := "worth_told") F37 (ok_worth_told T q_ratio q_sums_at q_columns_of F37) (PySem.W.mg_of X G a37) b37
  have q_worth := Cal.mk' (P := l.prog) (w := w) (mg := mg) (base := base) (x := "worth") F38 (ok_worth T q_check_teller q_check_stakes_for q_worth_told F38) (PySem.W.mg_of X G a38) b38
  have q__law_sum := Cal.mk' (P := l.prog) (w := w) (mg := mg) (base := base) (x := "_law_sum") F39 (ok__law_sum T q__law_ratio F39) (PySem.W.mg_of X G a39) b39
  have q__law_garbler := Cal.mk' (P := l.prog) (w := w) (mg := mg) (base := base) (x := "_law_garbler") F40 (ok__law_garbler T q__law_take q__law_row F40) (PySem.W.mg_of X G a40) b40
  have q_unheard := Cal.mk' (P := l.prog) (w := w) (mg := mg) (base := base) (x := "unheard") F41 (ok_unheard T q_check_stakes F41) (PySem.W.mg_of X G a41) b41
  have q_check_word := Cal.mk' (P := l.prog) (w := w) (mg := mg) (base := base) (x := "check_word") F42 (ok_check_word T q_is_number F42) (PySem.W.mg_of X G a42) b42
  have q_best_deeds := Cal.mk' (P := l.prog) (w := w) (mg := mg) (base := base) (x := "best_deeds") F43 (ok_best_deeds T q_check_teller q_check_stakes_for q_check_word q_sums_at q_columns_of F43) (PySem.W.mg_of X G a43) b43
  have q_common_tellers := Cal.mk' (P := l.prog) (w := w) (mg := mg) (base := base) (x := "common_tellers") F44 (ok_common_tellers T q_divisor F44) (PySem.W.mg_of X G a44) b44
  have q_made := Cal.mk' (P := l.prog) (w := w) (mg := mg) (base := base) (x := "made") F45 (ok_made T q_common_tellers F45) (PySem.W.mg_of X G a45) b45
  have q_direction_of := Cal.mk' (P := l.prog) (w := w) (mg := mg) (base := base) (x := "direction_of") F46 (ok_direction_of T q_common_tellers F46) (PySem.W.mg_of X G a46) b46
  have q_plain_of := Cal.mk' (P := l.prog) (w := w) (mg := mg) (base := base) (x := "plain_of") F47 (ok_plain_of T q_made q_direction_of F47) (PySem.W.mg_of X G a47) b47
  have q_plain_told := Cal.mk' (P := l.prog) (w := w) (mg := mg) (base := base) (x := "plain_told") F48 (ok_plain_told T q_plain_of q_columns_of F48) (PySem.W.mg_of X G a48) b48
  have q_plain := Cal.mk' (P := l.prog) (w := w) (mg := mg) (base := base) (x := "plain") F49 (ok_plain T q_check_teller q_plain_told F49) (PySem.W.mg_of X G a49) b49
  exact ok_law T q_garbled q__law_less q__law_take q__law_teller q__law_stakes q_stakes_sum q_stakes_either q__law_worth q_worth q__law_sum q__law_garbler q_are_stakes q__law_columns q__law_sums q_unheard q_best_deeds q_plain q__law_begun F50
theorem walk {l : PySem.W.OpenLaw} {q : Program} {loose : List Str} {XP : (Str → Option Value) → Heap → Prop} {YP : World → Heap → Prop} {d : DefRec} {K : Params → PySem.W.Frag} (hn : l.most = some 63) (hdf : d.params.defaults = [])
    (hY : ∀ (w : World) (h : Heap), YP w h → (K w.params).In h)
    (F : ∀ (w : World) (mg : Str → Option Value) (fa : Addr) (h : Heap), (K w.params).In h → h.Ns mainGlobals mg → mg d.name = some (.ref fa) →
      ∃ fd : FuncData, (∀ (s : Shared) (u : Value), BindsTo s fd ⟨[u], []⟩ [("script", u)]) ∧ ∀ base : Heap, (K w.params).In base → base.Ns mainGlobals mg → FnOk l.prog w (K w.params) mg base CX0 7 fa fd ["script"] (spL (K w.params))) :
    PySem.W.WalkO q loose XP YP l.row.toRowW d [] (fun f vs => PySem.call f vs) :=
  L2.walk_of (n := 63) (k := 7) (x := "script") (CX := fun _ => CX0) (sp := fun w => spL (K w.params)) hn (by decide) hdf ⟨rfl, by decide, by decide⟩ hY F (fun _ _ a ns hl hO hS => ⟨a, ns, rfl, lk_of hO hS, hl, fun _ => rfl⟩) fun _ _ _ _ _ z => z
end J
open PySem PySem.W PyProof.Rows
set_option maxRecDepth 100000 in
set_option maxHeartbeats 0 in
theorem PySem.Challenge.cw_toldnoless_k90_whole_across_stakes_holds : PySem.Challenge.rw_toldnoless_k90_whole_across_stakes.Holds := by
  w_on; o_law; k_head; (case hw => w_witness2)
  k_fill
  refine J.walk (l := PySem.Challenge.rw_toldnoless_k90_whole_across_stakes) rfl rfl (fun w h Y => PySem.W.kIn_of Y) ?F
  case F =>
    intro w mg fa h KX G hmg
    refine' J.all_mk KX G hmg ?a0 ?l0 ?c0 ?k0 ?a1 ?l1 ?c1 ?k1 ?a2 ?l2 ?c2 ?k2 ?a3 ?l3 ?c3 ?k3 ?a4 ?l4 ?c4 ?k4 ?a5 ?l5 ?c5 ?k5 ?a6 ?l6 ?c6 ?k6 ?a7 ?l7 ?c7 ?k7 ?a8 ?l8 ?c8 ?k8 ?a9 ?l9 ?c9 ?k9 ?a10 ?l10 ?c10 ?k10 ?a11 ?l11 ?c11 ?k11 ?a12 ?l12 ?c12 ?k12 ?a13 ?l13 ?c13 ?k13 ?a14 ?l14 ?c14 ?k14 ?a15 ?l15 ?c15 ?k15 ?a16 ?l16 ?c16 ?k16 ?a17 ?l17 ?c17 ?k17 ?a18 ?l18 ?c18 ?k18 ?a19 ?l19 ?c19 ?k19 ?a20 ?l20 ?c20 ?k20 ?a21 ?l21 ?c21 ?k21 ?a22 ?l22 ?c22 ?k22 ?a23 ?l23 ?c23 ?k23 ?a24 ?l24 ?c24 ?k24 ?a25 ?l25 ?c25 ?k25 ?a26 ?l26 ?c26 ?k26 ?a27 ?l27 ?c27 ?k27 ?a28 ?l28 ?c28 ?k28 ?a29 ?l29 ?c29 ?k29 ?a30 ?l30 ?c30 ?k30 ?a31 ?l31 ?c31 ?k31 ?a32 ?l32 ?c32 ?k32 ?a33 ?l33 ?c33 ?k33 ?a34 ?l34 ?c34 ?k34 ?a35 ?l35 ?c35 ?k35 ?a36 ?l36 ?c36 ?k36 ?a37 ?l37 ?c37 ?k37 ?a38 ?l38 ?c38 ?k38 ?a39 ?l39 ?c39 ?k39 ?a40 ?l40 ?c40 ?k40 ?a41 ?l41 ?c41 ?k41 ?a42 ?l42 ?c42 ?k42 ?a43 ?l43 ?c43 ?k43 ?a44 ?l44 ?c44 ?k44 ?a45 ?l45 ?c45 ?k45 ?a46 ?l46 ?c46 ?k46 ?a47 ?l47 ?c47 ?k47 ?a48 ?l48 ?c48 ?k48 ?a49 ?l49 ?c49 ?k49 ?a50 ?l50 ?c50 ?k50 ?n0 ?n1 ?n2 ?n3 ?n4 ?n5 ?n6 ?n7 ?z0 ?z1 ?z2 ?z3 ?z4 ?z5 ?z6 ?z7 ?z8 ?z9 ?z10 ?z11 ?z12 ?z13 ?z14 ?z15 ?z16
    (case a0 => k_is)
    (case l0 => k_is)
    (case c0 => k_is)
    (case k0 => k_is)
    (case a1 => k_is)
    (case l1 => k_is)
    (case c1 => k_is)
    (case k1 => k_is)
    (case a2 => k_is)
    (case l2 => k_is)
    (case c2 => k_is)
    (case k2 => k_is)
    (case a3 => k_is)
    (case l3 => k_is)
    (case c3 => k_is)
    (case k3 => k_is)
    (case a4 => k_is)
    (case l4 => k_is)
    (case c4 => k_is)
    (case k4 => k_is)
    (case a5 => k_is)
    (case l5 => k_is)
    (case c5 => k_is)
    (case k5 => k_is)
    (case a6 => k_is)
    (case l6 => k_is)
    (case c6 => k_is)
    (case k6 => k_is)
    (case a7 => k_is)
    (case l7 => k_is)
    (case c7 => k_is)
    (case k7 => k_is)
    (case a8 => k_is)
    (case l8 => k_is)
    (case c8 => k_is)
    (case k8 => k_is)
    (case a9 => k_is)
    (case l9 => k_is)
    (case c9 => k_is)
    (case k9 => k_is)
    (case a10 => k_is)
    (case l10 => k_is)
    (case c10 => k_is)
    (case k10 => k_is)
    (case a11 => k_is)
    (case l11 => k_is)
    (case c11 => k_is)
    (case k11 => k_is)
    (case a12 => k_is)
    (case l12 => k_is)
    (case c12 => k_is)
    (case k12 => k_is)
    (case a13 => k_is)
    (case l13 => k_is)
    (case c13 => k_is)
    (case k13 => k_is)
    (case a14 => k_is)
    (case l14 => k_is)
    (case c14 => k_is)
    (case k14 => k_is)
    (case a15 => k_is)
    (case l15 => k_is)
    (case c15 => k_is)
    (case k15 => k_is)
    (case a16 => k_is)
    (case l16 => k_is)
    (case c16 => k_is)
    (case k16 => k_is)
    (case a17 => k_is)
    (case l17 => k_is)
    (case c17 => k_is)
    (case k17 => k_is)
    (case a18 => k_is)
    (case l18 => k_is)
    (case c18 => k_is)
    (case k18 => k_is)
    (case a19 => k_is)
    (case l19 => k_is)
    (case c19 => k_is)
    (case k19 => k_is)
    (case a20 => k_is)
    (case l20 => k_is)
    (case c20 => k_is)
    (case k20 => k_is)
    (case a21 => k_is)
    (case l21 => k_is)
    (case c21 => k_is)
    (case k21 => k_is)
    (case a22 => k_is)
    (case l22 => k_is)
    (case c22 => k_is)
    (case k22 => k_is)
    (case a23 => k_is)
    (case l23 => k_is)
    (case c23 => k_is)
    (case k23 => k_is)
    (case a24 => k_is)
    (case l24 => k_is)
    (case c24 => k_is)
    (case k24 => k_is)
    (case a25 => k_is)
    (case l25 => k_is)
    (case c25 => k_is)
    (case k25 => k_is)
    (case a26 => k_is)
    (case l26 => k_is)
    (case c26 => k_is)
    (case k26 => k_is)
    (case a27 => k_is)
    (case l27 => k_is)
    (case c27 => k_is)
    (case k27 => k_is)
    (case a28 => k_is)
    (case l28 => k_is)
    (case c28 => k_is)
    (case k28 => k_is)
    (case a29 => k_is)
    (case l29 => k_is)
    (case c29 => k_is)
    (case k29 => k_is)
    (case a30 => k_is)
    (case l30 => k_is)
    (case c30 => k_is)
    (case k30 => k_is)
    (case a31 => k_is)
    (case l31 => k_is)
    (case c31 => k_is)
    (case k31 => k_is)
    (case a32 => k_is)
    (case l32 => k_is)
    (case c32 => k_is)
    (case k32 => k_is)
    (case a33 => k_is)
    (case l33 => k_is)
    (case c33 => k_is)
    (case k33 => k_is)
    (case a34 => k_is)
    (case l34 => k_is)
    (case c34 => k_is)
    (case k34 => k_is)
    (case a35 => k_is)
    (case l35 => k_is)
    (case c35 => k_is)
    (case k35 => k_is)
    (case a36 => k_is)
    (case l36 => k_is)
    (case c36 => k_is)
    (case k36 => k_is)
    (case a37 => k_is)
    (case l37 => k_is)
    (case c37 => k_is)
    (case k37 => k_is)
    (case a38 => k_is)
    (case l38 => k_is)
    (case c38 => k_is)
    (case k38 => k_is)
    (case a39 => k_is)
    (case l39 => k_is)
    (case c39 => k_is)
    (case k39 => k_is)
    (case a40 => k_is)
    (case l40 => k_is)
    (case c40 => k_is)
    (case k40 => k_is)
    (case a41 => k_is)
    (case l41 => k_is)
    (case c41 => k_is)
    (case k41 => k_is)
    (case a42 => k_is)
    (case l42 => k_is)
    (case c42 => k_is)
    (case k42 => k_is)
    (case a43 => k_is)
    (case l43 => k_is)
    (case c43 => k_is)
    (case k43 => k_is)
    (case a44 => k_is)
    (case l44 => k_is)
    (case c44 => k_is)
    (case k44 => k_is)
    (case a45 => k_is)
    (case l45 => k_is)
    (case c45 => k_is)
    (case k45 => k_is)
    (case a46 => k_is)
    (case l46 => k_is)
    (case c46 => k_is)
    (case k46 => k_is)
    (case a47 => k_is)
    (case l47 => k_is)
    (case c47 => k_is)
    (case k47 => k_is)
    (case a48 => k_is)
    (case l48 => k_is)
    (case c48 => k_is)
    (case k48 => k_is)
    (case a49 => k_is)
    (case l49 => k_is)
    (case c49 => k_is)
    (case k49 => k_is)
    (case a50 => k_is)
    (case l50 => k_is)
    (case c50 => k_is)
    (case k50 => k_is)
    (case n0 => k_is)
    (case n1 => k_is)
    (case n2 => k_is)
    (case n3 => k_is)
    (case n4 => k_is)
    (case n5 => k_is)
    (case n6 => k_is)
    (case n7 => k_is)
    (case z0 => k_is)
    (case z1 => k_is)
    (case z2 => k_is)
    (case z3 => k_is)
    (case z4 => k_is)
    (case z5 => k_is)
    (case z6 => k_is)
    (case z7 => k_is)
    (case z8 => k_is)
    (case z9 => k_is)
    (case z10 => k_is)
    (case z11 => k_is)
    (case z12 => k_is)
    (case z13 => k_is)
    (case z14 => k_is)
    (case z15 => k_is)
    (case z16 => k_is)

