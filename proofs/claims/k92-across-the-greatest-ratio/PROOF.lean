import PyProof.Rows.All
import Wide.All
import OpenK.AllK
import Wide.FinOn
import HandS.ForMost
import HandS.Walk
import HandS.Zip
import HandS.Wide
import HandS.TupAny
import HandS.Style
import HandS.IsInst
import KE.KTupSum
import HandS.TupSets
import HandS.TupMul
import KE.KDictCopyH
import HandS.Conv
import PyProof.P3Eq
import HandS.DictComp
import HandS.Star
import PySem.Challenge.RW_toldnoless_k92_whole_across_the_greatest
set_option Elab.async false
set_option linter.all false
set_option maxRecDepth 100000
/-! J1: data D, what stands for it in the heap, the regime R, slots, the transformers E (expressions) and their rules. -/
namespace J
open PySem PySem.Spec L2

/-! ### data -/
inductive D where
  | non | bl (b : Bool) | int (i : Int) | str (x : Str) | tup (xs : List D) | lst (xs : List D) | hdl (a : Addr) | scr (ns : List Int)

def D.items : D → Option (List D)
  | .tup ds => some ds
  | .lst ds => some ds
  | _ => none
def D.isT : D → Bool
  | .tup _ => true
  | _ => false
/-- a list that will not change any more -/
def LF (_K : PySem.W.Frag) (H : Hp) (a : Addr) (xs : List V) : Prop := ∃ o, H a = some (.frz o (.lst xs))
theorem LF.sq {K : PySem.W.Frag} {H : Hp} {a : Addr} {xs : List V} (h : LF K H a xs) : SqL K H a xs := by
  obtain ⟨o, h⟩ := h
  exact .inl (.inr ⟨o, h⟩)
theorem LF.rd {K : PySem.W.Frag} {H : Hp} {a : Addr} {xs : List V} (h : LF K H a xs) : Rd H a (.lst xs) := .inr h

/-- a list that will not change any more, of the heap or of what is kept -/
def LK (K : PySem.W.Frag) (H : Hp) (a : Addr) (xs : List V) : Prop := LF K H a xs ∨ ∃ (o : Obj) (its : Array Value) (n : Nat), K.lookup a = some o ∧ o.cls = .type "list" ∧ o.dict = none ∧ o.data = .seq its n ∧ its.size ≤ sizeLine ∧ Vals xs its.toList
theorem LK.sq {K : PySem.W.Frag} {H : Hp} {a : Addr} {xs : List V} (h : LK K H a xs) : SqL K H a xs := by
  rcases h with h | h
  · exact h.sq
  · exact .inr h
mutual
inductive Den (K : PySem.W.Frag) (H : Hp) : D → V → Prop
  | non : Den K H .non .non
  | bl (b : Bool) : Den K H (.bl b) (.bl b)
  | int (i : Int) : Den K H (.int i) (.int i)
  | str (x : Str) : Den K H (.str x) (.str x)
  | tup {a : Addr} {xs : List V} {ds : List D} : H a = some (.tup xs) → Dens K H ds xs → Den K H (.tup ds) (.ref a)
  | lst {a : Addr} {xs : List V} {ds : List D} : LF K H a xs → Dens K H ds xs → Den K H (.lst ds) (.ref a)
  | hdl (a : Addr) : Den K H (.hdl a) (.ref a)
  | scr {a : Addr} {ns : List Int} : LK K H a (ns.map V.int) → Den K H (.scr ns) (.ref a)
inductive Dens (K : PySem.W.Frag) (H : Hp) : List D → List V → Prop
  | nil : Dens K H [] []
  | cons {d : D} {v : V} {ds : List D} {vs : List V} : Den K H d v → Dens K H ds vs → Dens K H (d :: ds) (v :: vs)
end

/-- what never changes is as it was -/
structure Ext (H H' : Hp) : Prop where
  tup : ∀ a xs, H a = some (.tup xs) → H' a = some (.tup xs)
  frz : ∀ a o u, H a = some (.frz o u) → H' a = some (.frz o u)
theorem Ext.refl {H : Hp} : Ext H H := ⟨fun _ _ h => h, fun _ _ _ h => h⟩
theorem Ext.trans {H H1 H2 : Hp} (a : Ext H H1) (b : Ext H1 H2) : Ext H H2 := ⟨fun c xs h => b.tup c xs (a.tup c xs h), fun c o u h => b.frz c o u (a.frz c o u h)⟩
theorem Ext.sqT {K : PySem.W.Frag} {H H' : Hp} (e : Ext H H') {a : Addr} {xs : List V} (h : SqT K H a xs) : SqT K H' a xs := by
  rcases h with (h | ⟨o, h⟩) | h
  · exact .inl (.inl (e.tup _ _ h))
  · exact .inl (.inr ⟨o, e.frz _ _ _ h⟩)
  · exact .inr h
theorem Ext.lf {K : PySem.W.Frag} {H H' : Hp} (e : Ext H H') {a : Addr} {xs : List V} (h : LF K H a xs) : LF K H' a xs := by
  obtain ⟨o, h⟩ := h
  exact ⟨o, e.frz _ _ _ h⟩
theorem Ext.lk {K : PySem.W.Frag} {H H' : Hp} (e : Ext H H') {a : Addr} {xs : List V} (h : LK K H a xs) : LK K H' a xs := by
  rcases h with h | h
  · exact .inl (e.lf h)
  · exact .inr h
section
variable {K : PySem.W.Frag} {H H' : Hp}
mutual
theorem Den.ext (e : Ext H H') : ∀ {d : D} {v : V}, Den K H d v → Den K H' d v
  | _, _, .non => .non
  | _, _, .bl b => .bl b
  | _, _, .int i => .int i
  | _, _, .str x => .str x
  | _, _, .tup h hs => .tup (e.tup _ _ h) (Dens.ext e hs)
  | _, _, .lst h hs => .lst (e.lf h) (Dens.ext e hs)
  | _, _, .hdl a => .hdl a
  | _, _, .scr h => .scr (e.lk h)
theorem Dens.ext (e : Ext H H') : ∀ {ds : List D} {vs : List V}, Dens K H ds vs → Dens K H' ds vs
  | _, _, .nil => .nil
  | _, _, .cons h hs => .cons (Den.ext e h) (Dens.ext e hs)
end
theorem Dens.len : ∀ {ds : List D} {vs : List V}, Dens K H ds vs → ds.length = vs.length
  | _, _, .nil => rfl
  | _, _, .cons _ hs => by rw [List.length_cons, List.length_cons, hs.len]
theorem Dens.get : ∀ {ds : List D} {vs : List V} {i : Nat} {d : D}, Dens K H ds vs → ds[i]? = some d → ∃ v, vs[i]? = some v ∧ Den K H d v
  | _, _, _, _, .nil, e => by simp at e
  | _, _, 0, _, .cons h _, e => by simp at e; subst e; exact ⟨_, rfl, h⟩
  | _, _, i + 1, d, .cons _ hs, e => by
    obtain ⟨v, h1, h2⟩ := Dens.get (i := i) (d := d) hs (by simpa using e)
    exact ⟨v, by simpa using h1, h2⟩
theorem Dens.getV : ∀ {ds : List D} {vs : List V} {i : Nat} {v : V}, Dens K H ds vs → vs[i]? = some v → ∃ d, ds[i]? = some d ∧ Den K H d v
  | _, _, _, _, .nil, e => by simp at e
  | _, _, 0, _, .cons h _, e => by simp at e; subst e; exact ⟨_, rfl, h⟩
  | _, _, i + 1, v, .cons _ hs, e => by
    obtain ⟨d, h1, h2⟩ := Dens.getV (i := i) (v := v) hs (by simpa using e)
    exact ⟨d, by simpa using h1, h2⟩
theorem Dens.app : ∀ {ds es : List D} {vs us : List V}, Dens K H ds vs → Dens K H es us → Dens K H (ds ++ es) (vs ++ us)
  | _, _, _, _, .nil, h => h
  | _, _, _, _, .cons h hs, h' => .cons h (hs.app h')
theorem Dens.take : ∀ {ds : List D} {vs : List V} (n : Nat), Dens K H ds vs → Dens K H (ds.take n) (vs.take n)
  | _, _, 0, _ => .nil
  | _, _, _ + 1, .nil => .nil
  | _, _, n + 1, .cons h hs => .cons h (hs.take n)
theorem Dens.drop : ∀ {ds : List D} {vs : List V} (n : Nat), Dens K H ds vs → Dens K H (ds.drop n) (vs.drop n)
  | _, _, 0, h => h
  | _, _, _ + 1, .nil => .nil
  | _, _, n + 1, .cons _ hs => hs.drop n
theorem Dens.setD : ∀ {ds : List D} {vs : List V} (i : Nat) {d : D} {v : V}, Dens K H ds vs → Den K H d v → Dens K H (ds.set i d) (vs.set i v)
  | _, _, _, _, _, .nil, _ => .nil
  | _, _, 0, _, _, .cons _ hs, h' => .cons h' hs
  | _, _, i + 1, _, _, .cons h hs, h' => .cons h (hs.setD i h')
theorem Dens.erase : ∀ {ds : List D} {vs : List V} (i : Nat), Dens K H ds vs → Dens K H (ds.eraseIdx i) (vs.eraseIdx i)
  | _, _, _, .nil => .nil
  | _, _, 0, .cons _ hs => hs
  | _, _, i + 1, .cons h hs => .cons h (hs.erase i)
theorem Dens.rep : ∀ {ds : List D} {vs : List V} (k : Nat), Dens K H ds vs → Dens K H (List.replicate k ds).flatten (List.replicate k vs).flatten
  | _, _, 0, _ => .nil
  | ds, vs, k + 1, h => by
    rw [List.replicate_succ, List.replicate_succ, List.flatten_cons, List.flatten_cons]
    exact h.app (h.rep k)
theorem Dens.rev : ∀ {ds : List D} {vs : List V}, Dens K H ds vs → Dens K H ds.reverse vs.reverse
  | _, _, .nil => .nil
  | _, _, .cons h hs => by
    rw [List.reverse_cons, List.reverse_cons]
    exact hs.rev.app (.cons h .nil)
theorem Dens.ints : ∀ {ns : List Int} {vs : List V}, Dens K H (ns.map D.int) vs → vs = ns.map V.int
  | [], _, .nil => rfl
  | _ :: _, _, .cons (.int _) hs => by rw [List.map_cons, hs.ints]
theorem Dens.bls : ∀ {ns : List Bool} {vs : List V}, Dens K H (ns.map D.bl) vs → vs = ns.map V.bl
  | [], _, .nil => rfl
  | _ :: _, _, .cons (.bl _) hs => by rw [List.map_cons, hs.bls]
theorem Dens.strs : ∀ {ns : List Str} {vs : List V}, Dens K H (ns.map D.str) vs → vs = ns.map V.str
  | [], _, .nil => rfl
  | _ :: _, _, .cons (.str _) hs => by rw [List.map_cons, hs.strs]
end

/-! ### the regime: which objects may change (a draw's dict), what holds of them -/
def Mu : HO → Prop
  | .tup _ => False
  | .frz _ _ => False
  | _ => True
structure Rg (T : Type) where
  K : PySem.W.Frag
  H0 : Hp
  t0 : T
  Vol : T → Addr → Prop
  Gd : T → Hp → Prop
  kind : ∀ t H a, Gd t H → Vol t a → ∃ o, H a = some o ∧ Mu o
  dep : ∀ t H H', Gd t H → Ext H H' → (∀ a, Vol t a → H' a = H a) → Gd t H'
/-- nothing but what may change is touched -/
structure Rg.Step {T : Type} (R : Rg T) (t : T) (H : Hp) (t' : T) (H' : Hp) : Prop where
  st : ∀ a o, H a = some o → ¬ R.Vol t a → H' a = some o
  up : ∀ a, R.Vol t a → H' a ≠ none
  dn : ∀ a, R.Vol t' a → R.Vol t a ∨ H a = none
structure Rg.Go {T : Type} (R : Rg T) (t : T) (H : Hp) (t' : T) (H' : Hp) : Prop where
  st : R.Step t H t' H'
  gd : R.Gd t' H'
def Rg.pure (K : PySem.W.Frag) (H : Hp) : Rg Unit := ⟨K, H, (), fun _ _ => False, fun _ _ => True, fun _ _ _ _ h => h.elim, fun _ _ _ _ _ _ => trivial⟩
theorem Rg.pure_same {K : PySem.W.Frag} {H0 H H' : Hp} {t t' : Unit} (h : (Rg.pure K H0).Step t H t' H') : Same H H' := fun a o e => h.st a o e fun z => z
section
variable {T : Type} {R : Rg T} {t t' t1 t2 : T} {H H' H1 H2 : Hp} {p : Addr} {o : HO}
theorem Rg.there (gd : R.Gd t H) {a : Addr} (v : R.Vol t a) : H a ≠ none := by
  obtain ⟨o, e, _⟩ := R.kind t H a gd v
  rw [e]; exact fun z => nomatch z
theorem Rg.Step.refl (gd : R.Gd t H) : R.Step t H t H := ⟨fun _ _ h _ => h, fun _ h => Rg.there gd h, fun _ h => .inl h⟩
theorem Rg.Step.trans (a : R.Step t H t1 H1) (b : R.Step t1 H1 t2 H2) : R.Step t H t2 H2 := by
  refine ⟨fun c o h n => b.st c o (a.st c o h n) fun v => ?_, fun c h => ?_, fun c h => ?_⟩
  · rcases a.dn c v with v | v
    · exact n v
    · rw [h] at v; cases v
  · by_cases v : R.Vol t1 c
    · exact b.up c v
    · cases q : H1 c with
      | none => exact absurd q (a.up c h)
      | some o => rw [b.st c o q v]; exact fun z => nomatch z
  · rcases b.dn c h with h | h
    · exact a.dn c h
    · by_cases v : R.Vol t c
      · exact .inl v
      · refine .inr ?_
        cases q : H c with
        | none => rfl
        | some o => rw [a.st c o q v] at h; cases h
theorem Rg.Step.ext (gd : R.Gd t H) (h : R.Step t H t' H') : Ext H H' := by
  refine ⟨fun a xs e => h.st a _ e fun v => ?_, fun a o u e => h.st a _ e fun v => ?_⟩
  · obtain ⟨o, e', m⟩ := R.kind t H a gd v
    rw [e] at e'; cases e'; exact m
  · obtain ⟨o', e', m⟩ := R.kind t H a gd v
    rw [e] at e'; cases e'; exact m
theorem Rg.Go.refl (gd : R.Gd t H) : R.Go t H t H := ⟨.refl gd, gd⟩
theorem Rg.Go.trans (a : R.Go t H t1 H1) (b : R.Go t1 H1 t2 H2) : R.Go t H t2 H2 := ⟨a.st.trans b.st, b.gd⟩
theorem Rg.Go.new (gd : R.Gd t H) (n : H p = none) : R.Go t H t (upd H p o) := by
  have x : Ext H (upd H p o) := ⟨fun a xs e => by rw [upd_ne (ne_of_none e n)]; exact e, fun a ob u e => by rw [upd_ne (ne_of_none e n)]; exact e⟩
  have k : ∀ a, R.Vol t a → upd H p o a = H a := fun a v => by
    obtain ⟨u, e, _⟩ := R.kind t H a gd v
    rw [upd_ne (ne_of_none e n)]
  exact ⟨⟨fun a u e _ => by rw [upd_ne (ne_of_none e n)]; exact e, fun a h => by rw [k a h]; exact Rg.there gd h, fun _ h => .inl h⟩, R.dep t H _ gd x k⟩
theorem Rg.Go.same (gd : R.Gd t H) (h : Same H H') : R.Go t H t H' := by
  have k : ∀ a, R.Vol t a → H' a = H a := fun a v => by
    obtain ⟨u, e, _⟩ := R.kind t H a gd v
    rw [e, h a u e]
  exact ⟨⟨fun a u e _ => h a u e, fun a v => by rw [k a v]; exact Rg.there gd v, fun _ h => .inl h⟩, R.dep t H _ gd ⟨fun a xs e => h a _ e, fun a ob u e => h a _ e⟩ k⟩
theorem Rg.Go.ext (gd : R.Gd t H) (h : R.Go t H t' H') : Ext H H' := h.st.ext gd
theorem not_vol (gd : R.Gd t H) (n : H p = none) : ¬ R.Vol t p := fun v => by
  obtain ⟨o, e, _⟩ := R.kind t H p gd v
  rw [n] at e; cases e
theorem none_of_step (g : R.Step t H t' H') (n : H' p = none) : H p = none := by
  cases q : H p with
  | none => rfl
  | some o =>
    by_cases v : R.Vol t p
    · exact absurd n (g.up p v)
    · have := g.st p o q v
      rw [n] at this; cases this
theorem none_of_go (g : R.Go t H t' H') (n : H' p = none) : H p = none := none_of_step g.st n
theorem Rg.Step.nvol (g : R.Step t H t' H') (h : H p ≠ none) (n : ¬ R.Vol t p) : ¬ R.Vol t' p := fun v => (g.dn p v).elim n h
end

/-! ### slots -/
inductive Sl where
  | no | val (d : D) | own (ds : List D) | dct (kvs : List (List Int × D))
/-- what a dict with tuples of ints as keys holds -/
inductive DK (K : PySem.W.Frag) (H : Hp) : List (List Int × D) → List (List Key × V) → Prop
  | nil : DK K H [] []
  | cons {k : List Int} {d : D} {v : V} {kvs : List (List Int × D)} {us : List (List Key × V)} : Den K H d v → DK K H kvs us → DK K H ((k, d) :: kvs) ((k.map Sum.inl, v) :: us)
theorem DK.ext {K : PySem.W.Frag} {H H' : Hp} (e : Ext H H') : ∀ {kvs : List (List Int × D)} {us : List (List Key × V)}, DK K H kvs us → DK K H' kvs us
  | _, _, .nil => .nil
  | _, _, .cons h hs => .cons (h.ext e) (hs.ext e)
abbrev Env := List Sl
structure EnvOk {T : Type} (R : Rg T) (t : T) (H : Hp) (σ : St) (ρ : Env) : Prop where
  gd : R.Gd t H
  st : R.Step R.t0 R.H0 t H
  len : ρ.length = σ.length
  val : ∀ (i : Nat) (d : D), ρ[i]? = some (.val d) → ∃ v, σ[i]? = some (some v) ∧ Den R.K H d v
  own : ∀ (i : Nat) (ds : List D), ρ[i]? = some (.own ds) → ∃ p vs, σ[i]? = some (some (.ref p)) ∧ H p = some (.lst vs) ∧ Dens R.K H ds vs ∧ R.H0 p = none ∧ ¬ R.Vol t p
  inj : ∀ (i j : Nat) (ds es : List D) (p : Addr), ρ[i]? = some (.own ds) → ρ[j]? = some (.own es) → σ[i]? = some (some (.ref p)) → σ[j]? = some (some (.ref p)) → i = j
  dct : ∀ (i : Nat) (kvs : List (List Int × D)), ρ[i]? = some (.dct kvs) → ∃ p us, σ[i]? = some (some (.ref p)) ∧ H p = some (.dT us) ∧ DK R.K H kvs us ∧ R.H0 p = none ∧ ¬ R.Vol t p
  injd : ∀ (i j : Nat) (ds es : List (List Int × D)) (p : Addr), ρ[i]? = some (.dct ds) → ρ[j]? = some (.dct es) → σ[i]? = some (some (.ref p)) → σ[j]? = some (some (.ref p)) → i = j
section
variable {T : Type} {R : Rg T} {t t' : T} {H H' : Hp} {σ : St} {ρ : Env}
theorem EnvOk.go (e : EnvOk R t H σ ρ) (g : R.Go t H t' H') : EnvOk R t' H' σ ρ := by
  have x := g.ext e.gd
  refine ⟨g.gd, e.st.trans g.st, e.len, fun i d h => ?_, fun i ds h => ?_, e.inj, fun i ds h => ?_, e.injd⟩
  · obtain ⟨v, h1, h2⟩ := e.val i d h
    exact ⟨v, h1, h2.ext x⟩
  · obtain ⟨p, vs, h1, h2, h3, h4, h5⟩ := e.own i ds h
    exact ⟨p, vs, h1, g.st.st p _ h2 h5, h3.ext x, h4, g.st.nvol (by rw [h2]; exact fun z => nomatch z) h5⟩
  · obtain ⟨p, vs, h1, h2, h3, h4, h5⟩ := e.dct i ds h
    exact ⟨p, vs, h1, g.st.st p _ h2 h5, h3.ext x, h4, g.st.nvol (by rw [h2]; exact fun z => nomatch z) h5⟩
/-- a slot gets a value -/
theorem EnvOk.set (e : EnvOk R t H σ ρ) (i : Nat) {d : D} {v : V} (h : Den R.K H d v) : EnvOk R t H (σ.set i (some v)) (ρ.set i (.val d)) := by
  have key : ∀ {j : Nat} {x : Sl}, (ρ.set i (.val d))[j]? = some x → (∀ d', x ≠ .val d') → i ≠ j ∧ ρ[j]? = some x := fun {j x} hj hx => by
    by_cases hij : i = j
    · subst hij
      by_cases hl : i < ρ.length
      · rw [List.getElem?_set_self hl] at hj; cases hj; exact absurd rfl (hx d)
      · rw [List.getElem?_eq_none (by rw [List.length_set]; omega)] at hj; cases hj
    · rw [List.getElem?_set_ne hij] at hj
      exact ⟨hij, hj⟩
  refine ⟨e.gd, e.st, by rw [List.length_set, List.length_set]; exact e.len, fun j d' hj => ?_, fun j ds hj => ?_, fun j k ds es p h1 h2 h3 h4 => ?_, fun j ds hj => ?_, fun j k ds es p h1 h2 h3 h4 => ?_⟩
  · by_cases hij : i = j
    · subst hij
      by_cases hl : i < ρ.length
      · rw [List.getElem?_set_self hl] at hj; cases hj
        exact ⟨v, by rw [List.getElem?_set_self (by rw [← e.len]; exact hl)], h⟩
      · rw [List.getElem?_eq_none (by rw [List.length_set]; omega)] at hj; cases hj
    · rw [List.getElem?_set_ne hij] at hj ⊢
      exact e.val j d' hj
  · obtain ⟨hij, hj⟩ := key hj (by intro _ z; cases z)
    rw [List.getElem?_set_ne hij]
    exact e.own j ds hj
  · obtain ⟨n1, h1⟩ := key h1 (by intro _ z; cases z)
    obtain ⟨n2, h2⟩ := key h2 (by intro _ z; cases z)
    rw [List.getElem?_set_ne n1] at h3
    rw [List.getElem?_set_ne n2] at h4
    exact e.inj j k ds es p h1 h2 h3 h4
  · obtain ⟨hij, hj⟩ := key hj (by intro _ z; cases z)
    rw [List.getElem?_set_ne hij]
    exact e.dct j ds hj
  · obtain ⟨n1, h1⟩ := key h1 (by intro _ z; cases z)
    obtain ⟨n2, h2⟩ := key h2 (by intro _ z; cases z)
    rw [List.getElem?_set_ne n1] at h3
    rw [List.getElem?_set_ne n2] at h4
    exact e.injd j k ds es p h1 h2 h3 h4
/-- slots forgotten -/
theorem EnvOk.weak (e : EnvOk R t H σ ρ) {σ' : St} {ρ' : Env} (hl : ρ'.length = σ'.length) (h : ∀ (i : Nat) (x : Sl), ρ'[i]? = some x → x = .no ∨ (ρ[i]? = some x ∧ σ'[i]? = σ[i]?)) : EnvOk R t H σ' ρ' := by
  have key : ∀ {i : Nat} {x : Sl}, ρ'[i]? = some x → x ≠ .no → ρ[i]? = some x ∧ σ'[i]? = σ[i]? := fun {i x} h1 n => (h i x h1).resolve_left n
  refine ⟨e.gd, e.st, hl, fun i d hi => ?_, fun i ds hi => ?_, fun i j ds es p h1 h2 h3 h4 => ?_, fun i ds hi => ?_, fun i j ds es p h1 h2 h3 h4 => ?_⟩
  · obtain ⟨a, b⟩ := key hi (by intro z; cases z)
    rw [b]; exact e.val i d a
  · obtain ⟨a, b⟩ := key hi (by intro z; cases z)
    rw [b]; exact e.own i ds a
  · obtain ⟨a1, b1⟩ := key h1 (by intro z; cases z)
    obtain ⟨a2, b2⟩ := key h2 (by intro z; cases z)
    rw [b1] at h3
    rw [b2] at h4
    exact e.inj i j ds es p a1 a2 h3 h4
  · obtain ⟨a, b⟩ := key hi (by intro z; cases z)
    rw [b]; exact e.dct i ds a
  · obtain ⟨a1, b1⟩ := key h1 (by intro z; cases z)
    obtain ⟨a2, b2⟩ := key h2 (by intro z; cases z)
    rw [b1] at h3
    rw [b2] at h4
    exact e.injd i j ds es p a1 a2 h3 h4
end
/-- the own names of a comprehension forgotten -/
def wipeE (ρ : Env) : List Nat → Env
  | [] => ρ
  | v :: vs => (wipeE ρ vs).set v .no
theorem wipeE_len (ρ : Env) : ∀ vs : List Nat, (wipeE ρ vs).length = ρ.length
  | [] => rfl
  | v :: vs => by unfold wipeE; rw [List.length_set, wipeE_len ρ vs]
theorem wipeE_ok {T : Type} {R : Rg T} {t : T} {H : Hp} : ∀ (vs : List Nat) {σ : St} {ρ : Env}, EnvOk R t H σ ρ → EnvOk R t H (wipe σ vs) (wipeE ρ vs)
  | [], _, _, e => e
  | v :: vs, σ, ρ, e => by
    have ih := wipeE_ok (R := R) (t := t) (H := H) vs e
    unfold wipe wipeE
    refine ih.weak (by rw [List.length_set, List.length_set]; exact ih.len) fun i x h => ?_
    by_cases hv : v = i
    · subst hv
      by_cases hl : v < (wipeE ρ vs).length
      · rw [List.getElem?_set_self hl] at h; cases h; exact .inl rfl
      · rw [List.getElem?_eq_none (by rw [List.length_set]; omega)] at h; cases h
    · rw [List.getElem?_set_ne hv] at h
      exact .inr ⟨h, by rw [List.getElem?_set_ne hv]⟩
theorem wipe_set {σ : St} {i : Nat} {x : Option V} : ∀ {vs : List Nat}, i ∈ vs → wipe (σ.set i x) vs = wipe σ vs
  | v :: vs, h => by
    unfold wipe
    by_cases hi : i ∈ vs
    · rw [wipe_set hi]
    · have e : i = v := by
        rcases List.mem_cons.mp h with h | h
        · exact h
        · exact absurd h hi
      subst e
      have : ∀ (vs : List Nat), i ∉ vs → wipe (σ.set i x) vs = (wipe σ vs).set i x := by
        intro vs
        induction vs with
        | nil => intro _; rfl
        | cons w ws ih =>
          intro hn
          unfold wipe
          rw [ih (fun z => hn (List.mem_cons_of_mem _ z)), List.set_comm _ _ (fun z => hn (by rw [← z]; exact List.mem_cons_self))]
      rw [this vs hi, List.set_set]
theorem wipe_wipe (σ : St) : ∀ vs : List Nat, wipe (wipe σ vs) vs = wipe σ vs := by
  have key : ∀ (us vs : List Nat), (∀ u ∈ us, u ∈ vs) → wipe (wipe σ us) vs = wipe σ vs := by
    intro us
    induction us with
    | nil => intro vs _; rfl
    | cons u us ih =>
      intro vs h
      show wipe ((wipe σ us).set u none) vs = wipe σ vs
      rw [wipe_set (h u List.mem_cons_self)]
      exact ih vs fun w hw => h w (List.mem_cons_of_mem _ hw)
  exact fun vs => key vs vs fun _ h => h

/-! ### expressions -/
abbrev W (T : Type) := Env → (D → T → Prop) → T → Prop
def E {T : Type} (R : Rg T) (w : W T) : TE := fun σ H Q => ∃ ρ t Φ, EnvOk R t H σ ρ ∧ w ρ Φ t ∧ ∀ H' t' v d, R.Go t H t' H' → Den R.K H' d v → Φ d t' → Q v H'
abbrev WB (T : Type) := Env → (Bool → T → Prop) → T → Prop
def EB {T : Type} (R : Rg T) (w : WB T) : TT := fun σ H Q => ∃ ρ t Φ, EnvOk R t H σ ρ ∧ w ρ Φ t ∧ ∀ H' t' b, R.Go t H t' H' → Φ b t' → Q b H'
abbrev WA (T : Type) := Env → (List D → T → Prop) → T → Prop
def EA {T : Type} (R : Rg T) (w : WA T) : TA := fun σ H Q => ∃ ρ t Φ, EnvOk R t H σ ρ ∧ w ρ Φ t ∧ ∀ H' t' vs ds, R.Go t H t' H' → Dens R.K H' ds vs → Φ ds t' → Q vs H'
theorem PE_imp {X : Cx} {e : Expr} {t t' : TE} (h : PE X e t) (i : ∀ σ H Q, t' σ H Q → t σ H Q) : PE X e t' := ⟨fun pins s σ H Q I q => h.run pins s σ H Q I (i σ H Q q)⟩
theorem PT_imp {X : Cx} {e : Expr} {t t' : TT} (h : PT X e t) (i : ∀ σ H Q, t' σ H Q → t σ H Q) : PT X e t' := ⟨fun pins s σ H Q I q => h.run pins s σ H Q I (i σ H Q q)⟩
theorem PA_imp {X : Cx} {e : List Expr} {t t' : TA} (h : PA X e t) (i : ∀ σ H Q, t' σ H Q → t σ H Q) : PA X e t' := ⟨fun pos pins s σ H Q I q => h.run pos pins s σ H Q I (i σ H Q q)⟩
theorem PS_imp {X : Cx} {e : Stmt} {t t' : TS} (h : PS X e t) (i : ∀ D σ H, t' D σ H → t D σ H) : PS X e t' := ⟨fun pins s σ H D I q => h.run pins s σ H D I (i D σ H q)⟩
theorem PSs_imp {X : Cx} {e : List Stmt} {t t' : TS} (h : PSs X e t) (i : ∀ D σ H, t' D σ H → t D σ H) : PSs X e t' := ⟨fun pins s σ H D I q => h.run pins s σ H D I (i D σ H q)⟩
theorem PI_imp {X : Cx} {tg e : Expr} {t t' : TI} (h : PI X tg e t) (i : ∀ σ H Q, t' σ H Q → t σ H Q) : PI X tg e t' := ⟨fun pins s σ H Q I q => h.run pins s σ H Q I (i σ H Q q)⟩

section
variable {T : Type} {X : Cx} {R : Rg T} {pos : Pos}
/-! names and constants -/
def wName (i : Nat) : W T := fun ρ Φ t => ∃ d, ρ[i]? = some (.val d) ∧ Φ d t
theorem E_name {i : Nat} {e : Expr} (h : PE X e (tVar i)) : PE X e (E R (wName i)) := PE_imp h fun σ H Q ⟨ρ, t, Φ, ok, ⟨d, hd, q⟩, k⟩ => by
  obtain ⟨v, hv, hD⟩ := ok.val i d hd
  exact ⟨v, hv, k H _ v d (.refl ok.gd) hD q⟩
def wC (d : D) : W T := fun _ Φ => Φ d
theorem E_c {d : D} {v : V} {e : Expr} (h : PE X e (tC v)) (hd : ∀ H, Den R.K H d v) : PE X e (E R (wC d)) := PE_imp h fun σ H Q ⟨ρ, t, Φ, ok, q, k⟩ => k H _ v d (.refl ok.gd) (hd H) q
theorem E_int {i : Int} {j : Nat} : PE X (.Constant (.int i) j pos) (E R (wC (.int i))) := E_c pe_int fun _ => .int i
theorem E_bl {i : Bool} {j : Nat} : PE X (.Constant (.bool i) j pos) (E R (wC (.bl i))) := E_c pe_bl fun _ => .bl i
theorem E_str {i : Str} {j : Nat} : PE X (.Constant (.str i) j pos) (E R (wC (.str i))) := E_c pe_str fun _ => .str i
theorem E_non {j : Nat} : PE X (.Constant .none j pos) (E R (wC .non)) := E_c pe_non fun _ => .non

/-! operators, by their rules on data -/
/-- the rule r does what f says, on any heap -/
def Op2 (R : Rg T) (r : R2) (f : D → D → (D → Prop) → Prop) : Prop := ∀ t H x y dx dy Φ (Q : VK), R.Gd t H → Den R.K H dx x → Den R.K H dy y → f dx dy Φ → (∀ H' v d, R.Go t H t H' → Den R.K H' d v → Φ d → Q v H') → r x y H Q
def wBin (f : D → D → (D → Prop) → Prop) (wa wb : W T) : W T := fun ρ Φ => wa ρ fun x => wb ρ fun y t => f x y fun d => Φ d t
variable {a b c : Expr} {wa wb wc : W T}
theorem tOp_E {r : R2} {f : D → D → (D → Prop) → Prop} (hf : Op2 R r f) : ∀ σ H Q, E R (wBin f wa wb) σ H Q → tOp r (E R wa) (E R wb) σ H Q := fun σ H Q ⟨ρ, t, Φ, ok, q, k⟩ => by
  refine ⟨ρ, t, _, ok, q, fun H1 t1 v1 d1 g1 D1 q1 => ?_⟩
  refine ⟨ρ, t1, _, ok.go g1, q1, fun H2 t2 v2 d2 g2 D2 q2 => ?_⟩
  exact hf t2 H2 v1 v2 d1 d2 _ Q g2.gd (D1.ext (g2.ext g1.gd)) D2 q2 fun H3 v d g3 hD hq => k H3 _ v d (g1.trans (g2.trans g3)) hD hq
theorem E_bin {op : Operator} {r : R2} {f : D → D → (D → Prop) → Prop} (ho : OpR X (binaryOp op) r) (hf : Op2 R r f) (ha : PE X a (E R wa)) (hb : PE X b (E R wb)) : PE X (.BinOp a op b pos) (E R (wBin f wa wb)) :=
  PE_imp (pe_op ho ha hb) (tOp_E hf)
theorem E_cmp {op : CmpOp} {r : R2} {f : D → D → (D → Prop) → Prop} (ho : OpR X (compareOp op) r) (hf : Op2 R r f) (ha : PE X a (E R wa)) (hb : PE X b (E R wb)) (hm : behindInMarks op b = false) : PE X (.Compare a [op] [b] pos) (E R (wBin f wa wb)) :=
  PE_imp (pe_cmpR ho ha hb hm) (tOp_E hf)
def wB (w : W T) : WB T := fun ρ Φ => w ρ fun d t => ∃ k, d = .bl k ∧ Φ k t
theorem tTest_E {w : W T} {te : TE} (h : ∀ σ H Q, E R w σ H Q → te σ H Q) : ∀ σ H Q, EB R (wB w) σ H Q → tTest te σ H Q := fun σ H Q ⟨ρ, t, Φ, ok, q, k⟩ => by
  refine h σ H _ ⟨ρ, t, _, ok, q, fun H1 t1 v d g hD hq => ?_⟩
  obtain ⟨c, rfl, hq⟩ := hq
  cases hD
  exact ⟨c, rfl, k H1 _ c g hq⟩
theorem EB_cmp {op : CmpOp} {r : R2} {f : D → D → (D → Prop) → Prop} (ho : OpR X (compareOp op) r) (hf : Op2 R r f) (ha : PE X a (E R wa)) (hb : PE X b (E R wb)) (hm : behindInMarks op b = false) : PT X (.Compare a [op] [b] pos) (EB R (wB (wBin f wa wb))) :=
  PT_imp (pt_cmpR ho ha hb hm) (tTest_E (tOp_E hf))
/-- any expression that gives a bool, as a test -/
theorem EB_val {e : Expr} {w : W T} (h : PE X e (E R w)) (he : ∀ whole, isTrue e X.env whole = (do let v ← whole; standAt e.pos; holding [v] (truthy v)) := by intro _; rfl) : PT X e (EB R (wB w)) :=
  PT_imp (pt_val h he) fun σ H Q ⟨ρ, t, Φ, ok, q, k⟩ => ⟨ρ, t, _, ok, q, fun H1 t1 v d g hD hq => by
    obtain ⟨c, rfl, hq⟩ := hq
    cases hD
    exact ⟨c, rfl, k H1 _ c g hq⟩⟩
variable {ta tb : WB T} {rest : List Expr}
def wNotT (w : WB T) : WB T := fun ρ Φ => w ρ fun k => Φ (!k)
theorem EB_not (h : PT X a (EB R ta)) : PT X (.UnaryOp .Not a pos) (EB R (wNotT ta)) := PT_imp (pt_not h) fun σ H Q ⟨ρ, t, Φ, ok, q, k⟩ => ⟨ρ, t, _, ok, q, fun H1 t1 c g hq => k H1 _ _ g hq⟩
def wAndT (wa wb : WB T) : WB T := fun ρ Φ => wa ρ fun k t => if k = true then wb ρ Φ t else Φ false t
def wOrT (wa wb : WB T) : WB T := fun ρ Φ => wa ρ fun k t => if k = true then Φ true t else wb ρ Φ t
theorem PW_imp {X : Cx} {e : Expr} {t t' : TT} (h : PW X e t) (i : ∀ σ H Q, t' σ H Q → t σ H Q) : PW X e t' := ⟨fun wh pins s σ H Q I q => h.run wh pins s σ H Q I (i σ H Q q)⟩
theorem EB_and (h : PT X a (EB R ta)) (hr : PW X (.BoolOp .And (b :: rest) pos) (EB R tb)) : PW X (.BoolOp .And (a :: b :: rest) pos) (EB R (wAndT ta tb)) := PW_imp (pw_and h hr) fun σ H Q ⟨ρ, t, Φ, ok, q, k⟩ =>
  ⟨ρ, t, _, ok, q, fun H1 t1 c g hq => by
    cases c with
    | true => exact ⟨ρ, t1, Φ, ok.go g, hq, fun H2 t2 d g2 q2 => k H2 _ d (g.trans g2) q2⟩
    | false => exact k H1 _ _ g hq⟩
theorem EB_or (h : PT X a (EB R ta)) (hr : PW X (.BoolOp .Or (b :: rest) pos) (EB R tb)) : PW X (.BoolOp .Or (a :: b :: rest) pos) (EB R (wOrT ta tb)) := PW_imp (pw_or h hr) fun σ H Q ⟨ρ, t, Φ, ok, q, k⟩ =>
  ⟨ρ, t, _, ok, q, fun H1 t1 c g hq => by
    cases c with
    | true => exact k H1 _ _ g hq
    | false => exact ⟨ρ, t1, Φ, ok.go g, hq, fun H2 t2 d g2 q2 => k H2 _ d (g.trans g2) q2⟩⟩
theorem EB_and1 (h : PT X a (EB R ta)) : PW X (.BoolOp .And [a] pos) (EB R ta) := pw_and1 h
theorem EB_or1 (h : PT X a (EB R ta)) : PW X (.BoolOp .Or [a] pos) (EB R ta) := pw_or1 h
/-! and, or, not of bools as values -/
def wAndV (wa wb : W T) : W T := fun ρ Φ => wa ρ fun d t => ∃ k, d = .bl k ∧ if k = true then wb ρ Φ t else Φ (.bl false) t
def wOrV (wa wb : W T) : W T := fun ρ Φ => wa ρ fun d t => ∃ k, d = .bl k ∧ if k = true then Φ (.bl true) t else wb ρ Φ t
def wNotV (wa : W T) : W T := fun ρ Φ => wa ρ fun d t => ∃ k, d = .bl k ∧ Φ (.bl (!k)) t
theorem E_one {op : BoolOp} (h : PE X a (E R wa)) : PE X (.BoolOp op [a] pos) (E R wa) := pe_one h
theorem E_and (h : PE X a (E R wa)) (hr : PE X (.BoolOp .And (b :: rest) pos) (E R wb)) : PE X (.BoolOp .And (a :: b :: rest) pos) (E R (wAndV wa wb)) := PE_imp (pe_and h hr) fun σ H Q ⟨ρ, t, Φ, ok, q, k⟩ =>
  ⟨ρ, t, _, ok, q, fun H1 t1 v d g hD hq => by
    obtain ⟨c, rfl, hq⟩ := hq
    cases hD
    refine ⟨c, rfl, ?_⟩
    cases c with
    | true => exact ⟨ρ, t1, Φ, ok.go g, hq, fun H2 t2 v d g2 hD q2 => k H2 _ v d (g.trans g2) hD q2⟩
    | false => exact k H1 _ _ _ g (.bl _) hq⟩
theorem E_or (h : PE X a (E R wa)) (hr : PE X (.BoolOp .Or (b :: rest) pos) (E R wb)) : PE X (.BoolOp .Or (a :: b :: rest) pos) (E R (wOrV wa wb)) := PE_imp (pe_or h hr) fun σ H Q ⟨ρ, t, Φ, ok, q, k⟩ =>
  ⟨ρ, t, _, ok, q, fun H1 t1 v d g hD hq => by
    obtain ⟨c, rfl, hq⟩ := hq
    cases hD
    refine ⟨c, rfl, ?_⟩
    cases c with
    | true => exact k H1 _ _ _ g (.bl _) hq
    | false => exact ⟨ρ, t1, Φ, ok.go g, hq, fun H2 t2 v d g2 hD q2 => k H2 _ v d (g.trans g2) hD q2⟩⟩
theorem E_not (h : PE X a (E R wa)) : PE X (.UnaryOp .Not a pos) (E R (wNotV wa)) := PE_imp (pe_not h) fun σ H Q ⟨ρ, t, Φ, ok, q, k⟩ =>
  ⟨ρ, t, _, ok, q, fun H1 t1 v d g hD hq => by
    obtain ⟨c, rfl, hq⟩ := hq
    cases hD
    exact ⟨c, rfl, k H1 _ _ _ g (.bl _) hq⟩⟩
def wIf (tc : WB T) (wa wb : W T) : W T := fun ρ Φ => tc ρ fun k t => if k = true then wa ρ Φ t else wb ρ Φ t
theorem E_if {cc : Expr} (hc : PT X cc (EB R ta)) (ha : PE X a (E R wa)) (hb : PE X b (E R wb)) : PE X (.IfExp cc a b pos) (E R (wIf ta wa wb)) := PE_imp (pe_ifExp hc ha hb) fun σ H Q ⟨ρ, t, Φ, ok, q, k⟩ =>
  ⟨ρ, t, _, ok, q, fun H1 t1 c g hq => by
    cases c with
    | true => exact ⟨ρ, t1, Φ, ok.go g, hq, fun H2 t2 v d g2 hD q2 => k H2 _ v d (g.trans g2) hD q2⟩
    | false => exact ⟨ρ, t1, Φ, ok.go g, hq, fun H2 t2 v d g2 hD q2 => k H2 _ v d (g.trans g2) hD q2⟩⟩
/-! one-sided operators -/
def wUn (f : D → (D → Prop) → Prop) (wa : W T) : W T := fun ρ Φ => wa ρ fun x t => f x fun d => Φ d t
def Op1 (R : Rg T) (r : V → Hp → VK → Prop) (f : D → (D → Prop) → Prop) : Prop := ∀ t H x dx Φ (Q : VK), R.Gd t H → Den R.K H dx x → f dx Φ → (∀ H' v d, R.Go t H t H' → Den R.K H' d v → Φ d → Q v H') → r x H Q
theorem E_un {op : UnaryOp} {r : V → Hp → VK → Prop} {f : D → (D → Prop) → Prop} (ho : UnR X (unaryOp op) r) (hf : Op1 R r f) (ha : PE X a (E R wa)) : PE X (.UnaryOp op a pos) (E R (wUn f wa)) := PE_imp (pe_un ho ha) fun σ H Q ⟨ρ, t, Φ, ok, q, k⟩ =>
  ⟨ρ, t, _, ok, q, fun H1 t1 v d g hD hq => hf t1 H1 v d _ Q g.gd hD hq fun H2 v d g2 hD q2 => k H2 _ v d (g.trans g2) hD q2⟩
/-! a < b < c -/
def wChain (f f' : D → D → (D → Prop) → Prop) (wa wb wc : W T) : W T := fun ρ Φ => wa ρ fun x => wb ρ fun y t => f x y fun z => ∃ k, z = .bl k ∧ if k = true then wc ρ (fun u t => f' y u fun d => Φ d t) t else Φ (.bl false) t
theorem tChain_E {r r' : R2} {f f' : D → D → (D → Prop) → Prop} (hf : Op2 R r f) (hf' : Op2 R r' f') : ∀ σ H Q, E R (wChain f f' wa wb wc) σ H Q → tChain r r' (E R wa) (E R wb) (E R wc) σ H Q := fun σ H Q ⟨ρ, t, Φ, ok, q, k⟩ => by
  refine ⟨ρ, t, _, ok, q, fun H1 t1 v1 d1 g1 D1 q1 => ?_⟩
  refine ⟨ρ, t1, _, ok.go g1, q1, fun H2 t2 v2 d2 g2 D2 q2 => ?_⟩
  refine hf t2 H2 v1 v2 d1 d2 _ _ g2.gd (D1.ext (g2.ext g1.gd)) D2 q2 fun H3 v3 d3 g3 D3 q3 => ?_
  obtain ⟨c, rfl, q3⟩ := q3
  cases D3
  refine ⟨c, rfl, ?_⟩
  have g := g1.trans (g2.trans g3)
  cases c with
  | false => exact k H3 _ _ _ g (.bl _) q3
  | true =>
    refine ⟨ρ, t2, _, ok.go g, q3, fun H4 t4 v4 d4 g4 D4 q4 => ?_⟩
    exact hf' t4 H4 v2 v4 d2 d4 _ Q g4.gd (D2.ext ((g3.trans g4).ext g2.gd)) D4 q4 fun H5 v d g5 hD hq => k H5 _ v d (g.trans (g4.trans g5)) hD hq
theorem E_chain {op op' : CmpOp} {r r' : R2} {f f' : D → D → (D → Prop) → Prop} (ho : OpR X (compareOp op) r) (ho' : OpR X (compareOp op') r') (hf : Op2 R r f) (hf' : Op2 R r' f') (ha : PE X a (E R wa)) (hb : PE X b (E R wb)) (hc : PE X c (E R wc))
    (hm : lastMarks [op, op'] [b, c] = false := by rfl) : PE X (.Compare a [op, op'] [b, c] pos) (E R (wChain f f' wa wb wc)) := PE_imp (pe_chain ho ho' ha hb hc hm) (tChain_E hf hf')
/-! displays -/
def wNil : WA T := fun _ Φ => Φ []
def wCons (wa : W T) (wr : WA T) : WA T := fun ρ Φ => wa ρ fun x => wr ρ fun xs => Φ (x :: xs)
theorem EA_nil : PA X [] (EA R wNil) := PA_imp pa_nil fun σ H Q ⟨ρ, t, Φ, ok, q, k⟩ => k H _ [] [] (.refl ok.gd) .nil q
theorem EA_cons {es : List Expr} {wr : WA T} (ha : PE X a (E R wa)) (hr : PA X es (EA R wr)) (hs : starEach (a :: es) X.env = (false, eval a X.env) :: starEach es X.env := by rfl) : PA X (a :: es) (EA R (wCons wa wr)) :=
  PA_imp (pa_cons ha hr hs) fun σ H Q ⟨ρ, t, Φ, ok, q, k⟩ => ⟨ρ, t, _, ok, q, fun H1 t1 v d g hD hq => ⟨ρ, t1, _, ok.go g, hq, fun H2 t2 vs ds g2 hDs hq2 => k H2 _ (v :: vs) (d :: ds) (g.trans g2) (.cons (hD.ext (g2.ext g.gd)) hDs) hq2⟩⟩
/-- a new tuple -/
theorem new_tup {t : T} {H : Hp} {p : Addr} {xs : List V} {ds : List D} (gd : R.Gd t H) (n : H p = none) (h : Dens R.K H ds xs) : R.Go t H t (upd H p (.tup xs)) ∧ Den R.K (upd H p (.tup xs)) (.tup ds) (.ref p) := by
  have g : R.Go t H t (upd H p (.tup xs)) := .new gd n
  exact ⟨g, .tup upd_same (h.ext (g.ext gd))⟩
def wTup (w : WA T) : W T := fun ρ Φ => w ρ fun ds t => ds.length ≤ sizeLine ∧ Φ (.tup ds) t
theorem E_tup {es : List Expr} {w : WA T} {x1} (h : PA X es (EA R w)) : PE X (.Tuple es x1 pos) (E R (wTup w)) := PE_imp (pe_tup h) fun σ H Q ⟨ρ, t, Φ, ok, q, k⟩ =>
  ⟨ρ, t, _, ok, q, fun H1 t1 vs ds g hD ⟨hl, hq⟩ => ⟨by rw [← hD.len]; exact hl, fun p n => by
    obtain ⟨g2, D2⟩ := new_tup (R := R) g.gd n hD
    exact k _ _ _ _ (g.trans g2) D2 hq⟩⟩
end
end J

set_option Elab.async false
set_option linter.all false
set_option maxRecDepth 100000
set_option maxHeartbeats 4000000
/-! J2: frozen lists, targets, iterators, comprehensions. -/
namespace J
open PySem PySem.Spec L2 RZ

/-! ### a tracked list is frozen (nothing is done) -/
theorem inv_freeze {X : Cx} {pins : List (Addr × Obj)} {σ : L2.St} {H : Hp} {s : Shared} {a : Addr} {xs : List V} (I : Inv X pins σ H s) (h : H a = some (.lst xs)) : ∃ o, Inv X pins σ (upd H a (.frz o (.lst xs))) s := by
  obtain ⟨z, its, n, r, e⟩ := I.hok a _ h
  refine ⟨{ cls := .type "list", data := .seq its.toArray n }, I.ok, I.os, I.bare, I.base.trans ⟨fun b o q _ _ _ => q, fun b o q _ _ _ => ⟨o.slots, q⟩, fun b o q nb _ => ?_, fun b o q _ => ⟨o, q⟩, fun b ys q => ?_, fun b o u q => ?_, fun b ps q => ⟨#[], ?_⟩⟩, I.loc, I.cell, ?_, fun x c q => ?_, fun p hp => ?_, fun b o q => ?_, I.len⟩
  · rw [upd_ne (fun z => by rw [z, h] at nb; cases nb)]; exact nb
  · rw [upd_ne (fun z => by rw [z, h] at q; cases q)]; exact q
  · rw [upd_ne (fun z => by rw [z, h] at q; cases q)]; exact q
  · rw [upd_ne (fun z => by rw [z, h] at q; cases q), q]; simp
  · rw [upd_ne (fun z => by have := I.free; rw [z, h] at this; cases this)]; exact I.free
  · rw [upd_ne (fun z => by have := I.freeC x c q; rw [z, h] at this; cases this)]; exact I.freeC x c q
  · obtain ⟨q1, q2, q3⟩ := I.pin p hp
    exact ⟨q1, by rw [upd_ne (fun z => by rw [z, h] at q2; cases q2)]; exact q2, q3⟩
  · have ext : ∀ {b : Addr} {u : HO}, ObjOk X.prog X.w H s.heap b u → ObjOk X.prog X.w (upd H a (.frz { cls := .type "list", data := .seq its.toArray n } (.lst xs))) s.heap b u := fun {b u} k =>
      k.stay (fun _ _ _ q => q) (fun c q => by rw [upd_ne (fun z => by rw [z, h] at q; cases q)]; exact q) (fun c ys q => by rw [upd_ne (fun z => by rw [z, h] at q; cases q)]; exact q)
    by_cases hb : b = a
    · subst hb
      rw [upd_same] at q
      cases q
      exact ⟨e, ext (I.hok b _ h)⟩
    · rw [upd_ne hb] at q
      exact ext (I.hok b o q)
def tFrz (t : TE) : TE := fun σ H Q => t σ H fun v H1 => ∃ a xs, v = .ref a ∧ H1 a = some (.lst xs) ∧ ∀ o, Q v (upd H1 a (.frz o (.lst xs)))
theorem pe_frz {X : Cx} {e : Expr} {t : TE} (h : PE X e t) : PE X e (tFrz t) := ⟨fun pins s σ H Q I q => by
  refine thn (h.run pins s σ H _ I q) fun u s1 ⟨v, H1, I1, r, a, xs, e1, e2, k⟩ => ?_
  obtain ⟨o, I2⟩ := inv_freeze I1 e2
  exact ⟨v, _, I2, r, k o⟩⟩

theorem upd_some {H : Hp} {p a : Addr} {o : HO} (h : H a ≠ none) : upd H p o a ≠ none := by
  by_cases e : a = p
  · subst e; rw [upd_same]; exact fun z => nomatch z
  · rw [upd_ne e]; exact h
/-! ### a new list -/
abbrev WL (T : Type) := Env → (List D → T → Prop) → T → Prop
def EL {T : Type} (R : Rg T) (w : WL T) : TE := fun σ H Q => ∃ ρ t Φ, EnvOk R t H σ ρ ∧ w ρ Φ t ∧ ∀ H' t' p vs ds, R.Go t H t' H' → H p = none → H' p = some (.lst vs) → ¬ R.Vol t' p → Dens R.K H' ds vs → Φ ds t' → Q (.ref p) H'
def wLs {T : Type} (w : WL T) : W T := fun ρ Φ => w ρ fun ds => Φ (.lst ds)
section
variable {T : Type} {X : Cx} {R : Rg T} {pos : Pos}
/-- a new list, from then on frozen -/
theorem go_frz {t t' : T} {H H' : Hp} {p : Addr} {xs : List V} {o : Obj} (g : R.Go t H t' H') (n : H p = none) (nv : ¬ R.Vol t' p) (e : H' p = some (.lst xs)) : R.Go t H t' (upd H' p (.frz o (.lst xs))) ∧ Ext H' (upd H' p (.frz o (.lst xs))) := by
  have x : Ext H' (upd H' p (.frz o (.lst xs))) := by
    refine ⟨fun a ys q => ?_, fun a ob u q => ?_⟩
    · rw [upd_ne (fun z => by rw [z, e] at q; cases q)]; exact q
    · rw [upd_ne (fun z => by rw [z, e] at q; cases q)]; exact q
  refine ⟨⟨⟨fun a u h1 h2 => ?_, fun a v => upd_some (g.st.up a v), g.st.dn⟩, R.dep t' H' _ g.gd x fun a v => ?_⟩, x⟩
  · rw [upd_ne (ne_of_none h1 n)]; exact g.st.st a u h1 h2
  · rw [upd_ne (fun z => nv (by rw [← z]; exact v))]
theorem E_ls {e : Expr} {w : WL T} (h : PE X e (EL R w)) : PE X e (E R (wLs w)) := PE_imp (pe_frz h) fun σ H Q ⟨ρ, t, Φ, ok, q, k⟩ =>
  ⟨ρ, _, _, ok, q, fun H' t' p vs ds g n e nv hD hq => ⟨p, vs, rfl, e, fun o => by
    obtain ⟨g2, x⟩ := go_frz (o := o) g n nv e
    exact k _ _ _ (.lst ds) g2 (.lst ⟨o, upd_same⟩ (hD.ext x)) hq⟩⟩
/-- what lays a new list -/
theorem new_lst {t : T} {H : Hp} {p : Addr} {xs : List V} {ds : List D} (gd : R.Gd t H) (n : H p = none) (h : Dens R.K H ds xs) : R.Go t H t (upd H p (.lst xs)) ∧ ¬ R.Vol t p ∧ Dens R.K (upd H p (.lst xs)) ds xs := by
  have g : R.Go t H t (upd H p (.lst xs)) := .new gd n
  exact ⟨g, not_vol gd n, h.ext (g.ext gd)⟩
def wLst (w : WA T) : WL T := fun ρ Φ => w ρ fun ds t => ds.length ≤ sizeLine ∧ Φ ds t
theorem EL_lst {es : List Expr} {w : WA T} (h : PA X es (EA R w)) : PE X (.List es pos) (EL R (wLst w)) := PE_imp (pe_lst h) fun σ H Q ⟨ρ, t, Φ, ok, q, k⟩ =>
  ⟨ρ, _, _, ok, q, fun H1 t1 vs ds g hD ⟨hl, hq⟩ => ⟨by rw [← hD.len]; exact hl, fun p n => by
    obtain ⟨g2, nv, D2⟩ := new_lst (R := R) g.gd n hD
    exact k _ _ p vs ds (g.trans g2) (none_of_go g n) upd_same nv D2 hq⟩⟩
end

/-! ### targets -/
inductive Pat where
  | nm (i : Nat) | tp (is : List Nat)
def bindN : List Nat → List D → Env → Option Env
  | [], [], ρ => some ρ
  | i :: is, d :: ds, ρ => bindN is ds (ρ.set i (.val d))
  | _, _, _ => none
def bindP : Pat → D → Env → Option Env
  | .nm i, d, ρ => some (ρ.set i (.val d))
  | .tp is, .tup ds, ρ => bindN is ds ρ
  | .tp _, _, _ => none
def Pat.vs : Pat → List Nat
  | .nm i => [i]
  | .tp is => is
def EG {T : Type} (R : Rg T) (p : Pat) : TG := fun v σ H Q => ∃ ρ t d ρ', EnvOk R t H σ ρ ∧ Den R.K H d v ∧ bindP p d ρ = some ρ' ∧ ∀ σ', EnvOk R t H σ' ρ' → (∀ vs : List Nat, (∀ i ∈ p.vs, i ∈ vs) → wipe σ' vs = wipe σ vs) → Q σ' H
theorem PG_imp {X : Cx} {e : Expr} {t t' : TG} (h : PG X e t) (i : ∀ v σ H Q, t' v σ H Q → t v σ H Q) : PG X e t' := ⟨fun pins s σ H v u Q I r q => h.run pins s σ H v u Q I r (i v σ H Q q)⟩
section
variable {T : Type} {X : Cx} {R : Rg T} {pos : Pos}
theorem EG_name {i : Nat} {e : Expr} (h : PG X e (gName i)) : PG X e (EG R (.nm i)) := PG_imp h fun v σ H Q ⟨ρ, t, d, ρ', ok, hD, hb, k⟩ => by
  cases hb
  exact k _ (ok.set i hD) fun vs hv => wipe_set (hv i (by simp [Pat.vs]))
def gNames : List Nat → TGs
  | [] => gNil
  | i :: is => gCons (gName i) (gNames is)
theorem gNames_ok {t : T} {H : Hp} {Q : L2.St → Hp → Prop} : ∀ (is : List Nat) {ds : List D} {xs : List V} {σ : L2.St} {ρ ρ' : Env}, EnvOk R t H σ ρ → Dens R.K H ds xs → bindN is ds ρ = some ρ' →
    (∀ σ', EnvOk R t H σ' ρ' → (∀ vs : List Nat, (∀ i ∈ is, i ∈ vs) → wipe σ' vs = wipe σ vs) → Q σ' H) → gNames is xs σ H Q
  | [], _, _, _, _, _, ok, .nil, e, k => by
    cases e
    exact ⟨rfl, k _ ok fun _ _ => rfl⟩
  | i :: is, _, _, σ, _, _, ok, .cons h hs, e, k => by
    refine ⟨_, _, rfl, gNames_ok is (ok.set i h) hs e fun σ' ok' hw => k σ' ok' fun vs hv => ?_⟩
    rw [hw vs fun j hj => hv j (List.mem_cons_of_mem _ hj)]
    exact wipe_set (hv i List.mem_cons_self)
theorem bindN_len : ∀ (is : List Nat) {ds : List D} {ρ ρ' : Env}, bindN is ds ρ = some ρ' → ds.length = is.length
  | [], [], _, _, _ => rfl
  | [], _ :: _, _, _, e => by simp [bindN] at e
  | _ :: _, [], _, _, e => by simp [bindN] at e
  | i :: is, d :: ds, _, _, e => by rw [List.length_cons, List.length_cons, bindN_len is (ds := ds) e]
theorem EG_tup {is : List Nat} {n : Nat} {e : Expr} (hn : is.length = n) (h : PG X e (gTup X.K n (gNames is))) (hK : X.K = R.K := by rfl) : PG X e (EG R (.tp is)) := PG_imp h fun v σ H Q ⟨ρ, t, d, ρ', ok, hD, hb, k⟩ => by
  cases hD with
  | tup hT hs =>
    have hl := bindN_len is hb
    refine ⟨_, _, rfl, by rw [hK]; exact .inl (.inl hT), by rw [← hs.len, hl, hn], gNames_ok is ok hs hb fun σ' ok' hw => k σ' ok' hw⟩
  | _ => cases hb
end

/-! ### what is walked -/
/-- from H on the walk J gives the data ds -/
def WD {T : Type} (R : Rg T) (J : It) (H : Hp) (ds : List D) : Prop :=
  Walk J ds.length (fun H2 => Ext H H2 ∧ ∃ t, R.Gd t H2) (fun i H2 x H3 => (∀ t, R.Gd t H2 → R.Go t H2 t H3) ∧ ∃ d, ds[i]? = some d ∧ Den R.K H3 d x)
def EI {T : Type} (R : Rg T) (w : WL T) : TI := fun σ H Q => ∃ ρ t Φ, EnvOk R t H σ ρ ∧ w ρ Φ t ∧ ∀ H' t' J ds, R.Go t H t' H' → WD R J H' ds → Φ ds t' → Q J H'
def wSeq {T : Type} (w : W T) : WL T := fun ρ Φ => w ρ fun d t => ∃ ds, d.items = some ds ∧ Φ ds t
section
variable {T : Type} {X : Cx} {R : Rg T} {pos : Pos}
theorem wd_list {H : Hp} {a : Addr} {xs : List V} {ds : List D} (h : LF R.K H a xs) (hs : Dens R.K H ds xs) : WD R (Itl R.K a) H ds := by
  have hl := hs.len
  unfold WD
  rw [hl]
  refine walk_list.mono (fun H2 g => (g.1.lf h).sq) fun i H2 x H3 hi g y => ?_
  obtain ⟨rfl, y⟩ := y
  obtain ⟨d, e, hd⟩ := (hs.ext g.1).getV y
  exact ⟨fun t gd => .refl gd, d, e, hd⟩
theorem wd_tup {H : Hp} {a : Addr} {xs : List V} {ds : List D} (h : H a = some (.tup xs)) (hs : Dens R.K H ds xs) : WD R (Itt R.K a) H ds := by
  have hl := hs.len
  unfold WD
  rw [hl]
  refine walk_tup.mono (fun H2 g => .inl (.inl (g.1.tup _ _ h))) fun i H2 x H3 hi g y => ?_
  obtain ⟨rfl, y⟩ := y
  obtain ⟨d, e, hd⟩ := (hs.ext g.1).getV y
  exact ⟨fun t gd => .refl gd, d, e, hd⟩
def iSeq (K : PySem.W.Frag) (tl : TE) : TI := fun σ H Rk => tl σ H fun x H1 => (∃ a, x = .ref a ∧ (∃ xs, SqL K H1 a xs) ∧ Rk (Itl K a) H1) ∨ (∃ a, x = .ref a ∧ (∃ xs, SqT K H1 a xs) ∧ Rk (Itt K a) H1)
theorem pi_seq {tg l : Expr} {tl : TE} (hl : PE X l tl) : PI X tg l (iSeq X.K tl) := by
  refine ⟨fun pins s σ H Rk I h => ?_⟩
  refine thn (hl.run pins s σ H _ I h) fun v s1 ⟨x, H1, I1, r1, q1⟩ => ?_
  rcases q1 with ⟨a, e, ⟨xs, hq⟩, q⟩ | ⟨a, e, ⟨xs, hq⟩, q⟩
  · subst e
    cases r1
    obtain ⟨its, rv, p, hz⟩ := I1.list hq
    refine wpAny_pyIter_list p.isList ?_
    refine ⟨s1.heap.objs.size, [s1.heap.objs.size], _, _, H1, rfl, I1.kept (t' := s1.toks) fun b o e => Heap.get?_push_of_some _ e, turn_list a _, ⟨_, Heap.get?_push_size _ rfl, rfl, rfl⟩, fun b hb => ?_, q⟩
    have e : b = s1.heap.objs.size := by simpa using hb
    subst e
    exact I1.fpOk (Nat.le_refl _) (I1.hok.fresh (Nat.le_refl _))
  · subst e
    cases r1
    obtain ⟨its, rv, p, hz⟩ := I1.tuple hq
    refine wpAny_pyIter_tuple (show s1.heap.IsTuple a its.toArray from p) ?_
    refine ⟨s1.heap.objs.size, [s1.heap.objs.size], _, _, H1, rfl, I1.kept (t' := s1.toks) fun b o e => Heap.get?_push_of_some _ e, turn_tuple a _, ⟨_, Heap.get?_push_size _ rfl, rfl, rfl⟩, fun b hb => ?_, q⟩
    have e : b = s1.heap.objs.size := by simpa using hb
    subst e
    exact I1.fpOk (Nat.le_refl _) (I1.hok.fresh (Nat.le_refl _))
theorem EI_seq {tg l : Expr} {w : W T} (hl : PE X l (E R w)) (hK : X.K = R.K := by rfl) : PI X tg l (EI R (wSeq w)) := PI_imp (pi_seq hl) fun σ H Q ⟨ρ, t, Φ, ok, q, k⟩ =>
  ⟨ρ, _, _, ok, q, fun H1 t1 v d g hD ⟨ds, hi, hq⟩ => by
    rw [hK]
    cases hD with
    | tup h hs => cases hi; exact .inr ⟨_, rfl, ⟨_, .inl (.inl h)⟩, k H1 _ _ _ g (wd_tup h hs) hq⟩
    | lst h hs => cases hi; exact .inl ⟨_, rfl, ⟨_, h.sq⟩, k H1 _ _ _ g (wd_list h hs) hq⟩
    | _ => cases hi⟩
/-- a list just made by an expression that lays it: walked as it stands -/
theorem EI_new {tg l : Expr} {w : WL T} (hl : PE X l (EL R w)) (hK : X.K = R.K := by rfl) : PI X tg l (EI R w) := PI_imp (pi_seq (pe_frz hl)) fun σ H Q ⟨ρ, t, Φ, ok, q, k⟩ =>
  ⟨ρ, _, _, ok, q, fun H1 t1 p vs ds g n e nv hD hq => ⟨p, vs, rfl, e, fun o => by
    obtain ⟨g2, x⟩ := go_frz (o := o) g n nv e
    rw [hK]
    exact .inl ⟨_, rfl, ⟨_, (LF.sq (K := R.K) ⟨o, upd_same⟩)⟩, k _ _ _ _ g2 (wd_list ⟨o, upd_same⟩ (hD.ext x)) hq⟩⟩⟩
def rangeD (lo : Int) (n : Nat) : List D := (List.range n).map fun (i : Nat) => D.int (lo + (i : Int))
theorem rangeD_len (lo : Int) (n : Nat) : (rangeD lo n).length = n := by simp [rangeD]
theorem wd_range {H : Hp} (lo : Int) (n : Nat) : WD R (Itr lo n) H (rangeD lo n) := by
  unfold WD
  rw [rangeD_len]
  refine walk_range.mono (fun _ _ => trivial) fun i H2 x H3 hi g y => ?_
  obtain ⟨rfl, rfl⟩ := y
  exact ⟨fun t gd => .refl gd, .int (lo + i), by simp [rangeD, hi], .int _⟩
def wRange1 (w : WA T) : WL T := fun ρ Φ => w ρ fun ds t => ∃ j : Int, ds = [.int j] ∧ -(2 ^ 62) ≤ j ∧ j < 2 ^ 62 ∧ Φ (rangeD 0 j.toNat) t
theorem EI_range1 {tg e : Expr} {w : WA T} (h : ∀ {ta}, PA X [a] ta → PI X tg e (iRng1 ta)) (ha : PA X [a] (EA R w)) : PI X tg e (EI R (wRange1 w)) := PI_imp (h ha) fun σ H Q ⟨ρ, t, Φ, ok, q, k⟩ =>
  ⟨ρ, _, _, ok, q, fun H1 t1 vs ds g hD ⟨j, e, h1, h2, hq⟩ => by
    subst e
    cases hD with
    | cons hd hs =>
      cases hd; cases hs
      exact ⟨j, rfl, h1, h2, k H1 _ _ _ g (wd_range 0 j.toNat) hq⟩⟩
def wRange2 (w : WA T) : WL T := fun ρ Φ => w ρ fun ds t => ∃ i j : Int, ds = [.int i, .int j] ∧ (-(2 ^ 62) ≤ i ∧ i < 2 ^ 62 ∧ -(2 ^ 62) ≤ j ∧ j < 2 ^ 62) ∧ Φ (rangeD i (j - i).toNat) t
theorem EI_range2 {tg e a b : Expr} {w : WA T} (h : ∀ {ta}, PA X [a, b] ta → PI X tg e (iRng2 ta)) (ha : PA X [a, b] (EA R w)) : PI X tg e (EI R (wRange2 w)) := PI_imp (h ha) fun σ H Q ⟨ρ, t, Φ, ok, q, k⟩ =>
  ⟨ρ, _, _, ok, q, fun H1 t1 vs ds g hD ⟨i, j, e, h1, hq⟩ => by
    subst e
    cases hD with
    | cons hd hs =>
      cases hs with
      | cons hd' hs =>
        cases hd; cases hd'; cases hs
        exact ⟨i, j, rfl, h1, k H1 _ _ _ g (wd_range i (j - i).toNat) hq⟩⟩
/-! pairs -/
def enumD (ds : List D) : List D := (List.range ds.length).map fun i => D.tup [.int (i : Nat), ds.getD i .non]
def zipD (ds es : List D) : List D := (ds.zip es).map fun p => D.tup [p.1, p.2]
theorem enumD_len (ds : List D) : (enumD ds).length = ds.length := by simp [enumD]
theorem zipD_len (ds es : List D) : (zipD ds es).length = min ds.length es.length := by simp [zipD]
theorem wd_enum {H : Hp} {a : Addr} {xs : List V} {ds : List D} (h : LF R.K H a xs) (hs : Dens R.K H ds xs) : WD R (Ite R.K a) H (enumD ds) := by
  unfold WD
  rw [enumD_len, hs.len]
  refine walk_enum.mono (fun H2 g => (g.1.lf h).sq) fun i H2 x H3 hi g y => ?_
  obtain ⟨T, x1, x2, rfl, nT, rfl, y1, y2⟩ := y
  cases y1
  obtain ⟨d, e, hd⟩ := (hs.ext g.1).getV y2
  obtain ⟨_, D2⟩ := new_tup (R := R) (ds := [.int (i : Nat), d]) g.2.choose_spec nT (.cons (.int _) (.cons hd .nil))
  refine ⟨fun t gd => .new gd nT, _, ?_, D2⟩
  have hi' : i < ds.length := by rw [hs.len]; exact hi
  have e' := (List.getElem?_eq_some_iff.mp e).2
  simp [enumD, hi', e']
theorem wd_zipL {H : Hp} {a b : Addr} {xs ys : List V} {ds es : List D} (h : LF R.K H a xs) (h' : LF R.K H b ys) (hs : Dens R.K H ds xs) (hs' : Dens R.K H es ys) : WD R (Itz R.K a b) H (zipD ds es) := by
  unfold WD
  rw [zipD_len, hs.len, hs'.len]
  refine (walk_zip rfl).mono (fun H2 g => ⟨(g.1.lf h).sq, (g.1.lf h').sq⟩) fun i H2 x H3 hi g y => ?_
  obtain ⟨T, x1, x2, rfl, nT, rfl, y1, y2⟩ := y
  obtain ⟨d, e, hd⟩ := (hs.ext g.1).getV y1
  obtain ⟨d', e', hd'⟩ := (hs'.ext g.1).getV y2
  obtain ⟨_, D2⟩ := new_tup (R := R) (ds := [d, d']) g.2.choose_spec nT (.cons hd (.cons hd' .nil))
  refine ⟨fun t gd => .new gd nT, _, ?_, D2⟩
  simp [zipD, List.getElem?_zip_eq_some, e, e']
theorem walk_zipT {K : PySem.W.Frag} {a b : Addr} {xs ys : List V} : Walk (ItzT K a b) (min xs.length ys.length) (fun H => SqT K H a xs ∧ SqT K H b ys) (YPair (fun i => xs[i]?) (fun i => ys[i]?)) := by
  refine ⟨fun i _ hi q => ?_, fun _ q => ⟨xs, ys, q.1, q.2, by omega⟩, fun i H v H' _ q y => ?_⟩
  · have h1 : i < xs.length := by omega
    have h2 : i < ys.length := by omega
    exact ⟨xs, ys, xs[i], ys[i], q.1, q.2, by simp [h1], by simp [h2]⟩
  · obtain ⟨T, x, z, h1, h2, h3, h4, h5⟩ := y
    exact ⟨T, x, z, h1, h2, h3, h4 xs q.1, h5 ys q.2⟩
theorem wd_zipT {H : Hp} {a b : Addr} {xs ys : List V} {ds es : List D} (h : H a = some (.tup xs)) (h' : H b = some (.tup ys)) (hs : Dens R.K H ds xs) (hs' : Dens R.K H es ys) : WD R (ItzT R.K a b) H (zipD ds es) := by
  unfold WD
  rw [zipD_len, hs.len, hs'.len]
  refine walk_zipT.mono (fun H2 g => ⟨.inl (.inl (g.1.tup _ _ h)), .inl (.inl (g.1.tup _ _ h'))⟩) fun i H2 x H3 hi g y => ?_
  obtain ⟨T, x1, x2, rfl, nT, rfl, y1, y2⟩ := y
  obtain ⟨d, e, hd⟩ := (hs.ext g.1).getV y1
  obtain ⟨d', e', hd'⟩ := (hs'.ext g.1).getV y2
  obtain ⟨_, D2⟩ := new_tup (R := R) (ds := [d, d']) g.2.choose_spec nT (.cons hd (.cons hd' .nil))
  refine ⟨fun t gd => .new gd nT, _, ?_, D2⟩
  simp [zipD, List.getElem?_zip_eq_some, e, e']
def wEnum (w : WA T) : WL T := fun ρ Φ => w ρ fun ds t => ∃ es, ds = [.lst es] ∧ Φ (enumD es) t
theorem EI_enum {tg e a : Expr} {w : WA T} (h : ∀ {ta}, PA X [a] ta → PI X tg e (iEnum X.K ta)) (ha : PA X [a] (EA R w)) (hK : X.K = R.K := by rfl) : PI X tg e (EI R (wEnum w)) := PI_imp (h ha) fun σ H Q ⟨ρ, t, Φ, ok, q, k⟩ =>
  ⟨ρ, _, _, ok, q, fun H1 t1 vs ds g hD ⟨es, e, hq⟩ => by
    subst e
    rw [hK]
    cases hD with
    | cons hd hs =>
      cases hs
      cases hd with
      | lst hL hds => exact ⟨_, _, rfl, hL.sq, k H1 _ _ _ g (wd_enum hL hds) hq⟩⟩
def wZip (w : WA T) : WL T := fun ρ Φ => w ρ fun ds t => ∃ d1 d2 es fs, ds = [d1, d2] ∧ d1.items = some es ∧ d2.items = some fs ∧ d1.isT = d2.isT ∧ Φ (zipD es fs) t
theorem EI_zip {tg e a b : Expr} {w : WA T} (h : ∀ {ta}, PA X [a, b] ta → PI X tg e (iZipA X.K ta)) (ha : PA X [a, b] (EA R w)) (hK : X.K = R.K := by rfl) : PI X tg e (EI R (wZip w)) := PI_imp (h ha) fun σ H Q ⟨ρ, t, Φ, ok, q, k⟩ =>
  ⟨ρ, _, _, ok, q, fun H1 t1 vs ds g hD ⟨d1, d2, es, fs, e, i1, i2, ht, hq⟩ => by
    rw [hK]
    subst e
    cases hD with
    | cons hd hs =>
      cases hs with
      | cons hd' hs =>
        cases hs
        cases hd with
        | lst hL hds =>
          cases i1
          cases hd' with
          | lst hL' hds' => cases i2; exact ⟨_, _, _, _, rfl, .inl ⟨hL.sq, hL'.sq, k H1 _ _ _ g (wd_zipL hL hL' hds hds') hq⟩⟩
          | tup hL' hds' => cases ht
          | _ => cases i2
        | tup hL hds =>
          cases i1
          cases hd' with
          | tup hL' hds' => cases i2; exact ⟨_, _, _, _, rfl, .inr ⟨.inl (.inl hL), .inl (.inl hL'), k H1 _ _ _ g (wd_zipT hL hL' hds hds') hq⟩⟩
          | lst hL' hds' => cases ht
          | _ => cases i2
        | _ => cases i1⟩
end

/-! ### comprehensions -/
def lcRun {T : Type} (f : D → (List D → T → Prop) → T → Prop) : List D → List D → (List D → T → Prop) → T → Prop
  | [], acc, Φ => Φ acc
  | d :: r, acc, Φ => f d fun ys => lcRun f r (acc ++ ys) Φ
def lcBody {T : Type} (p : Pat) (vs : List Nat) (wt : WB T) (we : W T) (ρ : Env) : D → (List D → T → Prop) → T → Prop := fun d K t => ∃ ρ', bindP p d (wipeE ρ vs) = some ρ' ∧ wt ρ' (fun b t => if b = true then we ρ' (fun y => K [y]) t else K [] t) t
def wLc {T : Type} (wi : WL T) (p : Pat) (vs : List Nat) (wt : WB T) (we : W T) : WL T := fun ρ Φ => wi ρ fun ds t => ds.length ≤ sizeLine ∧ lcRun (lcBody p vs wt we ρ) ds [] Φ t
def wYes {T : Type} : WB T := fun _ Φ => Φ true
section
variable {T : Type} {X : Cx} {R : Rg T} {pos : Pos}
theorem EB_yes : ∀ σ H Q, EB R wYes σ H Q → tYes σ H Q := fun σ H Q ⟨ρ, t, Φ, ok, q, k⟩ => k H _ true (.refl ok.gd) q
/-- a tracked new list grows -/
theorem grow {t t' : T} {H H' : Hp} {D : Addr} {acc : List V} {y : V} (g : R.Go t H t' H') (n : H D = none) (nv : ¬ R.Vol t' D) (e : H' D = some (.lst acc)) : R.Go t H t' (upd H' D (.lst (acc ++ [y]))) ∧ Ext H' (upd H' D (.lst (acc ++ [y]))) := by
  have x : Ext H' (upd H' D (.lst (acc ++ [y]))) := by
    refine ⟨fun a ys q => ?_, fun a ob u q => ?_⟩
    · rw [upd_ne (fun z => by rw [z, e] at q; cases q)]; exact q
    · rw [upd_ne (fun z => by rw [z, e] at q; cases q)]; exact q
  refine ⟨⟨⟨fun a u h1 h2 => ?_, fun a v => upd_some (g.st.up a v), g.st.dn⟩, R.dep t' H' _ g.gd x fun a v => ?_⟩, x⟩
  · rw [upd_ne (ne_of_none h1 n)]; exact g.st.st a u h1 h2
  · rw [upd_ne (fun z => nv (by rw [← z]; exact v))]
theorem ne_none {H : Hp} {a : Addr} {o : HO} (h : H a = some o) : H a ≠ none := by rw [h]; exact fun z => nomatch z
theorem tLc_EL {wi : WL T} {p : Pat} {vs : List Nat} {wt : WB T} {we : W T} (hp : ∀ i ∈ p.vs, i ∈ vs) : ∀ σ H Q, EL R (wLc wi p vs wt we) σ H Q → tLc (EI R wi) (EG R p) (EB R wt) (E R we) vs σ H Q := fun σ H Q ⟨ρ, t, Φ, ok, q, k⟩ => by
  refine ⟨ρ, _, _, ok, q, fun H1 t1 J ds g1 wd ⟨hz, hq⟩ Dl nD => ?_⟩
  have nD0 := none_of_go g1 nD
  have nv1 := not_vol g1.gd nD
  have g0 : R.Go t1 H1 t1 (upd H1 Dl (.lst [])) := .new g1.gd nD
  refine lc_it wd (fun i H2 => ∃ t2, R.Go t1 H1 t2 H2 ∧ ¬ R.Vol t2 Dl ∧ ∃ acc ads, H2 Dl = some (.lst acc) ∧ Dens R.K H2 ads acc ∧ acc.length ≤ i ∧ lcRun (lcBody p vs wt we ρ) (ds.drop i) ads Φ t2) ⟨t1, g0, nv1, [], [], upd_same, .nil, Nat.le_refl _, hq⟩ (fun i H2 _ ⟨t2, h, _⟩ => ⟨h.ext g1.gd, t2, h.gd⟩) ?_ ?_
  · rintro i x H2 H3 hi ⟨t2, g2, nv2, acc, ads, e2, hD, hl, run⟩ ⟨g3, d, hd, hx⟩
    have g3 := g3 t2 g2.gd
    have e3 := g3.st.st Dl _ e2 nv2
    have hDs : ds.drop i = d :: ds.drop (i + 1) := by
      obtain ⟨h1, h2⟩ := List.getElem?_eq_some_iff.mp hd
      rw [← h2]
      exact List.drop_eq_getElem_cons h1
    rw [hDs] at run
    obtain ⟨ρ', hb, run⟩ := run
    have g13 := g2.trans g3
    refine ⟨wipeE ρ vs, t2, d, ρ', (wipeE_ok vs (ok.go (g1.trans g13))), hx, hb, fun σ' ok' hw => ⟨?_, ?_⟩⟩
    · rw [hw vs hp, wipe_wipe]
    · refine ⟨ρ', t2, _, ok', run, fun H4 t4 b g4 hqb => ?_⟩
      have e4 := g4.st.st Dl _ e3 nv2
      have nv4 := g4.st.nvol (ne_none e3) nv2
      have hD4 := hD.ext (g3.ext g2.gd) |>.ext (g4.ext g3.gd)
      cases b with
      | false =>
        simp only [Bool.false_eq_true, if_false] at hqb ⊢
        rw [List.append_nil] at hqb
        exact ⟨t4, g13.trans g4, nv4, acc, ads, e4, hD4, Nat.le_succ_of_le hl, hqb⟩
      | true =>
        simp only [if_true] at hqb ⊢
        refine ⟨ρ', t4, _, ok'.go g4, hqb, fun H5 t5 v y g5 hy run' => ?_⟩
        have e5 := g5.st.st Dl _ e4 nv4
        have nv5 := g5.st.nvol (ne_none e4) nv4
        have g15 := (g13.trans g4).trans g5
        refine ⟨acc, e5, by omega, ?_⟩
        obtain ⟨gg, xx⟩ := grow (y := v) g15 nD nv5 e5
        refine ⟨t5, gg, nv5, acc ++ [v], ads ++ [y], upd_same, ((hD4.ext (g5.ext g4.gd)).ext xx).app (.cons (hy.ext xx) .nil), ?_, run'⟩
        rw [List.length_append]
        exact Nat.add_le_add_right hl 1
  · rintro H2 ⟨t2, g2, nv2, acc, ads, e2, hD, hl, run⟩
    rw [List.drop_length] at run
    exact k H2 t2 Dl acc ads (g1.trans g2) nD0 e2 nv2 hD run
/-- the comprehension as an expression that lays a new list -/
theorem PTs_imp {X : Cx} {e : List Expr} {t t' : TT} (h : PTs X e t) (i : ∀ σ H Q, t' σ H Q → t σ H Q) : PTs X e t' := ⟨fun pins s σ H Q I q => h.run pins s σ H Q I (i σ H Q q)⟩
theorem ETs_nil {X : Cx} : PTs X [] (EB R wYes) := PTs_imp pts_nil EB_yes
theorem EL_lc {elt tg iter : Expr} {ifs : List Expr} {scope : Scope} {own : List (Str × Nat)} {wi : WL T} {p : Pat} {wt : WB T} {we : W T} (hc : X.calm = true) (hN : X.N.Nodup) (ok : BlkOk X.N X.env.scope scope own) (hp : ∀ i ∈ p.vs, i ∈ own.map (·.2))
    (hi : PI X tg iter (EI R wi))
    (hg : ∀ (s : Shared) (H : Hp) (C : Addr) (cl : List (Str × Addr)) (fp : List Addr), PG (X.blk s H scope (compEnvC scope cl C X.env) fp) tg (EG R p)) (ht : ∀ (s : Shared) (H : Hp) (C : Addr) (cl : List (Str × Addr)) (fp : List Addr), PTs (X.blk s H scope (compEnvC scope cl C X.env) fp) ifs (EB R wt))
    (he : ∀ (s : Shared) (H : Hp) (C : Addr) (cl : List (Str × Addr)) (fp : List Addr), PE (X.blk s H scope (compEnvC scope cl C X.env) fp) elt (E R we)) (hs : ∀ x, foldedSetIterable iter X.env x = pure x := by intro _; rfl) :
    PE X (.ListComp elt [⟨tg, iter, ifs, 0⟩] scope pos) (EL R (wLc wi p (own.map (·.2)) wt we)) := PE_imp (pe_lc hc hN hi ok hg ht he hs) (tLc_EL hp)

/-! two clauses -/
def lc2In {T : Type} (p1 : Pat) (vs1 : List Nat) (wt1 : WB T) (we : W T) (ρ : Env) : List D → List D → (List D → T → Prop) → T → Prop
  | [], acc, K => K acc
  | e :: r, acc, K => fun t => ∃ ρ', bindP p1 e (wipeE ρ vs1) = some ρ' ∧ wt1 ρ' (fun b t => if b = true then we ρ' (fun y t => acc.length < sizeLine ∧ lc2In p1 vs1 wt1 we ρ r (acc ++ [y]) K t) t else lc2In p1 vs1 wt1 we ρ r acc K t) t
def lc2Out {T : Type} (p : Pat) (vs : List Nat) (wt : WB T) (wi1 : WL T) (p1 : Pat) (vs1 : List Nat) (wt1 : WB T) (we : W T) (ρ : Env) : List D → List D → (List D → T → Prop) → T → Prop
  | [], acc, K => K acc
  | d :: r, acc, K => fun t => ∃ ρ', bindP p d (wipeE ρ vs) = some ρ' ∧ wt ρ' (fun b t => if b = true then wi1 ρ' (fun es => lc2In p1 vs1 wt1 we ρ' es acc fun acc' => lc2Out p vs wt wi1 p1 vs1 wt1 we ρ r acc' K) t else lc2Out p vs wt wi1 p1 vs1 wt1 we ρ r acc K t) t
def wLc2 {T : Type} (wi : WL T) (p : Pat) (vs : List Nat) (wt : WB T) (wi1 : WL T) (p1 : Pat) (vs1 : List Nat) (wt1 : WB T) (we : W T) : WL T := fun ρ Φ => wi ρ fun ds => lc2Out p vs wt wi1 p1 vs1 wt1 we ρ ds [] Φ
theorem drop_at {α : Type} {ds : List α} {i : Nat} {d : α} (hd : ds[i]? = some d) : ds.drop i = d :: ds.drop (i + 1) := by
  obtain ⟨h1, h2⟩ := List.getElem?_eq_some_iff.mp hd
  rw [← h2]
  exact List.drop_eq_getElem_cons h1
theorem wipeE_own {ρ : Env} {n : Nat} {ls : List D} : ∀ {vs : List Nat}, (wipeE ρ vs)[n]? = some (.own ls) → ρ[n]? = some (.own ls) ∧ n ∉ vs
  | [], h => ⟨h, by simp⟩
  | v :: vs, h => by
    unfold wipeE at h
    by_cases hv : v = n
    · subst hv
      by_cases hl : v < (wipeE ρ vs).length
      · rw [List.getElem?_set_self hl] at h; cases h
      · rw [List.getElem?_eq_none (by rw [List.length_set]; omega)] at h; cases h
    · rw [List.getElem?_set_ne hv] at h
      obtain ⟨h1, h2⟩ := wipeE_own h
      exact ⟨h1, by simp only [List.mem_cons, not_or]; exact ⟨fun e => hv e.symm, h2⟩⟩
theorem set_own {ρ : Env} {i n : Nat} {d : D} {ls : List D} (h : (ρ.set i (.val d))[n]? = some (.own ls)) : ρ[n]? = some (.own ls) := by
  by_cases hv : i = n
  · subst hv
    by_cases hl : i < ρ.length
    · rw [List.getElem?_set_self hl] at h; cases h
    · rw [List.getElem?_eq_none (by rw [List.length_set]; omega)] at h; cases h
  · rw [List.getElem?_set_ne hv] at h; exact h
theorem bindN_own {n : Nat} {ls : List D} : ∀ (is : List Nat) {ds : List D} {ρ ρ' : Env}, bindN is ds ρ = some ρ' → ρ'[n]? = some (.own ls) → ρ[n]? = some (.own ls)
  | [], [], _, _, e, h => by cases e; exact h
  | [], _ :: _, _, _, e, _ => by simp [bindN] at e
  | _ :: _, [], _, _, e, _ => by simp [bindN] at e
  | i :: is, d :: ds, ρ, _, e, h => set_own (bindN_own is (ds := ds) (ρ := ρ.set i (.val d)) e h)
theorem bindP_own {p : Pat} {d : D} {ρ ρ' : Env} {n : Nat} {ls : List D} (e : bindP p d ρ = some ρ') (h : ρ'[n]? = some (.own ls)) : ρ[n]? = some (.own ls) := by
  cases p with
  | nm i => cases e; exact set_own h
  | tp is =>
    cases d with
    | tup ds => exact bindN_own is e h
    | _ => cases e
theorem wipe_at {σ : L2.St} {n : Nat} : ∀ {vs : List Nat}, n ∉ vs → (wipe σ vs)[n]? = σ[n]?
  | [], _ => rfl
  | v :: vs, h => by
    unfold wipe
    rw [List.getElem?_set_ne (fun e => h (by rw [e]; exact List.mem_cons_self))]
    exact wipe_at fun z => h (List.mem_cons_of_mem _ z)
theorem tLc2_EL {wi wi1 : WL T} {p p1 : Pat} {vs vs1 : List Nat} {wt wt1 : WB T} {we : W T} (hp : ∀ i ∈ p.vs, i ∈ vs) (hp1 : ∀ i ∈ p1.vs, i ∈ vs1) :
    ∀ σ H Q, EL R (wLc2 wi p vs wt wi1 p1 vs1 wt1 we) σ H Q → tLc2 (EI R wi) (EG R p) (EB R wt) (EI R wi1) (EG R p1) (EB R wt1) (E R we) vs vs1 σ H Q := fun σ H Q ⟨ρ, t, Φ, ok, q, k⟩ => by
  refine ⟨ρ, _, _, ok, q, fun H1 t1 J ds g1 wd hq Dl nD => ?_⟩
  have nD0 := none_of_go g1 nD
  have nv1 := not_vol g1.gd nD
  have g0 : R.Go t1 H1 t1 (upd H1 Dl (.lst [])) := .new g1.gd nD
  let Pv : Nat → Hp → Prop := fun i H2 => ∃ t2, R.Go t1 H1 t2 H2 ∧ ¬ R.Vol t2 Dl ∧ ∃ acc ads, H2 Dl = some (.lst acc) ∧ Dens R.K H2 ads acc ∧ lc2Out p vs wt wi1 p1 vs1 wt1 we ρ (ds.drop i) ads Φ t2
  refine ⟨fun i m H2 => m = ds.length - i ∧ i ≤ ds.length ∧ Pv i H2, ⟨_, rfl, Nat.zero_le _, t1, g0, nv1, [], [], upd_same, .nil, hq⟩, ?_⟩
  rintro i m H2 ⟨rfl, hi, t2, g2, nv2, acc, ads, e2, hD, run⟩
  have gg2 : Ext H1 H2 ∧ ∃ t, R.Gd t H2 := ⟨g2.ext g1.gd, t2, g2.gd⟩
  by_cases hlt : i < ds.length
  case neg =>
    have e : i = ds.length := by omega
    subst e
    rw [List.drop_length] at run
    exact .inl ⟨wd.stops H2 gg2, k H2 t2 Dl acc ads (g1.trans g2) nD0 e2 nv2 hD run⟩
  refine .inr ⟨wd.goes i H2 hlt gg2, Pv (i + 1), fun H' p' => ⟨ds.length - (i + 1), by omega, rfl, hlt, p'⟩, fun x H3 y => ?_⟩
  obtain ⟨g3, d, hd, hx⟩ := wd.yields i H2 x H3 hlt gg2 y
  have g3 := g3 t2 g2.gd
  have e3 := g3.st.st Dl _ e2 nv2
  rw [drop_at hd] at run
  obtain ⟨ρ', hb, run⟩ := run
  have g13 := g2.trans g3
  refine ⟨wipeE ρ vs, t2, d, ρ', (wipeE_ok vs (ok.go (g1.trans g13))), hx, hb, fun σ' ok' hw => ⟨?_, ?_⟩⟩
  · rw [hw vs hp, wipe_wipe]
  refine ⟨ρ', t2, _, ok', run, fun H4 t4 b g4 hqb => ?_⟩
  have e4 := g4.st.st Dl _ e3 nv2
  have nv4 := g4.st.nvol (ne_none e3) nv2
  have hD4 := hD.ext (g3.ext g2.gd) |>.ext (g4.ext g3.gd)
  have g14 := g13.trans g4
  cases b with
  | false =>
    simp only [Bool.false_eq_true, if_false] at hqb ⊢
    exact ⟨t4, g14, nv4, acc, ads, e4, hD4, hqb⟩
  | true =>
    simp only [if_true] at hqb ⊢
    refine ⟨ρ', t4, _, ok'.go g4, hqb, fun H5 t5 J1 es g5 wd1 hq1 => ?_⟩
    have e5 := g5.st.st Dl _ e4 nv4
    have nv5 := g5.st.nvol (ne_none e4) nv4
    have g15 := g14.trans g5
    let Pu : Nat → Hp → Prop := fun j H6 => ∃ t6, R.Go t1 H1 t6 H6 ∧ ¬ R.Vol t6 Dl ∧ Ext H5 H6 ∧ EnvOk R t6 H6 σ' ρ' ∧ ∃ acc ads, H6 Dl = some (.lst acc) ∧ Dens R.K H6 ads acc ∧ lc2In p1 vs1 wt1 we ρ' (es.drop j) ads (fun acc' => lc2Out p vs wt wi1 p1 vs1 wt1 we ρ (ds.drop (i + 1)) acc' Φ) t6
    refine ⟨fun j m H6 => m = es.length - j ∧ j ≤ es.length ∧ Pu j H6, ⟨_, rfl, Nat.zero_le _, t5, g15, nv5, .refl, (ok'.go g4).go g5, acc, ads, e5, hD4.ext (g5.ext g4.gd), hq1⟩, ?_⟩
    rintro j m6 H6 ⟨rfl, hj, t6, g16, nv6, x56, ok6, acc6, ads6, e6, hD6, run6⟩
    have gg6 : Ext H5 H6 ∧ ∃ t, R.Gd t H6 := ⟨x56, t6, g16.gd⟩
    by_cases hlt1 : j < es.length
    case neg =>
      have e : j = es.length := by omega
      subst e
      rw [List.drop_length] at run6
      exact .inl ⟨wd1.stops H6 gg6, t6, g16, nv6, acc6, ads6, e6, hD6, run6⟩
    refine .inr ⟨wd1.goes j H6 hlt1 gg6, Pu (j + 1), fun H' p' => ⟨es.length - (j + 1), by omega, rfl, hlt1, p'⟩, fun x7 H7 y7 => ?_⟩
    obtain ⟨g7, d7, hd7, hx7⟩ := wd1.yields j H6 x7 H7 hlt1 gg6 y7
    have g7 := g7 t6 g16.gd
    have e7 := g7.st.st Dl _ e6 nv6
    rw [drop_at hd7] at run6
    obtain ⟨ρ7, hb7, run7⟩ := run6
    have ok7 := ok6.go g7
    refine ⟨wipeE ρ' vs1, t6, d7, ρ7, wipeE_ok vs1 ok7, hx7, hb7, fun σ7 okb hw7 => ⟨?_, ?_⟩⟩
    · rw [hw7 vs1 hp1, wipe_wipe]
    refine ⟨ρ7, t6, _, okb, run7, fun H8 t8 b8 g8 hq8 => ?_⟩
    have e8 := g8.st.st Dl _ e7 nv6
    have nv8 := g8.st.nvol (ne_none e7) nv6
    have hD8 := (hD6.ext (g7.ext g16.gd)).ext (g8.ext g7.gd)
    have g18 := (g16.trans g7).trans g8
    have x58 := (x56.trans (g7.ext g16.gd)).trans (g8.ext g7.gd)
    cases b8 with
    | false =>
      simp only [Bool.false_eq_true, if_false] at hq8 ⊢
      exact ⟨t8, g18, nv8, x58, ok7.go g8, acc6, ads6, e8, hD8, hq8⟩
    | true =>
      simp only [if_true] at hq8 ⊢
      refine ⟨ρ7, t8, _, okb.go g8, hq8, fun H9 t9 v y g9 hy ⟨hl9, run9⟩ => ?_⟩
      have e9 := g9.st.st Dl _ e8 nv8
      have nv9 := g9.st.nvol (ne_none e8) nv8
      have g19 := g18.trans g9
      obtain ⟨gg, xx⟩ := grow (y := v) g19 nD nv9 e9
      refine ⟨acc6, e9, by rw [← hD6.len]; exact hl9, t9, gg, nv9, (x58.trans (g9.ext g8.gd)).trans xx, ?_, acc6 ++ [v], ads6 ++ [y], upd_same, ((hD8.ext (g9.ext g8.gd)).ext xx).app (.cons (hy.ext xx) .nil), run9⟩
      -- the slots behind the growth: from the start of the whole
      have okH := ok.go (g1.trans gg)
      have okE := (ok7.go g8).go g9
      refine ⟨gg.gd, okH.st, okE.len, fun n d h => ?_, fun n ls h => ?_, okE.inj, fun n ls h => ?_, okE.injd⟩
      · obtain ⟨v', h1, h2⟩ := okE.val n d h
        exact ⟨v', h1, h2.ext xx⟩
      · obtain ⟨q0, vs0, h1, h2, h3, h4, h4v⟩ := okE.own n ls h
        refine ⟨q0, vs0, h1, ?_, h3.ext xx, h4, h4v⟩
        rw [upd_ne (fun z => ?_)]
        · exact h2
        · obtain ⟨h5, h6⟩ := wipeE_own (bindP_own hb h)
          have hs : σ'[n]? = σ[n]? := by
            rw [← wipe_at (σ := σ') h6, hw vs hp, wipe_wipe, wipe_at h6]
          rw [hs] at h1
          obtain ⟨q1, vs1', h7, h8, _⟩ := ok.own n ls h5
          rw [h1] at h7
          cases h7
          rw [z, nD0] at h8
          cases h8
      · obtain ⟨q0, vs0, h1, h2, h3, h4, h4v⟩ := okE.dct n ls h
        refine ⟨q0, vs0, h1, ?_, h3.ext xx, h4, h4v⟩
        rw [upd_ne (fun z => by rw [z, e9] at h2; cases h2)]
        exact h2
end
end J

set_option Elab.async false
set_option linter.all false
set_option maxRecDepth 100000
set_option maxHeartbeats 4000000
/-! J3: operators, built-ins, subscripts, equality, by data. -/
namespace J
open PySem PySem.Spec L2 RZ

/-! ### data as PyData, equality -/
mutual
def D.toP : D → PyData
  | .non => .none
  | .bl b => .bool b
  | .int i => .int i
  | .str x => .str x
  | .tup ds => .tuple (toPs ds)
  | .lst ds => .list (toPs ds)
  | .hdl _ => .dict []
  | .scr _ => .dict []
def toPs : List D → List PyData
  | [] => []
  | d :: ds => d.toP :: toPs ds
end
theorem toPs_map : ∀ ds : List D, toPs ds = ds.map D.toP
  | [] => rfl
  | d :: ds => by rw [toPs, List.map_cons, toPs_map ds]
section
variable {K : PySem.W.Frag} {H : Hp}
mutual
theorem Den.dp : ∀ {d : D} {v : V}, Den K H d v → SeqAt.shaped d.toP = true ∨ d.toP.canLay0 = true → Dp K H v d.toP
  | _, _, .non, _ => .non
  | _, _, .bl b, _ => .bl b
  | _, _, .int i, _ => .int i
  | _, _, .str x, _ => .str x
  | _, _, .tup h hs, c => .tup (.inl (.inl h)) (Dens.dp hs (by
      rcases c with c | c
      · have := SeqAt.canLay_of_shaped c
        simpa [D.toP, PyData.canLay0] using this
      · simpa [D.toP, PyData.canLay0] using c))
  | _, _, .lst h hs, c => .lst h.sq (Dens.dp hs (by
      rcases c with c | c
      · have := SeqAt.canLay_of_shaped c
        simpa [D.toP, PyData.canLay0] using this
      · simpa [D.toP, PyData.canLay0] using c))
  | _, _, .scr _, c => by
      rcases c with c | c
      · have := SeqAt.canLay_of_shaped c
        simp [D.toP, PyData.canLay0] at this
      · simp [D.toP, PyData.canLay0] at c
  | _, _, .hdl a, c => by
      rcases c with c | c
      · have := SeqAt.canLay_of_shaped c
        simp [D.toP, PyData.canLay0] at this
      · simp [D.toP, PyData.canLay0] at c
theorem Dens.dp : ∀ {ds : List D} {vs : List V}, Dens K H ds vs → PyData.canLayAll0 (toPs ds) = true → DpAll K H vs (toPs ds)
  | _, _, .nil, _ => .nil
  | _, _, .cons h hs, c => by
      rw [toPs, PyData.canLayAll0, Bool.and_eq_true] at c
      exact .cons (Den.dp h (.inr c.1)) (Dens.dp hs c.2)
end
end
def D.shp (d : D) : Prop := SeqAt.shaped d.toP = true
def D.eq (d e : D) : Bool := PyData.eqv d.toP e.toP

section
variable {T : Type} {X : Cx} {R : Rg T} {pos : Pos}
/-! ### operators on data -/
def fEq (d e : D) (Φ : D → Prop) : Prop := d.shp ∧ e.shp ∧ Φ (.bl (d.eq e))
def fNe (d e : D) (Φ : D → Prop) : Prop := d.shp ∧ e.shp ∧ Φ (.bl (!d.eq e))
theorem opd_eq (hK : X.K = R.K := by rfl) : Op2 R (rEqD X.K) fEq := fun t H x y dx dy Φ Q gd hx hy ⟨s1, s2, q⟩ k => by
  rw [hK]
  exact ⟨dx.toP, dy.toP, hx.dp (.inl s1), hy.dp (.inl s2), s1, s2, k H _ (.bl _) (.refl gd) (.bl _) q⟩
theorem opd_ne (hK : X.K = R.K := by rfl) : Op2 R (rNeD X.K) fNe := fun t H x y dx dy Φ Q gd hx hy ⟨s1, s2, q⟩ k => by
  rw [hK]
  exact ⟨dx.toP, dy.toP, hx.dp (.inl s1), hy.dp (.inl s2), s1, s2, k H _ (.bl _) (.refl gd) (.bl _) q⟩
def fI (C : Int → Int → Prop) (g : Int → Int → D) : D → D → (D → Prop) → Prop := fun d e Φ => ∃ i j, d = .int i ∧ e = .int j ∧ C i j ∧ Φ (g i j)
def fI0 (g : Int → Int → D) : D → D → (D → Prop) → Prop := fun d e Φ => ∃ i j, d = .int i ∧ e = .int j ∧ Φ (g i j)
theorem opd_I {C : Int → Int → Prop} {g : Int → Int → Int} : Op2 R (rI C fun i j => .int (g i j)) (fI C fun i j => .int (g i j)) := fun t H x y dx dy Φ Q gd hx hy ⟨i, j, e1, e2, c, q⟩ k => by
  subst e1 e2
  cases hx
  cases hy
  exact ⟨i, j, rfl, rfl, c, k H _ (.int _) (.refl gd) (.int _) q⟩
theorem opd_I0 {g : Int → Int → Int} : Op2 R (rI0 fun i j => .int (g i j)) (fI0 fun i j => .int (g i j)) := fun t H x y dx dy Φ Q gd hx hy ⟨i, j, e1, e2, q⟩ k => by
  subst e1 e2
  cases hx
  cases hy
  exact ⟨i, j, rfl, rfl, k H _ (.int _) (.refl gd) (.int _) q⟩
theorem opd_B0 {g : Int → Int → Bool} : Op2 R (rI0 fun i j => .bl (g i j)) (fI0 fun i j => .bl (g i j)) := fun t H x y dx dy Φ Q gd hx hy ⟨i, j, e1, e2, q⟩ k => by
  subst e1 e2
  cases hx
  cases hy
  exact ⟨i, j, rfl, rfl, k H _ (.bl _) (.refl gd) (.bl _) q⟩
/-- + of ints, of tuples -/
def addD : D → D → Option D
  | .int i, .int j => some (.int (i + j))
  | .tup xs, .tup ys => some (.tup (xs ++ ys))
  | _, _ => none
def D.small : D → Prop
  | .tup xs => xs.length ≤ sizeLine
  | _ => True
def fAdd (d e : D) (Φ : D → Prop) : Prop := ∃ z, addD d e = some z ∧ z.small ∧ Φ z
theorem op_addIT : OpR X (binaryOp .Add) (fun x y H Q => rI0 (fun i j => .int (i + j)) x y H Q ∨ rCatA X.K x y H Q) := op_add.or op_catA
theorem opd_add (hK : X.K = R.K := by rfl) : Op2 R (fun x y H Q => rI0 (fun i j => .int (i + j)) x y H Q ∨ rCatA X.K x y H Q) fAdd := fun t H x y dx dy Φ Q gd hx hy ⟨z, hz, hs, q⟩ k => by
  rw [hK]
  cases hx with
  | int i =>
    cases hy with
    | int j => cases hz; exact .inl ⟨i, j, rfl, rfl, k H _ (.int _) (.refl gd) (.int _) q⟩
    | _ => cases hz
  | @tup a vs xs hx hxs =>
    cases hy with
    | @tup b us ys hy hys =>
      cases hz
      refine .inr ⟨a, b, vs, us, rfl, rfl, .inl (.inl hx), .inl (.inl hy), ?_, fun e => ?_, fun _ e => ?_, fun _ _ p n => ?_⟩
      · have hs : (xs ++ ys).length ≤ sizeLine := hs
        rw [← hxs.len, ← hys.len, ← List.length_append]; exact hs
      · subst e
        cases hxs
        exact k H _ (.tup ys) (.refl gd) (.tup hy hys) (by simpa using q)
      · subst e
        cases hys
        exact k H _ (.tup xs) (.refl gd) (.tup hx hxs) (by simpa using q)
      · obtain ⟨g, h'⟩ := new_tup (R := R) gd n (hxs.app hys)
        exact k _ _ _ g h' q
    | _ => cases hz
  | _ => cases hz
/-! is -/
def fIsN (d e : D) (Φ : D → Prop) : Prop := e = .non ∧ Φ (.bl (match d with | .non => true | _ => false))
def fNotN (d e : D) (Φ : D → Prop) : Prop := e = .non ∧ Φ (.bl (match d with | .non => false | _ => true))
theorem opd_isN : Op2 R (fun x y H Q => y = V.non ∧ Q (.bl (decide (x = .non))) H) fIsN := fun t H x y dx dy Φ Q gd hx hy ⟨e, q⟩ k => by
  subst e
  cases hy
  refine ⟨rfl, k H _ (.bl _) (.refl gd) ?_ q⟩
  cases hx <;> first | exact .bl true | exact .bl false
theorem opd_notN : Op2 R (fun x y H Q => y = V.non ∧ Q (.bl (!decide (x = .non))) H) fNotN := fun t H x y dx dy Φ Q gd hx hy ⟨e, q⟩ k => by
  subst e
  cases hy
  refine ⟨rfl, k H _ (.bl _) (.refl gd) ?_ q⟩
  cases hx <;> first | exact .bl true | exact .bl false
def fB (g : Bool → Bool → Bool) : D → D → (D → Prop) → Prop := fun d e Φ => ∃ i j, d = .bl i ∧ e = .bl j ∧ Φ (.bl (g i j))
theorem opd_isB : Op2 R rIsB (fB fun a b => decide (a = b)) := fun t H x y dx dy Φ Q gd hx hy ⟨i, j, e1, e2, q⟩ k => by
  subst e1 e2
  cases hx
  cases hy
  exact ⟨i, j, rfl, rfl, k H _ (.bl _) (.refl gd) (.bl _) q⟩
theorem opd_notB : Op2 R rNotB (fB fun a b => !decide (a = b)) := fun t H x y dx dy Φ Q gd hx hy ⟨i, j, e1, e2, q⟩ k => by
  subst e1 e2
  cases hx
  cases hy
  exact ⟨i, j, rfl, rfl, k H _ (.bl _) (.refl gd) (.bl _) q⟩
theorem opd_neg : Op1 R (rU fun i => .int (-i)) (fun d Φ => ∃ i, d = .int i ∧ Φ (.int (-i))) := fun t H x dx Φ Q gd hx ⟨i, e, q⟩ k => by
  subst e
  cases hx
  exact ⟨i, rfl, k H _ (.int _) (.refl gd) (.int _) q⟩

/-! ### subscripts -/
def fIx (d e : D) (Φ : D → Prop) : Prop := ∃ n ds x, e = .int n ∧ d.items = some ds ∧ atI ds n = some x ∧ Φ x
theorem Dens.atI {K : PySem.W.Frag} {H : Hp} {ds : List D} {vs : List V} {n : Int} {d : D} (hs : Dens K H ds vs) (e : L2.atI ds n = some d) : ∃ v, L2.atI vs n = some v ∧ Den K H d v := by
  unfold L2.atI at e ⊢
  rw [← hs.len]
  cases q : ixN ds.length n with
  | none => rw [q] at e; cases e
  | some j =>
    rw [q] at e
    obtain ⟨v, h1, h2⟩ := hs.get (i := j) (d := d) e
    exact ⟨v, h1, h2⟩
def rIxD (K : PySem.W.Frag) : R2 := fun x y H Q => rIxL K x y H Q ∨ rIxT K x y H Q
theorem ix_d : IxR X (rIxD X.K) := ix_list.or ix_tup
theorem opd_ix (hK : X.K = R.K := by rfl) : Op2 R (rIxD X.K) fIx := fun t H x y dx dy Φ Q gd hx hy ⟨n, ds, d, e, hi, ha, q⟩ k => by
  subst e
  rw [hK]
  cases hy
  cases hx with
  | tup ht hs =>
    cases hi
    obtain ⟨v, h1, h2⟩ := hs.atI ha
    exact .inr ⟨_, _, n, v, rfl, rfl, .inl (.inl ht), h1, k H v d (.refl gd) h2 q⟩
  | lst ht hs =>
    cases hi
    obtain ⟨v, h1, h2⟩ := hs.atI ha
    exact .inl ⟨_, _, n, v, rfl, rfl, ht.sq, h1, k H v d (.refl gd) h2 q⟩
  | _ => cases hi
variable {a b : Expr} {wa wb : W T}
theorem E_ix (ha : PE X a (E R wa)) (hb : PE X b (E R wb)) (hs : PlainIx b := by intro _ _; rfl) (hK : X.K = R.K := by rfl) : PE X (.Subscript a b pos) (E R (wBin fIx wa wb)) :=
  PE_imp (pe_ix ix_d ha hb hs) (tOp_E (opd_ix hK))
/-! slices -/
abbrev WO (T : Type) := Env → (Option Int → T → Prop) → T → Prop
def EO {T : Type} (R : Rg T) (w : WO T) : TO := fun σ H Q => ∃ ρ t Φ, EnvOk R t H σ ρ ∧ w ρ Φ t ∧ ∀ H' t' o, R.Go t H t' H' → Φ o t' → Q o H'
theorem PO_imp {X : Cx} {e : Option Expr} {t t' : TO} (h : PO X e t) (i : ∀ σ H Q, t' σ H Q → t σ H Q) : PO X e t' := ⟨fun pins s σ H Q I q => h.run pins s σ H Q I (i σ H Q q)⟩
def wNoO : WO T := fun _ Φ => Φ none
def wSomeO (w : W T) : WO T := fun ρ Φ => w ρ fun d t => ∃ i, d = .int i ∧ Φ (some i) t
theorem EO_none : PO X none (EO R wNoO) := PO_imp po_none fun σ H Q ⟨ρ, t, Φ, ok, q, k⟩ => k H _ none (.refl ok.gd) q
theorem EO_some (h : PE X a (E R wa)) : PO X (some a) (EO R (wSomeO wa)) := PO_imp (po_some h) fun σ H Q ⟨ρ, t, Φ, ok, q, k⟩ =>
  ⟨ρ, _, _, ok, q, fun H1 t1 v d g hD ⟨i, e, q⟩ => by
    subst e
    cases hD
    exact ⟨i, rfl, k H1 _ _ g q⟩⟩
def cutD (xs : List D) (lo hi : Option Int) : List D := (xs.drop (HT.sIx xs.length 0 lo)).take (HT.sIx xs.length xs.length hi - HT.sIx xs.length 0 lo)
theorem Dens.cut {K : PySem.W.Frag} {H : Hp} {ds : List D} {vs : List V} (hs : Dens K H ds vs) (lo hi : Option Int) : Dens K H (cutD ds lo hi) (cutV vs lo hi) := by
  unfold cutD cutV
  rw [hs.len]
  exact (hs.drop _).take _
theorem cutD_whole (xs : List D) (lo hi : Option Int) (h : HT.sIx xs.length 0 lo = 0 ∧ HT.sIx xs.length xs.length hi = xs.length) : cutD xs lo hi = xs := by
  unfold cutD
  rw [h.1, h.2]
  simp
def wSl (w : W T) (wl wh : WO T) : W T := fun ρ Φ => w ρ fun d => wl ρ fun l => wh ρ fun u t => ∃ xs, d = .tup xs ∧ Φ (.tup (cutD xs l u)) t
/-- a slice of a tuple -/
theorem E_slT {lo hi : Option Expr} {p2 : Pos} {wl wh : WO T} (ha : PE X a (E R wa)) (hl : PO X lo (EO R wl)) (hh : PO X hi (EO R wh)) (hK : X.K = R.K := by rfl) : PE X (.Subscript a (.Slice lo hi none p2) pos) (E R (wSl wa wl wh)) :=
  PE_imp (pe_slice sl_tupA ha hl hh) fun σ H Q ⟨ρ, t, Φ, ok, q, k⟩ => by
    refine ⟨ρ, _, _, ok, q, fun H1 t1 v d g1 hD q1 => ⟨ρ, _, _, ok.go g1, q1, fun H2 t2 l g2 q2 => ⟨ρ, _, _, (ok.go g1).go g2, q2, fun H3 t3 u g3 ⟨xs, e, q3⟩ => ?_⟩⟩⟩
    subst e
    rw [hK]
    have hD3 := (hD.ext (g2.ext g1.gd)).ext (g3.ext g2.gd)
    have g := g1.trans (g2.trans g3)
    cases hD3 with
    | @tup a vs _ ht hs =>
      refine ⟨a, vs, rfl, .inl (.inl ht), fun hw => ?_, fun hw p n => ?_⟩
      · refine k H3 _ _ (.tup (cutD xs l u)) g (.tup ht ?_) q3
        rw [cutD_whole xs l u (by rw [hs.len]; exact hw)]
        exact hs
      · obtain ⟨g4, D4⟩ := new_tup (R := R) g3.gd n (hs.cut l u)
        exact k _ _ _ _ (g.trans g4) D4 q3
def wSlL (w : W T) (wl wh : WO T) : WL T := fun ρ Φ => w ρ fun d => wl ρ fun l => wh ρ fun u t => ∃ xs, d = .lst xs ∧ Φ (cutD xs l u) t
theorem EL_slL {lo hi : Option Expr} {p2 : Pos} {wl wh : WO T} (ha : PE X a (E R wa)) (hl : PO X lo (EO R wl)) (hh : PO X hi (EO R wh)) (hK : X.K = R.K := by rfl) : PE X (.Subscript a (.Slice lo hi none p2) pos) (EL R (wSlL wa wl wh)) :=
  PE_imp (pe_slice sl_list ha hl hh) fun σ H Q ⟨ρ, t, Φ, ok, q, k⟩ => by
    refine ⟨ρ, _, _, ok, q, fun H1 t1 v d g1 hD q1 => ⟨ρ, _, _, ok.go g1, q1, fun H2 t2 l g2 q2 => ⟨ρ, _, _, (ok.go g1).go g2, q2, fun H3 t3 u g3 ⟨xs, e, q3⟩ => ?_⟩⟩⟩
    subst e
    rw [hK]
    have hD3 := (hD.ext (g2.ext g1.gd)).ext (g3.ext g2.gd)
    have g := g1.trans (g2.trans g3)
    cases hD3 with
    | @lst a vs _ ht hs =>
      refine ⟨a, vs, rfl, ht.sq, fun p n => ?_⟩
      obtain ⟨g4, nv, D4⟩ := new_lst (R := R) g3.gd n (hs.cut l u)
      exact k _ _ p _ _ (g.trans g4) (none_of_go g n) upd_same nv D4 q3

/-! ### lists put together -/
theorem Inv.lstR {pins : List (Addr × Obj)} {σ : L2.St} {H : Hp} {s : Shared} {l : Addr} {xs : List V} (I : L2.Inv X pins σ H s) (hH : Rd H l (.lst xs)) : xs.length ≤ sizeLine ∧ ∃ (its : List Value) (n : Nat), Vals xs its ∧ xs.length = its.length ∧ s.heap.get? l = some { cls := .type "list", data := .seq its.toArray n } := by
  obtain ⟨z, its, n, r, e⟩ := hH.ok I.hok
  exact ⟨z, its, n, r, r.length, e⟩
def rCatR : R2 := fun x y H Q => ∃ l b xs zs, x = .ref l ∧ y = .ref b ∧ Rd H l (.lst xs) ∧ Rd H b (.lst zs) ∧ xs.length + zs.length ≤ sizeLine ∧ ∀ p, H p = none → Q (.ref p) (upd H p (.lst (xs ++ zs)))
theorem op_catR : OpR X (binaryOp .Add) rCatR := by
  intro pins s σ H x y v u Q I rx ry h
  obtain ⟨l, b, xs, zs, rfl, rfl, hH, hB, hz, q⟩ := h
  cases rx
  cases ry
  obtain ⟨z, its, n, r, hl, e⟩ := Inv.lstR I hH
  obtain ⟨z2, its2, n2, r2, hl2, e2⟩ := Inv.lstR I hB
  refine PySem.P.add_list e e2 ?_ (by rw [List.size_toArray, List.size_toArray]; omega)
  have ea : its.toArray ++ its2.toArray = (its ++ its2).toArray := by simp
  rw [ea]
  exact ⟨.ref _, _, I.lnew (t' := s.toks) (r.append r2) (by rw [List.length_append]; omega), rfl, q _ I.fresh⟩
/-- what lays a new list of two operands, by data -/
def Op2L (R : Rg T) (r : R2) (f : D → D → (List D → Prop) → Prop) : Prop := ∀ t H x y dx dy Φ (Q : VK), R.Gd t H → Den R.K H dx x → Den R.K H dy y → f dx dy Φ → (∀ p vs ds, H p = none → Dens R.K H ds vs → Φ ds → Q (.ref p) (upd H p (.lst vs))) → r x y H Q
theorem EL_bin {op : Operator} {r : R2} {f : D → D → (List D → Prop) → Prop} (ho : OpR X (binaryOp op) r) (hf : Op2L R r f) (ha : PE X a (E R wa)) (hb : PE X b (E R wb)) : PE X (.BinOp a op b pos) (EL R (fun ρ Φ => wa ρ fun x => wb ρ fun y t => f x y fun ds => Φ ds t)) :=
  PE_imp (pe_op ho ha hb) fun σ H Q ⟨ρ, t, Φ, ok, q, k⟩ => by
    refine ⟨ρ, _, _, ok, q, fun H1 t1 v1 d1 g1 D1 q1 => ⟨ρ, _, _, ok.go g1, q1, fun H2 t2 v2 d2 g2 D2 q2 => ?_⟩⟩
    refine hf t2 H2 v1 v2 d1 d2 _ Q g2.gd (D1.ext (g2.ext g1.gd)) D2 q2 fun p vs ds n hD hq => ?_
    obtain ⟨g3, nv, D3⟩ := new_lst (R := R) g2.gd n hD
    have g := g1.trans g2
    exact k _ _ p vs ds (g.trans g3) (none_of_go g n) upd_same nv D3 hq
def fCat (d e : D) (Φ : List D → Prop) : Prop := ∃ xs ys, d = .lst xs ∧ e = .lst ys ∧ xs.length + ys.length ≤ sizeLine ∧ Φ (xs ++ ys)
theorem opd_cat : Op2L R rCatR fCat := fun t H x y dx dy Φ Q gd hx hy ⟨xs, ys, e1, e2, hl, q⟩ k => by
  subst e1 e2
  cases hx with
  | lst ha hs =>
    cases hy with
    | lst hb hs' => exact ⟨_, _, _, _, rfl, rfl, ha.rd, hb.rd, by rw [← hs.len, ← hs'.len]; exact hl, fun p n => k p _ _ n (hs.app hs') q⟩
end
end J

set_option Elab.async false
set_option linter.all false
set_option maxRecDepth 100000
set_option maxHeartbeats 4000000
/-! J4: built-in calls, calls of defs, statements. -/
namespace J
open PySem PySem.Spec L2 RZ
theorem b_len : bootBuiltins "len" = some (.builtin "len") := by decide +kernel
theorem b_abs : bootBuiltins "abs" = some (.builtin "abs") := by decide +kernel
theorem b_sum : bootBuiltins "sum" = some (.builtin "sum") := by decide +kernel
theorem b_max : bootBuiltins "max" = some (.builtin "max") := by decide +kernel
theorem b_min : bootBuiltins "min" = some (.builtin "min") := by decide +kernel
theorem b_all : bootBuiltins "all" = some (.builtin "all") := by decide +kernel
theorem b_any : bootBuiltins "any" = some (.builtin "any") := by decide +kernel
theorem b_isinstance : bootBuiltins "isinstance" = some (.builtin "isinstance") := by decide +kernel
theorem b_sorted : bootBuiltins "sorted" = some (.builtin "sorted") := by decide +kernel
theorem b_tuple : bootBuiltins "tuple" = some (.type "tuple") := by decide +kernel
theorem b_list : bootBuiltins "list" = some (.type "list") := by decide +kernel
theorem b_int : bootBuiltins "int" = some (.type "int") := by decide +kernel
theorem b_bool : bootBuiltins "bool" = some (.type "bool") := by decide +kernel
theorem b_str : bootBuiltins "str" = some (.type "str") := by decide +kernel

section
variable {T : Type} {X : Cx} {R : Rg T} {pos : Pos}
/-! ### built-in calls, by data -/
def OpN (R : Rg T) (r : List V → Hp → VK → Prop) (f : List D → (D → Prop) → Prop) : Prop := ∀ t H vs ds Φ (Q : VK), R.Gd t H → Dens R.K H ds vs → f ds Φ → (∀ H' v d, R.Go t H t H' → Den R.K H' d v → Φ d → Q v H') → r vs H Q
def wCall (f : List D → (D → Prop) → Prop) (w : WA T) : W T := fun ρ Φ => w ρ fun ds t => f ds fun d => Φ d t
theorem E_cb {e : Expr} {r : List V → Hp → VK → Prop} {f : List D → (D → Prop) → Prop} {es : List Expr} {w : WA T} (h : ∀ {t}, PA X es t → PE X e (tCB r t)) (hf : OpN R r f) (ha : PA X es (EA R w)) : PE X e (E R (wCall f w)) :=
  PE_imp (h ha) fun σ H Q ⟨ρ, t, Φ, ok, q, k⟩ => ⟨ρ, _, _, ok, q, fun H1 t1 vs ds g hD hq => hf t1 H1 vs ds _ Q g.gd hD hq fun H2 v d g2 hD2 hq2 => k H2 _ v d (g.trans g2) hD2 hq2⟩
def OpNL (R : Rg T) (r : List V → Hp → VK → Prop) (f : List D → (List D → Prop) → Prop) : Prop := ∀ t H vs ds Φ (Q : VK), R.Gd t H → Dens R.K H ds vs → f ds Φ → (∀ p us es, H p = none → Dens R.K H es us → Φ es → Q (.ref p) (upd H p (.lst us))) → r vs H Q
theorem EL_cb {e : Expr} {r : List V → Hp → VK → Prop} {f : List D → (List D → Prop) → Prop} {es : List Expr} {w : WA T} (h : ∀ {t}, PA X es t → PE X e (tCB r t)) (hf : OpNL R r f) (ha : PA X es (EA R w)) : PE X e (EL R (fun ρ Φ => w ρ fun ds t => f ds fun es => Φ es t)) :=
  PE_imp (h ha) fun σ H Q ⟨ρ, t, Φ, ok, q, k⟩ => ⟨ρ, _, _, ok, q, fun H1 t1 vs ds g hD hq => hf t1 H1 vs ds _ Q g.gd hD hq fun p us es n hE hq2 => by
    obtain ⟨g2, nv, D2⟩ := new_lst (R := R) g.gd n hE
    exact k _ _ p us es (g.trans g2) (none_of_go g n) upd_same nv D2 hq2⟩
theorem Dens.one {K : PySem.W.Frag} {H : Hp} {d : D} {vs : List V} (h : Dens K H [d] vs) : ∃ v, vs = [v] ∧ Den K H d v := by
  cases h with
  | cons h hs => cases hs; exact ⟨_, rfl, h⟩
theorem Dens.two {K : PySem.W.Frag} {H : Hp} {d e : D} {vs : List V} (h : Dens K H [d, e] vs) : ∃ v u, vs = [v, u] ∧ Den K H d v ∧ Den K H e u := by
  cases h with
  | cons h hs =>
    obtain ⟨u, rfl, h2⟩ := hs.one
    exact ⟨_, u, rfl, h, h2⟩
def D.lenI : D → Option (List D)
  | .tup ds => some ds
  | .lst ds => some ds
  | .scr ns => some (ns.map .int)
  | _ => none
theorem lenI_tup (ds : List D) : D.lenI (.tup ds) = some ds := rfl
theorem lenI_lst (ds : List D) : D.lenI (.lst ds) = some ds := rfl
theorem lenI_scr (ns : List Int) : D.lenI (.scr ns) = some (ns.map .int) := rfl
def fLen (ds : List D) (Φ : D → Prop) : Prop := ∃ d xs, ds = [d] ∧ d.lenI = some xs ∧ Φ (.int xs.length)
theorem opn_len (hK : X.K = R.K := by rfl) : OpN R (fun xs H Q => ∃ p ys, xs = [.ref p] ∧ (SqL X.K H p ys ∨ SqT X.K H p ys) ∧ Q (.int ys.length) H) fLen := fun t H vs ds Φ Q gd hD ⟨d, xs, e, hi, q⟩ k => by
  rw [hK]
  subst e
  obtain ⟨v, rfl, hv⟩ := hD.one
  cases hv with
  | tup ht hs => cases hi; exact ⟨_, _, rfl, .inr (.inl (.inl ht)), k H _ (.int _) (.refl gd) (by rw [← hs.len]; exact .int _) q⟩
  | lst ht hs => cases hi; exact ⟨_, _, rfl, .inl ht.sq, k H _ (.int _) (.refl gd) (by rw [← hs.len]; exact .int _) q⟩
  | scr ha => cases hi; exact ⟨_, _, rfl, .inl ha.sq, k H _ (.int _) (.refl gd) (by rw [List.length_map, List.length_map]; exact .int _) q⟩
  | _ => cases hi
def fAbs (ds : List D) (Φ : D → Prop) : Prop := ∃ i : Int, ds = [.int i] ∧ Φ (.int (if i < 0 then -i else i))
theorem opn_abs : OpN R (fun xs H Q => ∃ i, xs = [.int i] ∧ Q (.int (if i < 0 then -i else i)) H) fAbs := fun t H vs ds Φ Q gd hD ⟨i, e, q⟩ k => by
  subst e
  obtain ⟨v, rfl, hv⟩ := hD.one
  cases hv
  exact ⟨i, rfl, k H _ (.int _) (.refl gd) (.int _) q⟩
def fMin2 (ds : List D) (Φ : D → Prop) : Prop := ∃ i j : Int, ds = [.int i, .int j] ∧ Φ (.int (if j < i then j else i))
theorem opn_min2 : OpN R (fun xs H Q => ∃ i j : Int, xs = [.int i, .int j] ∧ Q (.int (if j < i then j else i)) H) fMin2 := fun t H vs ds Φ Q gd hD ⟨i, j, e, q⟩ k => by
  subst e
  obtain ⟨v, u, rfl, hv, hu⟩ := hD.two
  cases hv; cases hu
  exact ⟨i, j, rfl, k H _ (.int _) (.refl gd) (.int _) q⟩
def fMax2 (ds : List D) (Φ : D → Prop) : Prop := ∃ i j : Int, ds = [.int i, .int j] ∧ Φ (.int (if j > i then j else i))
theorem opn_max2 : OpN R (fun xs H Q => ∃ i j : Int, xs = [.int i, .int j] ∧ Q (.int (if j > i then j else i)) H) fMax2 := fun t H vs ds Φ Q gd hD ⟨i, j, e, q⟩ k => by
  subst e
  obtain ⟨v, u, rfl, hv, hu⟩ := hD.two
  cases hv; cases hu
  exact ⟨i, j, rfl, k H _ (.int _) (.refl gd) (.int _) q⟩
def intD : D → Option Int
  | .int i => some i
  | .bl b => some (if b then 1 else 0)
  | _ => none
def fInt (ds : List D) (Φ : D → Prop) : Prop := ∃ d i, ds = [d] ∧ intD d = some i ∧ Φ (.int i)
theorem opn_int : OpN R (fun xs H Q => (∃ i, xs = [.int i] ∧ Q (.int i) H) ∨ ∃ k, xs = [.bl k] ∧ Q (.int (if k then 1 else 0)) H) fInt := fun t H vs ds Φ Q gd hD ⟨d, i, e, hi, q⟩ k => by
  subst e
  obtain ⟨v, rfl, hv⟩ := hD.one
  cases hv with
  | int i => cases hi; exact .inl ⟨_, rfl, k H _ (.int _) (.refl gd) (.int _) q⟩
  | bl b => cases hi; exact .inr ⟨b, rfl, k H _ (.int _) (.refl gd) (.int _) q⟩
  | _ => cases hi
/-! sums, greatest, least of lists and tuples of ints -/
def Sq (K : PySem.W.Frag) (H : Hp) (a : Addr) (xs : List V) : Prop := SqL K H a xs ∨ SqT K H a xs
def rSumS (K : PySem.W.Frag) : List V → Hp → VK → Prop := fun vs H Q => ∃ (a : Addr) (ns : List Int), vs = [V.ref a] ∧ Sq K H a (ns.map V.int) ∧ Q (.int ns.sum) H
theorem cr_sumS (hc : X.calm = true) : CallR X (.builtin "sum") (rSumS X.K) := by
  intro pins s σ H vs us Q I r h
  obtain ⟨a, ns, rfl, hs, q⟩ := h
  rcases hs with hs | hs
  · exact cr_sum hc pins s σ H _ us Q I r ⟨a, ns, rfl, hs, q⟩
  · obtain ⟨its, rv, ht, _⟩ := I.tuple hs
    rw [Vals.ref1 r]
    obtain ⟨xs, hx⟩ := rv.ints.allInts.items
    have hn : PySem.numsOf (intItems xs).toList = ns := by rw [← hx]; exact rv.ints.numsOf
    rw [nums_intItems] at hn
    have ht2 : s.heap.IsTuple a its.toArray := ht
    rw [hx] at ht2
    refine PySem.W.ktm_sumG (I.ok.hd hc) ht2 fun h' tk t' hk => ⟨.int ns.sum, H, I.kept hk, ?_, q⟩
    refine ⟨t', ?_⟩
    rw [preSum_eq, List.take_of_length_le (by simp), hn]

theorem max_rawT {prog : Program} {w : World} {A : Around} {E : Value → Shared → Prop} {s : Shared} {l : Addr} {its : List Value} {ns : List Int} {Q : Value → Shared → Prop} (hh : A.handled = none) (hl : s.heap.IsTuple l its.toArray) (hi : PyProof.Rows.IntsAre its ns) (hne : 0 < ns.length)
    (h : ∀ h' tk M t', (∀ b o, s.heap.get? b = some o → h'.get? b = some o) → M ∈ ns → (∀ a, a ∈ ns → a ≤ M) → Q (.int M t') { s with heap := h', toks := tk }) : wpAny (model prog w) A (call (.builtin "max") [.ref l]) Q E s := by
  obtain ⟨xs, e⟩ := hi.allInts.items
  have hn : numsOf (intItems xs).toList = ns := by rw [← e]; exact hi.numsOf
  rw [nums_intItems] at hn
  subst hn
  rw [e] at hl
  have hsz : 0 < xs.size := by simpa using hne
  obtain ⟨ob, ho, hc, n, hd⟩ := id hl
  have hlt : l < s.heap.objs.size := Heap.lt_size ho
  refine call_max_walk (wpAny_pyIter_tuple hl ?_)
  refine ⟨_, _, _, _, _, _, _, rfl, Walks.tuple (A := A.in1) hh _ l (Nat.ne_of_lt hlt) (intItems xs), ⟨⟨_, Heap.get?_push_size _ rfl, rfl, rfl⟩, hl.at fun o e => Heap.get?_push_of_some _ e⟩, fun b hb => ?_, by simpa [intItems] using hne, CmpOf.ints_gt (numAt xs) (fun _ _ => intItems_at), fun v h' tk hP hk => ?_⟩
  · show b < (s.heap.push _).objs.size
    rw [Heap.size_push]
    rcases List.mem_cons.mp hb with rfl | hb
    · exact Nat.lt_succ_self _
    · rcases List.mem_cons.mp hb with rfl | hb
      · exact Nat.lt_succ_of_lt hlt
      · cases hb
  · have hv : (intItems xs)[argBest (fun i j => decide (numAt xs i > numAt xs j)) (xs.size - 1)]? = some v := by simpa [intItems] using hP
    obtain ⟨t, rfl⟩ := intItems_at hv
    obtain ⟨h1, h2⟩ := argBest_gt (numAt xs) (xs.size - 1)
    refine h h' tk _ t (fun b o e => hk b o (fun hb => ?_) (Heap.get?_push_of_some _ e)) ?_ fun a ha => ?_
    · exact absurd (Heap.lt_size e) ((List.mem_singleton.mp hb) ▸ Nat.lt_irrefl _)
    · rw [numAt_eq]; exact PySem.getD_mem (by rw [List.length_map, Array.length_toList]; omega)
    · obtain ⟨j, hj, rfl⟩ := mem_getD ha
      rw [List.length_map, Array.length_toList] at hj
      rw [← numAt_eq]; exact h2 j (by omega)
def rMaxS (K : PySem.W.Frag) : List V → Hp → VK → Prop := fun vs H Q => ∃ (a : Addr) (ns : List Int), vs = [V.ref a] ∧ Sq K H a (ns.map V.int) ∧ 0 < ns.length ∧ ∀ m, m ∈ ns → (∀ y, y ∈ ns → y ≤ m) → Q (.int m) H
theorem cr_maxS (hc : X.calm = true) : CallR X (.builtin "max") (rMaxS X.K) := by
  intro pins s σ H vs us Q I r h
  obtain ⟨a, ns, rfl, hs, hne, q⟩ := h
  rcases hs with hs | hs
  · exact cr_max hc pins s σ H _ us Q I r ⟨a, ns, rfl, hs, hne, q⟩
  · obtain ⟨its, rv, ht, _⟩ := I.tuple hs
    rw [Vals.ref1 r]
    exact max_rawT (I.ok.hd hc) (show s.heap.IsTuple a its.toArray from ht) rv.ints hne fun h' tk m t' hk h1 h2 => ⟨.int _, H, I.kept hk, ⟨_, rfl⟩, q m h1 h2⟩
def IsInts (d : D) (ns : List Int) : Prop := d = .lst (ns.map .int) ∨ d = .tup (ns.map .int)
theorem IsInts.sq {K : PySem.W.Frag} {H : Hp} {d : D} {ns : List Int} {v : V} (h : IsInts d ns) (hv : Den K H d v) : ∃ a, v = .ref a ∧ Sq K H a (ns.map V.int) := by
  rcases h with e | e
  · subst e
    cases hv with
    | lst ht hs => rw [hs.ints] at ht; exact ⟨_, rfl, .inl ht.sq⟩
  · subst e
    cases hv with
    | tup ht hs => rw [hs.ints] at ht; exact ⟨_, rfl, .inr (.inl (.inl ht))⟩
def fSum (ds : List D) (Φ : D → Prop) : Prop := ∃ d ns, ds = [d] ∧ IsInts d ns ∧ Φ (.int ns.sum)
theorem opn_sum (hK : X.K = R.K := by rfl) : OpN R (rSumS X.K) fSum := fun t H vs ds Φ Q gd hD ⟨d, ns, e, hi, q⟩ k => by
  subst e
  rw [hK]
  obtain ⟨v, rfl, hv⟩ := hD.one
  obtain ⟨a, rfl, hs⟩ := hi.sq hv
  exact ⟨a, ns, rfl, hs, k H _ (.int _) (.refl gd) (.int _) q⟩
def fMax (ds : List D) (Φ : D → Prop) : Prop := ∃ d ns, ds = [d] ∧ IsInts d ns ∧ 0 < ns.length ∧ ∀ m, m ∈ ns → (∀ y ∈ ns, y ≤ m) → Φ (.int m)
theorem opn_max (hK : X.K = R.K := by rfl) : OpN R (rMaxS X.K) fMax := fun t H vs ds Φ Q gd hD ⟨d, ns, e, hi, hl, q⟩ k => by
  subst e
  rw [hK]
  obtain ⟨v, rfl, hv⟩ := hD.one
  obtain ⟨a, rfl, hs⟩ := hi.sq hv
  exact ⟨a, ns, rfl, hs, hl, fun m h1 h2 => k H _ (.int _) (.refl gd) (.int _) (q m h1 h2)⟩
def fAll (ds : List D) (Φ : D → Prop) : Prop := ∃ bs : List Bool, ds = [.lst (bs.map .bl)] ∧ Φ (.bl (bs.all id))
theorem opn_all (hK : X.K = R.K := by rfl) : OpN R (rAll X.K) fAll := fun t H vs ds Φ Q gd hD ⟨bs, e, q⟩ k => by
  subst e
  rw [hK]
  obtain ⟨v, rfl, hv⟩ := hD.one
  cases hv with
  | lst ht hs => rw [hs.bls] at ht; exact ⟨_, bs, rfl, ht.sq, k H _ (.bl _) (.refl gd) (.bl _) q⟩
def fAny (ds : List D) (Φ : D → Prop) : Prop := ∃ bs : List Bool, ds = [.lst (bs.map .bl)] ∧ Φ (.bl (bs.any id))
theorem opn_any (hK : X.K = R.K := by rfl) : OpN R (rAny X.K) fAny := fun t H vs ds Φ Q gd hD ⟨bs, e, q⟩ k => by
  subst e
  rw [hK]
  obtain ⟨v, rfl, hv⟩ := hD.one
  cases hv with
  | lst ht hs => rw [hs.bls] at ht; exact ⟨_, bs, rfl, ht.sq, k H _ (.bl _) (.refl gd) (.bl _) q⟩
/-! tuple(x), list(x) -/
def fTuple (ds : List D) (Φ : D → Prop) : Prop := ∃ d xs, ds = [d] ∧ d.items = some xs ∧ Φ (.tup xs)
theorem opn_tuple (hK : X.K = R.K := by rfl) : OpN R (fun xs H Q => ∃ p ys, xs = [.ref p] ∧ ((SqL X.K H p ys ∧ ∀ l, H l = none → Q (.ref l) (upd H l (.tup ys))) ∨ (SqT X.K H p ys ∧ Q (.ref p) H))) fTuple := fun t H vs ds Φ Q gd hD ⟨d, xs, e, hi, q⟩ k => by
  rw [hK]
  subst e
  obtain ⟨v, rfl, hv⟩ := hD.one
  cases hv with
  | lst ht hs =>
    cases hi
    exact ⟨_, _, rfl, .inl ⟨ht.sq, fun p n => by
      obtain ⟨g, h'⟩ := new_tup (R := R) gd n hs
      exact k _ _ _ g h' q⟩⟩
  | tup ht hs => cases hi; exact ⟨_, _, rfl, .inr ⟨.inl (.inl ht), k H _ (.tup xs) (.refl gd) (.tup ht hs) q⟩⟩
  | _ => cases hi
def fList (ds : List D) (Φ : List D → Prop) : Prop := ∃ d xs, ds = [d] ∧ d.items = some xs ∧ Φ xs
theorem opn_list (hK : X.K = R.K := by rfl) : OpNL R (fun xs H Q => ∃ p ys, xs = [.ref p] ∧ (SqL X.K H p ys ∨ SqT X.K H p ys) ∧ ∀ l, H l = none → Q (.ref l) (upd H l (.lst ys))) fList := fun t H vs ds Φ Q gd hD ⟨d, xs, e, hi, q⟩ k => by
  rw [hK]
  subst e
  obtain ⟨v, rfl, hv⟩ := hD.one
  cases hv with
  | lst ht hs => cases hi; exact ⟨_, _, rfl, .inl ht.sq, fun p n => k p _ xs n hs q⟩
  | tup ht hs => cases hi; exact ⟨_, _, rfl, .inr (.inl (.inl ht)), fun p n => k p _ xs n hs q⟩
  | _ => cases hi
/-! isinstance of data -/
def D.ty : D → String
  | .non => "NoneType"
  | .bl _ => "bool"
  | .int _ => "int"
  | .str _ => "str"
  | .tup _ => "tuple"
  | .lst _ => "list"
  | .hdl _ => "?"
  | .scr _ => "?"
/-- isinstance(d, T) of a built-in T -/
def isiB (t T : String) : Bool := t == T || (t == "bool" && T == "int")
theorem kit_all : ∀ t ∈ ["NoneType", "bool", "int", "str", "tuple", "list"], ∀ T ∈ ["bool", "int", "str", "tuple", "list"], kitB t T = some (isiB t T) := by decide +kernel
theorem Den.ty {K : PySem.W.Frag} {H : Hp} {d : D} {v : V} (h : Den K H d v) (hd : d.ty ≠ "?") : TyX K H v (.type d.ty) := by
  cases h with
  | non => exact .base .non
  | bl b => exact .base (.bl b)
  | int b => exact .base (.int b)
  | str b => exact .base (.str b)
  | tup ht hs =>
    exact .base (.tup ht)
  | lst ht hs =>
    obtain ⟨o, h⟩ := ht
    exact .base (.frz h)
  | hdl a => exact absurd rfl hd
  | scr _ => exact absurd rfl hd
theorem D.ty_mem (d : D) (hd : d.ty ≠ "?") : d.ty ∈ ["NoneType", "bool", "int", "str", "tuple", "list"] := by
  cases d <;> first | exact absurd rfl hd | simp [D.ty]
def wIsi (ty : String) (w : W T) : W T := fun ρ Φ => w ρ fun d t => d.ty ≠ "?" ∧ Φ (.bl (isiB d.ty ty)) t
theorem E_isi {a : Expr} {w : W T} {e : Expr} {ty : String} (hT : ty ∈ ["bool", "int", "str", "tuple", "list"]) (h : PE X a (E R w) → PE X e (tCB (rIsi X.K) (tCons (E R w) (tCons (tC (.ty ty)) tNil)))) (ha : PE X a (E R w)) (hK : X.K = R.K := by rfl) : PE X e (E R (wIsi ty w)) :=
  PE_imp (h ha) fun σ H Q ⟨ρ, t, Φ, ok, q, k⟩ => ⟨ρ, _, _, ok, q, fun H1 t1 v d g hD ⟨hd, hq⟩ => by
    refine ⟨v, .ty ty, .type d.ty, .type ty, isiB d.ty ty, rfl, .ty ty, by rw [hK]; exact hD.ty hd, kit_ty (kit_all d.ty (d.ty_mem hd) ty hT), ?_⟩
    exact k H1 _ _ (.bl _) g (.bl _) hq⟩
end
end J

set_option Elab.async false
set_option linter.all false
set_option maxRecDepth 100000
set_option maxHeartbeats 4000000
/-! J5: calls of defs, statements, a def's promise. -/
namespace J
open PySem PySem.Spec L2 RZ

/-! ### calls of defs -/
abbrev FS := List D → (D → Prop) → Prop
abbrev FST (T : Type) := List D → (D → T → Prop) → T → Prop
/-- under the regime R the promise sp gives what fs says -/
def Tk {T : Type} (R : Rg T) (sp : Sp) (fs : FST T) : Prop := ∀ t H vs ds Φ (Q : VK) E, R.Gd t H → Dens R.K H ds vs → fs ds Φ t → (∀ H' t' v d, R.Go t H t' H' → Den R.K H' d v → Φ d t' → Q v H') → sp vs H Q E
/-- a def that changes nothing -/
def spP (K : PySem.W.Frag) (n : Nat) (fs : FS) : Sp := fun vs H Q _ => ∃ ds Φ, ds.length = n ∧ Dens K H ds vs ∧ fs ds Φ ∧ ∀ H' v d, Same H H' → Den K H' d v → Φ d → Q v H'
def fsT {T : Type} (n : Nat) (fs : FS) : FST T := fun ds Φ t => ds.length = n ∧ fs ds fun d => Φ d t
theorem tk_P {T : Type} {R : Rg T} {n : Nat} {fs : FS} : Tk R (spP R.K n fs) (fsT n fs) := fun t H vs ds Φ Q E gd hD ⟨hn, h⟩ k =>
  ⟨ds, _, hn, hD, h, fun H' v d s hd q => k H' t v d (.same gd s) hd q⟩
def wCallT {T : Type} (f : FST T) (w : WA T) : W T := fun ρ Φ => w ρ fun ds => f ds Φ
section
variable {T : Type} {X : Cx} {R : Rg T} {pos p : Pos}
theorem E_call {CX : CXT} {kk : Nat} {f : Addr} {fd : FuncData} {ps : List Str} {sp : Sp} {E0 : XK} {x : Str} {e : Expr} {es : List Expr} {w : WA T} {fs : FST T} (F : FnOk X.prog X.w X.K X.mg X.base CX kk f fd ps sp) (hr : Room kk X.A) (hg : Gl X x) (hm : X.mg x = some (.ref f)) (hk : PySem.W.keepIn X.K (.ref f) = true) (hb : Binds X.K fd ps []) (hx : Passes CX X E0)
    (tk : Tk R sp fs) (ha : PA X (e :: es) (EA R w)) (hdb : (x == ("__debug__" : Str)) = false := by decide) (he : starEach (e :: es) X.env = (false, eval e X.env) :: starEach es X.env := by rfl) (hpl : (backTo pos (starEach es X.env)).any (·.1) = false := by rfl) :
    PE X (.Call (.Name x p) (e :: es) [] pos) (E R (wCallT fs w)) :=
  PE_imp (pe_call F hr hg hm hk hb .nil hx ha hdb he hpl) fun σ H Q ⟨ρ, t, Φ, ok, q, k⟩ => ⟨ρ, _, _, ok, q, fun H1 t1 vs ds g hD hq => by
    show sp (vs ++ []) H1 Q E0
    rw [List.append_nil]
    exact tk t1 H1 vs ds Φ Q E0 g.gd hD hq fun H' t' v d g2 hd q => k H' t' v d (g.trans g2) hd q⟩
end

/-! ### statements -/
structure DE (T : Type) where
  nx : Env → T → Prop
  rt : D → T → Prop
  bk : Env → T → Prop := fun _ _ => False
  ct : Env → T → Prop := fun _ _ => False
structure Fits {T : Type} (R : Rg T) (H : Hp) (Φ : DE T) (D : Ends) : Prop where
  nx : ∀ σ' H' ρ' t', Ext H H' → EnvOk R t' H' σ' ρ' → Φ.nx ρ' t' → D.nx σ' H'
  rt : ∀ v H' d t', R.Step R.t0 R.H0 t' H' → R.Gd t' H' → Den R.K H' d v → Φ.rt d t' → D.rt v H'
  bk : ∀ σ' H' ρ' t', Ext H H' → EnvOk R t' H' σ' ρ' → Φ.bk ρ' t' → D.bk σ' H'
  ct : ∀ σ' H' ρ' t', Ext H H' → EnvOk R t' H' σ' ρ' → Φ.ct ρ' t' → D.ct σ' H'
abbrev WS (T : Type) := Env → DE T → T → Prop
def S {T : Type} (R : Rg T) (w : WS T) : TS := fun D σ H => ∃ ρ t Φ, EnvOk R t H σ ρ ∧ w ρ Φ t ∧ Fits R H Φ D
theorem Fits.ext {T : Type} {R : Rg T} {H H1 : Hp} {Φ : DE T} {D : Ends} (f : Fits R H Φ D) (x : Ext H H1) : Fits R H1 Φ D :=
  ⟨fun σ' H' ρ' t' x' ok q => f.nx σ' H' ρ' t' (x.trans x') ok q, f.rt, fun σ' H' ρ' t' x' ok q => f.bk σ' H' ρ' t' (x.trans x') ok q, fun σ' H' ρ' t' x' ok q => f.ct σ' H' ρ' t' (x.trans x') ok q⟩
section
variable {T : Type} {X : Cx} {R : Rg T} {pos : Pos} {st : Stmt} {rest : List Stmt} {w1 w2 : WS T} {e : Expr} {w : W T}
def wNilS : WS T := fun ρ Φ => Φ.nx ρ
def wSq (w1 w2 : WS T) : WS T := fun ρ Φ => w1 ρ { Φ with nx := fun ρ' => w2 ρ' Φ }
theorem S_nil : PSs X [] (S R wNilS) := PSs_imp pss_nil fun D σ H ⟨ρ, t, Φ, ok, q, f⟩ => f.nx σ H ρ t .refl ok q
theorem S_cons (h1 : PS X st (S R w1)) (h2 : PSs X rest (S R w2)) : PSs X (st :: rest) (S R (wSq w1 w2)) := PSs_imp (pss_cons h1 h2) fun D σ H ⟨ρ, t, Φ, ok, q, f⟩ =>
  ⟨ρ, _, _, ok, q, fun σ' H' ρ' t' x ok' q' => ⟨ρ', t', Φ, ok', q', f.ext x⟩, f.rt, f.bk, f.ct⟩
theorem S_one (h1 : PS X st (S R w1)) : PSs X [st] (S R w1) := pss_one h1
theorem S_pass : PS X (.Pass pos) (S R wNilS) := PS_imp ps_pass fun D σ H ⟨ρ, t, Φ, ok, q, f⟩ => f.nx σ H ρ t .refl ok q
theorem S_break : PS X (.Break pos) (S R (fun ρ Φ => Φ.bk ρ)) := PS_imp ps_break fun D σ H ⟨ρ, t, Φ, ok, q, f⟩ => f.bk σ H ρ t .refl ok q
theorem S_continue : PS X (.Continue pos) (S R (fun ρ Φ => Φ.ct ρ)) := PS_imp ps_continue fun D σ H ⟨ρ, t, Φ, ok, q, f⟩ => f.ct σ H ρ t .refl ok q
/-- code that the proof never comes to -/
theorem S_never : PS X st (S R (fun _ _ _ => False)) := PS_imp ps_never fun D σ H ⟨ρ, t, Φ, ok, q, f⟩ => q
theorem Ss_never {sts : List Stmt} : PSs X sts (S R (fun _ _ _ => False)) := PSs_imp pss_never fun D σ H ⟨ρ, t, Φ, ok, q, f⟩ => q
def wDrop (w : W T) : WS T := fun ρ Φ => w ρ fun _ => Φ.nx ρ
theorem S_expr (he : PE X e (E R w)) (hs : swapsWith e none pos.line X.env = pure false := by rfl) : PS X (.Expr e pos) (S R (wDrop w)) := PS_imp (ps_expr he hs) fun D σ H ⟨ρ, t, Φ, ok, q, f⟩ =>
  ⟨ρ, _, _, ok, q, fun H1 t1 v d g hD hq => f.nx σ H1 ρ t1 (g.ext ok.gd) (ok.go g) hq⟩
def wRet (w : W T) : WS T := fun ρ Φ => w ρ Φ.rt
theorem S_ret (he : PE X e (E R w)) : PS X (.Return (some e) pos) (S R (wRet w)) := PS_imp (ps_ret he) fun D σ H ⟨ρ, t, Φ, ok, q, f⟩ =>
  ⟨ρ, _, _, ok, q, fun H1 t1 v d g hD hq => f.rt v H1 d t1 (ok.st.trans g.st) g.gd hD hq⟩
theorem S_retN : PS X (.Return none pos) (S R (fun _ Φ => Φ.rt .non)) := PS_imp ps_retN fun D σ H ⟨ρ, t, Φ, ok, q, f⟩ => f.rt .non H .non t ok.st ok.gd .non q
def wIfS (tt : WB T) (w1 w2 : WS T) : WS T := fun ρ Φ => tt ρ fun b t => if b = true then w1 ρ Φ t else w2 ρ Φ t
theorem S_if {c : Expr} {a b : List Stmt} {tt : WB T} (hc : PT X c (EB R tt)) (ha : PSs X a (S R w1)) (hb : PSs X b (S R w2)) : PS X (.If c a b pos) (S R (wIfS tt w1 w2)) := PS_imp (ps_if hc ha hb) fun D σ H ⟨ρ, t, Φ, ok, q, f⟩ =>
  ⟨ρ, _, _, ok, q, fun H1 t1 b g hq => by
    cases b with
    | true => exact ⟨ρ, t1, Φ, ok.go g, hq, f.ext (g.ext ok.gd)⟩
    | false => exact ⟨ρ, t1, Φ, ok.go g, hq, f.ext (g.ext ok.gd)⟩⟩
/-! x = e -/
def wSet (i : Nat) (w : W T) : WS T := fun ρ Φ => w ρ fun d => Φ.nx (ρ.set i (.val d))
theorem tSet {i : Nat} {te : TE} (h : ∀ σ H Q, E R w σ H Q → te σ H Q) : ∀ D σ H, S R (wSet i w) D σ H → tAsg te (gName i) D σ H := fun D σ H ⟨ρ, t, Φ, ok, q, f⟩ =>
  h σ H _ ⟨ρ, _, _, ok, q, fun H1 t1 v d g hD hq => f.nx _ H1 _ t1 (g.ext ok.gd) ((ok.go g).set i hD) hq⟩
theorem S_set {i : Nat} (h : PS X st (tAsg (E R w) (gName i))) : PS X st (S R (wSet i w)) := PS_imp h (tSet fun _ _ _ q => q)
/-- a new list, owned by the name from then on -/
theorem EnvOk.setOwn {t : T} {H : Hp} {σ : L2.St} {ρ : Env} (ok : EnvOk R t H σ ρ) (i : Nat) {p : Addr} {vs : List V} {ds : List D} (e : H p = some (.lst vs)) (hD : Dens R.K H ds vs) (n0 : R.H0 p = none) (nv : ¬ R.Vol t p)
    (hne : ∀ (j : Nat) (es : List D), ρ[j]? = some (.own es) → j ≠ i → σ[j]? ≠ some (some (.ref p))) : EnvOk R t H (σ.set i (some (.ref p))) (ρ.set i (.own ds)) := by
  have key : ∀ {j : Nat} {x : Sl}, (ρ.set i (.own ds))[j]? = some x → (i = j ∧ x = .own ds ∧ i < ρ.length) ∨ (i ≠ j ∧ ρ[j]? = some x) := fun {j x} h => by
    by_cases hij : i = j
    · subst hij
      by_cases hl : i < ρ.length
      · rw [List.getElem?_set_self hl] at h; cases h
        exact .inl ⟨rfl, rfl, hl⟩
      · rw [List.getElem?_eq_none (by rw [List.length_set]; omega)] at h; cases h
    · rw [List.getElem?_set_ne hij] at h
      exact .inr ⟨hij, h⟩
  refine ⟨ok.gd, ok.st, by rw [List.length_set, List.length_set]; exact ok.len, fun j d hj => ?_, fun j ls hj => ?_, fun j k ls es q h1 h2 h3 h4 => ?_, fun j ls hj => ?_, fun j k ls es q h1 h2 h3 h4 => ?_⟩
  rotate_left 3
  · rcases key hj with ⟨_, z, _⟩ | ⟨hij, h⟩
    · cases z
    · rw [List.getElem?_set_ne hij]; exact ok.dct j ls h
  · rcases key h1 with ⟨_, z, _⟩ | ⟨hij, h1⟩
    · cases z
    · rcases key h2 with ⟨_, z, _⟩ | ⟨hik, h2⟩
      · cases z
      · rw [List.getElem?_set_ne hij] at h3
        rw [List.getElem?_set_ne hik] at h4
        exact ok.injd j k ls es q h1 h2 h3 h4
  · rcases key hj with ⟨_, z, _⟩ | ⟨hij, h⟩
    · cases z
    · rw [List.getElem?_set_ne hij]; exact ok.val j d h
  · rcases key hj with ⟨rfl, z, hl⟩ | ⟨hij, h⟩
    · cases z
      exact ⟨p, vs, by rw [List.getElem?_set_self (by rw [← ok.len]; exact hl)], e, hD, n0, nv⟩
    · rw [List.getElem?_set_ne hij]; exact ok.own j ls h
  · rcases key h1 with ⟨rfl, _, hl⟩ | ⟨hij, h1⟩
    · rcases key h2 with ⟨rfl, _, _⟩ | ⟨hik, h2⟩
      · rfl
      · rw [List.getElem?_set_self (by rw [← ok.len]; exact hl)] at h3
        cases h3
        rw [List.getElem?_set_ne hik] at h4
        exact absurd h4 (hne k es h2 (Ne.symm hik))
    · rcases key h2 with ⟨rfl, _, hl⟩ | ⟨hik, h2⟩
      · rw [List.getElem?_set_self (by rw [← ok.len]; exact hl)] at h4
        cases h4
        rw [List.getElem?_set_ne hij] at h3
        exact absurd h3 (hne j ls h1 (Ne.symm hij))
      · rw [List.getElem?_set_ne hij] at h3
        rw [List.getElem?_set_ne hik] at h4
        exact ok.inj j k ls es q h1 h2 h3 h4
/-- a list that was not there is no owned one -/
theorem EnvOk.fresh {t : T} {H : Hp} {σ : L2.St} {ρ : Env} (ok : EnvOk R t H σ ρ) {p : Addr} (n : H p = none) : R.H0 p = none ∧ ∀ (j : Nat) (es : List D), ρ[j]? = some (.own es) → σ[j]? ≠ some (some (.ref p)) := by
  refine ⟨none_of_step ok.st n, fun j es h z => ?_⟩
  obtain ⟨q, vs, h1, h2, _⟩ := ok.own j es h
  rw [z] at h1; cases h1
  rw [n] at h2; cases h2
def wOwn (i : Nat) (w : WL T) : WS T := fun ρ Φ => w ρ fun ds => Φ.nx (ρ.set i (.own ds))
theorem S_own {i : Nat} {w : WL T} (h : PS X st (tAsg (EL R w) (gName i))) : PS X st (S R (wOwn i w)) := PS_imp h fun D σ H ⟨ρ, t, Φ, ok, q, f⟩ =>
  ⟨ρ, _, _, ok, q, fun H1 t1 p vs ds g n e nv hD hq => by
    obtain ⟨n0, hne⟩ := ok.fresh n
    exact f.nx _ H1 _ t1 (g.ext ok.gd) ((ok.go g).setOwn i e hD n0 nv fun j es h _ => hne j es h) hq⟩
/-! an owned list is frozen, ahead of a statement or behind it -/
theorem EnvOk.freeze {t : T} {H : Hp} {σ : L2.St} {ρ : Env} (ok : EnvOk R t H σ ρ) {i : Nat} {ds : List D} (h : ρ[i]? = some (.own ds)) : ∃ p vs, σ[i]? = some (some (.ref p)) ∧ H p = some (.lst vs) ∧ ∀ o, Ext H (upd H p (.frz o (.lst vs))) ∧ EnvOk R t (upd H p (.frz o (.lst vs))) σ (ρ.set i (.val (.lst ds))) := by
  obtain ⟨p, vs, h1, h2, h3, h4, hv⟩ := ok.own i ds h
  refine ⟨p, vs, h1, h2, fun o => ?_⟩
  have x : Ext H (upd H p (.frz o (.lst vs))) := ⟨fun a ys q => by rw [upd_ne (fun z => by rw [z, h2] at q; cases q)]; exact q, fun a ob u q => by rw [upd_ne (fun z => by rw [z, h2] at q; cases q)]; exact q⟩
  have hl : i < ρ.length := (List.getElem?_eq_some_iff.mp h).1
  have key : ∀ {j : Nat} {y : Sl}, (ρ.set i (.val (.lst ds)))[j]? = some y → (i = j ∧ y = .val (.lst ds)) ∨ (i ≠ j ∧ ρ[j]? = some y) := fun {j y} h => by
    by_cases hij : i = j
    · subst hij
      rw [List.getElem?_set_self hl] at h; cases h
      exact .inl ⟨rfl, rfl⟩
    · rw [List.getElem?_set_ne hij] at h
      exact .inr ⟨hij, h⟩
  refine ⟨x, R.dep t H _ ok.gd x fun a v => by rw [upd_ne (fun z => hv (by rw [← z]; exact v))], ⟨fun a u q nv => ?_, fun a v => upd_some (ok.st.up a v), ok.st.dn⟩, by rw [List.length_set]; exact ok.len, fun j d hj => ?_, fun j ls hj => ?_, fun j k ls es q a1 a2 a3 a4 => ?_, fun j ls hj => ?_, fun j k ls es q a1 a2 a3 a4 => ?_⟩
  · rw [upd_ne (fun z => by rw [z, h4] at q; cases q)]
    exact ok.st.st a u q nv
  rotate_left 3
  · rcases key hj with ⟨_, z⟩ | ⟨_, h'⟩
    · cases z
    · obtain ⟨q, us, b1, b2, b3, b4, b5⟩ := ok.dct j ls h'
      refine ⟨q, us, b1, ?_, b3.ext x, b4, b5⟩
      rw [upd_ne (fun z => by rw [z, h2] at b2; cases b2)]
      exact b2
  · rcases key a1 with ⟨_, z⟩ | ⟨_, a1⟩
    · cases z
    · rcases key a2 with ⟨_, z⟩ | ⟨_, a2⟩
      · cases z
      · exact ok.injd j k ls es q a1 a2 a3 a4
  · rcases key hj with ⟨rfl, z⟩ | ⟨_, h⟩
    · cases z
      exact ⟨_, h1, .lst ⟨o, upd_same⟩ (h3.ext x)⟩
    · obtain ⟨v, b1, b2⟩ := ok.val j d h
      exact ⟨v, b1, b2.ext x⟩
  · rcases key hj with ⟨_, z⟩ | ⟨hij, h'⟩
    · cases z
    · obtain ⟨q, us, b1, b2, b3, b4, b5⟩ := ok.own j ls h'
      refine ⟨q, us, b1, ?_, b3.ext x, b4, b5⟩
      rw [upd_ne (fun z => hij (ok.inj i j ds ls p h h' h1 (by rw [← z]; exact b1)))]
      exact b2
  · rcases key a1 with ⟨_, z⟩ | ⟨_, a1⟩
    · cases z
    · rcases key a2 with ⟨_, z⟩ | ⟨_, a2⟩
      · cases z
      · exact ok.inj j k ls es q a1 a2 a3 a4
def tFrzB (i : Nat) (t : TS) : TS := fun D σ H => ∃ p vs, σ[i]? = some (some (.ref p)) ∧ H p = some (.lst vs) ∧ ∀ o, t D σ (upd H p (.frz o (.lst vs)))
theorem ps_frzB {i : Nat} {t : TS} (h : PS X st t) : PS X st (tFrzB i t) := ⟨fun pins s σ H D I ⟨p, vs, e1, e2, k⟩ => by
  obtain ⟨o, I2⟩ := inv_freeze I e2
  exact h.run pins s σ _ D I2 (k o)⟩
def wFrzB (i : Nat) (w : WS T) : WS T := fun ρ Φ t => ∃ ds, ρ[i]? = some (.own ds) ∧ w (ρ.set i (.val (.lst ds))) Φ t
theorem S_frzB {i : Nat} (h : PS X st (S R w1)) : PS X st (S R (wFrzB i w1)) := PS_imp (ps_frzB (i := i) h) fun D σ H ⟨ρ, t, Φ, ok, ⟨ds, e, q⟩, f⟩ => by
  obtain ⟨p, vs, h1, h2, k⟩ := ok.freeze e
  exact ⟨p, vs, h1, h2, fun o => ⟨_, t, Φ, (k o).2, q, f.ext (k o).1⟩⟩
def tFrzA (i : Nat) (t : TS) : TS := fun D σ H => t { D with nx := fun σ' H' => ∃ p vs, σ'[i]? = some (some (.ref p)) ∧ H' p = some (.lst vs) ∧ ∀ o, D.nx σ' (upd H' p (.frz o (.lst vs))) } σ H
theorem ps_frzA {i : Nat} {t : TS} (h : PS X st t) : PS X st (tFrzA i t) := ⟨fun pins s σ H D I q => by
  refine thn (h.run pins s σ H _ I q) fun f s1 q1 => ?_
  cases f with
  | next =>
    obtain ⟨σ', H', I', p, vs, e1, e2, k⟩ := q1
    obtain ⟨o, I2⟩ := inv_freeze I' e2
    exact ⟨σ', _, I2, k o⟩
  | ret v => exact q1
  | brk => exact q1
  | cont => exact q1⟩
def wFrzA (i : Nat) (w : WS T) : WS T := fun ρ Φ => w ρ { Φ with nx := fun ρ' t => ∃ ds, ρ'[i]? = some (.own ds) ∧ Φ.nx (ρ'.set i (.val (.lst ds))) t }
theorem S_frzA {i : Nat} (h : PS X st (S R w1)) : PS X st (S R (wFrzA i w1)) := PS_imp (ps_frzA (i := i) h) fun D σ H ⟨ρ, t, Φ, ok, q, f⟩ =>
  ⟨ρ, _, _, ok, q, fun σ' H' ρ' t' x ok' ⟨ds, e, q'⟩ => by
    obtain ⟨p, vs, h1, h2, k⟩ := ok'.freeze e
    exact ⟨p, vs, h1, h2, fun o => f.nx σ' _ _ t' (x.trans (k o).1) (k o).2 q'⟩, f.rt, f.bk, f.ct⟩
/-! several targets -/
def wAsg (w : W T) (p : Pat) : WS T := fun ρ Φ => w ρ fun d t => ∃ ρ', bindP p d ρ = some ρ' ∧ Φ.nx ρ' t
theorem S_asg {p : Pat} (h : PS X st (tAsg (E R w) (EG R p))) : PS X st (S R (wAsg w p)) := PS_imp h fun D σ H ⟨ρ, t, Φ, ok, q, f⟩ =>
  ⟨ρ, _, _, ok, q, fun H1 t1 v d g hD ⟨ρ', hb, hq⟩ => ⟨ρ, t1, d, ρ', ok.go g, hD, hb, fun σ' ok' _ => f.nx σ' H1 ρ' t1 (g.ext ok.gd) ok' hq⟩⟩
/-- values, or new lists to be owned -/
inductive SlsOk {T : Type} (R : Rg T) (H : Hp) (t' : T) (H' : Hp) : List Sl → List V → Prop
  | nil : SlsOk R H t' H' [] []
  | val {d : D} {v : V} {sl : List Sl} {vs : List V} : Den R.K H' d v → SlsOk R H t' H' sl vs → SlsOk R H t' H' (.val d :: sl) (v :: vs)
  | own {p : Addr} {us : List V} {ds : List D} {sl : List Sl} {vs : List V} : H p = none → ¬ R.Vol t' p → H' p = some (.lst us) → Dens R.K H' ds us → (∀ (j : Nat) (es : List D), sl[j]? = some (Sl.own es) → vs[j]? ≠ some (V.ref p)) → SlsOk R H t' H' sl vs → SlsOk R H t' H' (.own ds :: sl) (.ref p :: vs)
abbrev WX (T : Type) := Env → (List Sl → T → Prop) → T → Prop
def EX (R : Rg T) (w : WX T) : TA := fun σ H Q => ∃ ρ t Φ, EnvOk R t H σ ρ ∧ w ρ Φ t ∧ ∀ H' t' vs sl, R.Go t H t' H' → SlsOk R H t' H' sl vs → Φ sl t' → Q vs H'
def wxNil : WX T := fun _ Φ => Φ []
def wxVal (wa : W T) (wr : WX T) : WX T := fun ρ Φ => wa ρ fun x => wr ρ fun xs => Φ (.val x :: xs)
def wxOwn (wa : WL T) (wr : WX T) : WX T := fun ρ Φ => wa ρ fun x => wr ρ fun xs => Φ (.own x :: xs)
theorem EX_nil : PA X [] (EX R wxNil) := PA_imp pa_nil fun σ H Q ⟨ρ, t, Φ, ok, q, k⟩ => k H _ [] [] (.refl ok.gd) .nil q
theorem SlsOk.earlier {t t1 t2 : T} {H H1 H2 : Hp} (g : R.Go t H t1 H1) : ∀ {sl : List Sl} {vs : List V}, SlsOk R H1 t2 H2 sl vs → SlsOk R H t2 H2 sl vs
  | _, _, .nil => .nil
  | _, _, .val h t => .val h (t.earlier g)
  | _, _, .own n nv e h d t => .own (none_of_go g n) nv e h d (t.earlier g)
theorem SlsOk.owns {t' : T} {H H' : Hp} : ∀ {sl : List Sl} {vs : List V} {j : Nat} {es : List D} {p : Addr}, SlsOk R H t' H' sl vs → sl[j]? = some (.own es) → vs[j]? = some (.ref p) → H p = none
  | _, _, j, _, _, .nil, e, _ => by simp at e
  | _, _, 0, _, _, .val _ _, e, _ => by simp at e
  | _, _, j + 1, es, p, .val _ t, e, e' => t.owns (by simpa using e) (by simpa using e')
  | _, _, 0, _, _, .own n _ _ _ _ _, e, e' => by simp at e'; rw [← e']; exact n
  | _, _, j + 1, es, p, .own _ _ _ _ _ t, e, e' => t.owns (by simpa using e) (by simpa using e')
variable {a : Expr} {es : List Expr} {wa : W T} {wr : WX T}
theorem EX_val (ha : PE X a (E R wa)) (hr : PA X es (EX R wr)) (hs : starEach (a :: es) X.env = (false, eval a X.env) :: starEach es X.env := by rfl) : PA X (a :: es) (EX R (wxVal wa wr)) :=
  PA_imp (pa_cons ha hr hs) fun σ H Q ⟨ρ, t, Φ, ok, q, k⟩ => ⟨ρ, _, _, ok, q, fun H1 t1 v d g hD hq => ⟨ρ, _, _, ok.go g, hq, fun H2 t2 vs sl g2 hS hq2 => k H2 _ (v :: vs) (.val d :: sl) (g.trans g2) (.val (hD.ext (g2.ext g.gd)) (hS.earlier g)) hq2⟩⟩
theorem EX_own {wl : WL T} (ha : PE X a (EL R wl)) (hr : PA X es (EX R wr)) (hs : starEach (a :: es) X.env = (false, eval a X.env) :: starEach es X.env := by rfl) : PA X (a :: es) (EX R (wxOwn wl wr)) :=
  PA_imp (pa_cons ha hr hs) fun σ H Q ⟨ρ, t, Φ, ok, q, k⟩ => ⟨ρ, _, _, ok, q, fun H1 t1 p us ds g n e nv hD hq => ⟨ρ, _, _, ok.go g, hq, fun H2 t2 vs sl g2 hS hq2 => by
    refine k H2 _ (.ref p :: vs) (.own ds :: sl) (g.trans g2) (.own n (g2.st.nvol (ne_none e) nv) (g2.st.st p _ e nv) (hD.ext (g2.ext g.gd)) (fun j es h z => ?_) (hS.earlier g)) hq2
    have := hS.owns h z
    rw [e] at this; cases this⟩⟩
def bindX : List Nat → List Sl → Env → Option Env
  | [], [], ρ => some ρ
  | i :: is, s :: ss, ρ => bindX is ss (ρ.set i s)
  | _, _, _ => none
/-- the slots get what stands in a row -/
theorem bindX_ok {t t' : T} {H H' : Hp} (gd : R.Gd t H) : ∀ (is : List Nat) {sl : List Sl} {vs : List V} {σ : L2.St} {ρ ρ' : Env}, is.Nodup → EnvOk R t' H' σ ρ → SlsOk R H t' H' sl vs → R.Step R.t0 R.H0 t H →
    (∀ (j : Nat) (es : List D) (p : Addr), ρ[j]? = some (Sl.own es) → σ[j]? = some (some (V.ref p)) → ∀ (k : Nat) (ls : List D), sl[k]? = some (Sl.own ls) → vs[k]? ≠ some (V.ref p)) → bindX is sl ρ = some ρ' →
    EnvOk R t' H' ((is.zip vs).foldl (fun s iv => s.set iv.1 (some iv.2)) σ) ρ'
  | [], _, _, _, _, _, _, ok, .nil, _, _, e => by cases e; exact ok
  | i :: is, _, _, σ, ρ, _, nd, ok, .val (d := d) (v := v) h t, st, hne, e => by
    refine bindX_ok gd is (List.nodup_cons.mp nd).2 (ok.set i h) t st (fun j es p h1 h2 k ls h3 h4 => ?_) e
    have hij : i ≠ j := fun z => by
      subst z
      by_cases hl : i < ρ.length
      · rw [List.getElem?_set_self hl] at h1; cases h1
      · rw [List.getElem?_eq_none (by rw [List.length_set]; omega)] at h1; cases h1
    rw [List.getElem?_set_ne hij] at h1 h2
    exact hne j es p h1 h2 (k + 1) ls (by simpa using h3) (by simpa using h4)
  | i :: is, _, _, σ, ρ, _, nd, ok, .own (p := p) (ds := ds) n nv e0 hD hd t, st, hne, e => by
    have n0 : R.H0 p = none := none_of_step st n
    refine bindX_ok gd is (List.nodup_cons.mp nd).2 (ok.setOwn i e0 hD n0 nv fun j es h _ z => hne j es p h z 0 ds rfl rfl) t st (fun j es q h1 h2 k ls h3 h4 => ?_) e
    by_cases hij : i = j
    · subst hij
      by_cases hl : i < σ.length
      · rw [List.getElem?_set_self hl] at h2; cases h2
        exact hd k ls h3 h4
      · rw [List.getElem?_eq_none (by rw [List.length_set]; omega)] at h2; cases h2
    · rw [List.getElem?_set_ne hij] at h1 h2
      exact hne j es q h1 h2 (k + 1) ls (by simpa using h3) (by simpa using h4)
theorem SlsOk.len {t' : T} {H H' : Hp} : ∀ {sl : List Sl} {vs : List V}, SlsOk R H t' H' sl vs → sl.length = vs.length
  | _, _, .nil => rfl
  | _, _, .val _ t => by rw [List.length_cons, List.length_cons, t.len]
  | _, _, .own _ _ _ _ _ t => by rw [List.length_cons, List.length_cons, t.len]
/-- a, b = x, y -/
def wPar (is : List Nat) (w : WX T) : WS T := fun ρ Φ => w ρ fun sl t => ∃ ρ', bindX is sl ρ = some ρ' ∧ Φ.nx ρ' t
theorem bindX_go {t t' : T} {H H' : Hp} {is : List Nat} {sl : List Sl} {vs : List V} {σ : L2.St} {ρ ρ' : Env} (nd : is.Nodup) (ok : EnvOk R t H σ ρ) (g : R.Go t H t' H') (h : SlsOk R H t' H' sl vs) (e : bindX is sl ρ = some ρ') :
    EnvOk R t' H' ((is.zip vs).foldl (fun s iv => s.set iv.1 (some iv.2)) σ) ρ' := by
  refine bindX_ok ok.gd is nd (ok.go g) h ok.st (fun j es p h1 h2 k ls h3 h4 => ?_) e
  have := h.owns h3 h4
  obtain ⟨q, us, a1, a2, _⟩ := ok.own j es h1
  rw [h2] at a1; cases a1
  rw [this] at a2; cases a2
theorem S_par2 {i j : Nat} {wx : WX T} (hij : i ≠ j) (h : PS X st (tPar i j (EX R wx))) : PS X st (S R (wPar [i, j] wx)) := PS_imp h fun D σ H ⟨ρ, t, Φ, ok, q, f⟩ =>
  ⟨ρ, _, _, ok, q, fun H1 t1 vs sl g hS ⟨ρ', hb, hq⟩ => by
    have ok' := bindX_go (by simp [hij]) ok g hS hb
    have hl := hS.len
    match sl, vs, hS, hb, hl with
    | [s1, s2], [v1, v2], hS, hb, _ => exact ⟨v1, v2, rfl, f.nx _ H1 ρ' t1 (g.ext ok.gd) ok' hq⟩
    | [], [], hS, hb, _ => cases hb
    | [s1], [v1], hS, hb, _ => cases hb
    | s1 :: s2 :: s3 :: sl, v1 :: v2 :: v3 :: vs, hS, hb, _ => cases hb⟩
theorem S_par3 {i j l : Nat} {wx : WX T} (hij : i ≠ j) (hil : i ≠ l) (hjl : j ≠ l) (h : PS X st (tPar3 i j l (EX R wx))) : PS X st (S R (wPar [i, j, l] wx)) := PS_imp h fun D σ H ⟨ρ, t, Φ, ok, q, f⟩ =>
  ⟨ρ, _, _, ok, q, fun H1 t1 vs sl g hS ⟨ρ', hb, hq⟩ => by
    have ok' := bindX_go (by simp [hij, hil, hjl]) ok g hS hb
    have hl := hS.len
    match sl, vs, hS, hb, hl with
    | [s1, s2, s3], [v1, v2, v3], hS, hb, _ => exact ⟨v1, v2, v3, rfl, f.nx _ H1 ρ' t1 (g.ext ok.gd) ok' hq⟩
    | [], [], hS, hb, _ => cases hb
    | [s1], [v1], hS, hb, _ => cases hb
    | [s1, s2], [v1, v2], hS, hb, _ => cases hb
    | s1 :: s2 :: s3 :: s4 :: sl, v1 :: v2 :: v3 :: v4 :: vs, hS, hb, _ => cases hb⟩
/-! loops -/
def wWhile (tt : WB T) (wb : WS T) : WS T := fun ρ Φ t => ∃ I : Nat → Env → T → Prop, (∃ m, I m ρ t) ∧ ∀ m ρ t, I m ρ t → tt ρ (fun b t => if b = true then wb ρ { Φ with nx := fun ρ' t' => ∃ m', m' < m ∧ I m' ρ' t', ct := fun ρ' t' => ∃ m', m' < m ∧ I m' ρ' t', bk := Φ.nx } t else Φ.nx ρ t) t
theorem S_while {c : Expr} {body : List Stmt} {tt : WB T} {wb : WS T} (hp : PassesOwn (model X.prog X.w) X.A X.env X.xe) (hc : PT X c (EB R tt)) (hb : PSs X body (S R wb)) : PS X (.While c body [] pos) (S R (wWhile tt wb)) := PS_imp (ps_while hp hc hb) fun D σ H ⟨ρ, t, Φ, ok, ⟨I, ⟨m0, i0⟩, turn⟩, f⟩ => by
  refine ⟨fun m σ1 H1 => ∃ ρ1 t1, Ext H H1 ∧ EnvOk R t1 H1 σ1 ρ1 ∧ I m ρ1 t1, ⟨m0, ρ, t, .refl, ok, i0⟩, ?_⟩
  rintro m σ1 H1 ⟨ρ1, t1, x1, ok1, i1⟩
  refine ⟨ρ1, t1, _, ok1, turn m ρ1 t1 i1, fun H2 t2 b g hq => ?_⟩
  have x2 := x1.trans (g.ext ok1.gd)
  cases b with
  | true =>
    simp only [if_true] at hq ⊢
    refine ⟨fun σ' H' => ∃ ρ' t' m', m' < m ∧ Ext H H' ∧ EnvOk R t' H' σ' ρ' ∧ I m' ρ' t', fun σ' H' ⟨ρ', t', m', hm, x', ok', i'⟩ => ⟨m', hm, ρ', t', x', ok', i'⟩, ρ1, t2, _, ok1.go g, hq, ?_⟩
    exact ⟨fun σ' H' ρ' t' x ok' ⟨m', hm, i'⟩ => ⟨ρ', t', m', hm, x2.trans x, ok', i'⟩, f.rt, fun σ' H' ρ' t' x ok' q => f.nx σ' H' ρ' t' (x2.trans x) ok' q, fun σ' H' ρ' t' x ok' ⟨m', hm, i'⟩ => ⟨ρ', t', m', hm, x2.trans x, ok', i'⟩⟩
  | false =>
    simp only [Bool.false_eq_true, if_false] at hq ⊢
    exact f.nx σ1 H2 ρ1 t2 x2 (ok1.go g) hq
def wFor (wi : WL T) (p : Pat) (wb : WS T) : WS T := fun ρ Φ => wi ρ fun ds t => ∃ I : Nat → Env → T → Prop, I 0 ρ t ∧ (∀ k ρ1 t1 d, I k ρ1 t1 → ds[k]? = some d → ∃ ρ2, bindP p d ρ1 = some ρ2 ∧ wb ρ2 { Φ with nx := I (k + 1), ct := I (k + 1), bk := Φ.nx } t1) ∧ ∀ ρ1 t1, I ds.length ρ1 t1 → Φ.nx ρ1 t1
theorem S_for {tg iter : Expr} {body : List Stmt} {wi : WL T} {p : Pat} {wb : WS T} (hp : PassesOwn (model X.prog X.w) X.A X.env X.xe) (hc : X.calm = true) (hi : PI X tg iter (EI R wi)) (hg : PG X tg (EG R p)) (hb : PSs X body (S R wb))
    (hs : ∀ x, foldedSetIterable iter X.env x = pure x := by intro _; rfl) : PS X (.For tg iter body [] pos) (S R (wFor wi p wb)) := PS_imp (ps_for hp hc hi hg hb hs) fun D σ H ⟨ρ, t, Φ, ok, q, f⟩ => by
  refine ⟨ρ, _, _, ok, q, fun H1 t1 J ds g1 wd ⟨I, i0, turn, done⟩ => ?_⟩
  have x1 := g1.ext ok.gd
  refine for_it wd (fun i σ2 H2 => ∃ ρ2 t2, Ext H1 H2 ∧ EnvOk R t2 H2 σ2 ρ2 ∧ I i ρ2 t2) ⟨ρ, t1, .refl, ok.go g1, i0⟩ (fun i σ2 H2 _ ⟨ρ2, t2, x, ok2, _⟩ => ⟨x, t2, ok2.gd⟩) ?_ ?_
  · rintro i x σ2 H2 H3 hi ⟨ρ2, t2, x2, ok2, i2⟩ ⟨g3, d, hd, hx⟩
    have g3 := g3 t2 ok2.gd
    obtain ⟨ρ3, hb, hq⟩ := turn i ρ2 t2 d i2 hd
    have x3 := x2.trans (g3.ext ok2.gd)
    refine ⟨ρ2, t2, d, ρ3, ok2.go g3, hx, hb, fun σ' ok' _ => ⟨ρ3, t2, _, ok', hq, ?_⟩⟩
    exact ⟨fun σ' H' ρ' t' x ok' i' => ⟨ρ', t', x3.trans x, ok', i'⟩, f.rt, fun σ' H' ρ' t' x ok' q => f.nx σ' H' ρ' t' (x1.trans (x3.trans x)) ok' q, fun σ' H' ρ' t' x ok' i' => ⟨ρ', t', x3.trans x, ok', i'⟩⟩
  · rintro σ2 H2 ⟨ρ2, t2, x2, ok2, i2⟩
    exact f.nx σ2 H2 ρ2 t2 (x1.trans x2) ok2 (done ρ2 t2 i2)
/-! an owned list is changed -/
theorem EnvOk.write {t : T} {H : Hp} {σ : L2.St} {ρ : Env} (ok : EnvOk R t H σ ρ) {i : Nat} {ds es : List D} {p : Addr} {vs us : List V} (h : ρ[i]? = some (.own ds)) (h1 : σ[i]? = some (some (.ref p))) (hD : Dens R.K H es us) :
    Ext H (upd H p (.lst us)) ∧ EnvOk R t (upd H p (.lst us)) σ (ρ.set i (.own es)) := by
  obtain ⟨p', vs', h1', h2, h3, h4, hv⟩ := ok.own i ds h
  rw [h1] at h1'; cases h1'
  have x : Ext H (upd H p (.lst us)) := ⟨fun a ys q => by rw [upd_ne (fun z => by rw [z, h2] at q; cases q)]; exact q, fun a ob u q => by rw [upd_ne (fun z => by rw [z, h2] at q; cases q)]; exact q⟩
  have hl : i < ρ.length := (List.getElem?_eq_some_iff.mp h).1
  have key : ∀ {j : Nat} {y : Sl}, (ρ.set i (.own es))[j]? = some y → (i = j ∧ y = .own es) ∨ (i ≠ j ∧ ρ[j]? = some y) := fun {j y} h => by
    by_cases hij : i = j
    · subst hij
      rw [List.getElem?_set_self hl] at h; cases h
      exact .inl ⟨rfl, rfl⟩
    · rw [List.getElem?_set_ne hij] at h
      exact .inr ⟨hij, h⟩
  refine ⟨x, R.dep t H _ ok.gd x fun a v => by rw [upd_ne (fun z => hv (by rw [← z]; exact v))], ⟨fun a u q nv => ?_, fun a v => upd_some (ok.st.up a v), ok.st.dn⟩, by rw [List.length_set]; exact ok.len, fun j d hj => ?_, fun j ls hj => ?_, fun j k ls fs q a1 a2 a3 a4 => ?_, fun j ls hj => ?_, fun j k ls fs q a1 a2 a3 a4 => ?_⟩
  · rw [upd_ne (fun z => by rw [z, h4] at q; cases q)]
    exact ok.st.st a u q nv
  rotate_left 3
  · rcases key hj with ⟨_, z⟩ | ⟨_, h'⟩
    · cases z
    · obtain ⟨q, ws, b1, b2, b3, b4, b5⟩ := ok.dct j ls h'
      refine ⟨q, ws, b1, ?_, b3.ext x, b4, b5⟩
      rw [upd_ne (fun z => by rw [z, h2] at b2; cases b2)]
      exact b2
  · rcases key a1 with ⟨_, z⟩ | ⟨_, a1⟩
    · cases z
    · rcases key a2 with ⟨_, z⟩ | ⟨_, a2⟩
      · cases z
      · exact ok.injd j k ls fs q a1 a2 a3 a4
  · rcases key hj with ⟨_, z⟩ | ⟨_, h⟩
    · cases z
    · obtain ⟨v, b1, b2⟩ := ok.val j d h
      exact ⟨v, b1, b2.ext x⟩
  · rcases key hj with ⟨rfl, z⟩ | ⟨hij, h'⟩
    · cases z
      exact ⟨p, us, h1, upd_same, hD.ext x, h4, hv⟩
    · obtain ⟨q, ws, b1, b2, b3, b4, b5⟩ := ok.own j ls h'
      refine ⟨q, ws, b1, ?_, b3.ext x, b4, b5⟩
      rw [upd_ne (fun z => hij (ok.inj i j ds ls p h h' h1 (by rw [← z]; exact b1)))]
      exact b2
  · have conv : ∀ {j : Nat} {ls : List D}, (ρ.set i (.own es))[j]? = some (.own ls) → ∃ ls', ρ[j]? = some (.own ls') := fun {j ls} hj => by
      rcases key hj with ⟨rfl, _⟩ | ⟨_, h'⟩
      · exact ⟨_, h⟩
      · exact ⟨_, h'⟩
    obtain ⟨_, b1⟩ := conv a1
    obtain ⟨_, b2⟩ := conv a2
    exact ok.inj j k _ _ q b1 b2 a3 a4
def wAppend (i : Nat) (w : W T) : WS T := fun ρ Φ t => ∃ ds, ρ[i]? = some (.own ds) ∧ w ρ (fun d t => ds.length < sizeLine ∧ Φ.nx (ρ.set i (.own (ds ++ [d]))) t) t
theorem S_append {i : Nat} (h : PS X st (tDrop (tBM X.K "list" rAppend (tVar i) (tCons (E R w) tNil)))) : PS X st (S R (wAppend i w)) := PS_imp h fun D σ H ⟨ρ, t, Φ, ok, ⟨ds, e, q⟩, f⟩ => by
  obtain ⟨p, vs, h1, h2, h3, h4, _⟩ := ok.own i ds e
  refine ⟨_, h1, .inl ⟨rfl, vs, .inl (.inl h2)⟩, ρ, _, _, ok, q, fun H1 t1 v d g hD ⟨hl, hq⟩ => ?_⟩
  have ok1 := ok.go g
  obtain ⟨p', vs', h1', h2', h3', _⟩ := ok1.own i ds e
  rw [h1] at h1'; cases h1'
  obtain ⟨x, ok2⟩ := ok1.write (vs := vs') e h1 (h3'.app (.cons hD .nil))
  exact ⟨p, vs', v, rfl, rfl, h2', by rw [← h3'.len]; exact hl, f.nx σ _ _ t1 ((g.ext ok.gd).trans x) ok2 hq⟩
def wExtend (i : Nat) (w : WL T) : WS T := fun ρ Φ t => ∃ ds, ρ[i]? = some (.own ds) ∧ w ρ (fun es t => ds.length + es.length ≤ sizeLine ∧ Φ.nx (ρ.set i (.own (ds ++ es))) t) t
theorem S_extend {i : Nat} {wl : WL T} (h : PS X st (tDrop (tBM X.K "list" rExtend (tVar i) (tCons (EL R wl) tNil)))) : PS X st (S R (wExtend i wl)) := PS_imp h fun D σ H ⟨ρ, t, Φ, ok, ⟨ds, e, q⟩, f⟩ => by
  obtain ⟨p, vs, h1, h2, h3, h4, _⟩ := ok.own i ds e
  refine ⟨_, h1, .inl ⟨rfl, vs, .inl (.inl h2)⟩, ρ, _, _, ok, q, fun H1 t1 b us es g n eb nv hD ⟨hl, hq⟩ => ?_⟩
  have ok1 := ok.go g
  obtain ⟨p', vs', h1', h2', h3', _⟩ := ok1.own i ds e
  rw [h1] at h1'; cases h1'
  obtain ⟨x, ok2⟩ := ok1.write (vs := vs') e h1 (h3'.app hD)
  exact ⟨p, b, vs', us, rfl, rfl, h2', eb, by rw [← h3'.len, ← hD.len]; exact hl, f.nx σ _ _ t1 ((g.ext ok.gd).trans x) ok2 hq⟩
/-- xs[k] = e -/
def wSetIx (i : Nat) (w wk : W T) : WS T := fun ρ Φ t => ∃ ds, ρ[i]? = some (.own ds) ∧ w ρ (fun d => wk ρ fun k t => ∃ n j, k = .int n ∧ ixN ds.length n = some j ∧ Φ.nx (ρ.set i (.own (ds.set j d))) t) t
theorem S_setIx {i : Nat} {wk : W T} (h : PS X st (tAsg (E R w) (gSub (tVar i) (E R wk) rSetL))) : PS X st (S R (wSetIx i w wk)) := PS_imp h fun D σ H ⟨ρ, t, Φ, ok, ⟨ds, e, q⟩, f⟩ => by
  refine ⟨ρ, _, _, ok, q, fun H1 t1 v d g hD hq => ?_⟩
  have ok1 := ok.go g
  obtain ⟨p, vs, h1, h2, h3, h4, _⟩ := ok1.own i ds e
  refine ⟨_, h1, ρ, _, _, ok1, hq, fun H2 t2 u k g2 hk ⟨n, j, ek, hj, hq2⟩ => ?_⟩
  subst ek
  cases hk
  have ok2 := ok1.go g2
  obtain ⟨p', vs', h1', h2', h3', _⟩ := ok2.own i ds e
  rw [h1] at h1'; cases h1'
  obtain ⟨x, ok3⟩ := ok2.write (vs := vs') e h1 (h3'.setD j (hD.ext (g2.ext g.gd)))
  exact ⟨p, vs', n, j, rfl, rfl, h2', by rw [← h3'.len]; exact hj, f.nx σ _ _ t2 (((g.trans g2).ext ok.gd).trans x) ok3 hq2⟩
/-! an owned list is read -/
def wOwnIx (i : Nat) (wk : W T) : W T := fun ρ Φ t => ∃ ds, ρ[i]? = some (.own ds) ∧ wk ρ (fun k t => ∃ n d, k = .int n ∧ atI ds n = some d ∧ Φ d t) t
theorem E_ownIx {i : Nat} {a : Expr} {wk : W T} (h : PE X a (tOp (rIxL X.K) (tVar i) (E R wk))) : PE X a (E R (wOwnIx i wk)) := PE_imp h fun σ H Q ⟨ρ, t, Φ, ok, ⟨ds, e, q⟩, k⟩ => by
  obtain ⟨p, vs, h1, h2, h3, h4, _⟩ := ok.own i ds e
  refine ⟨_, h1, ρ, _, _, ok, q, fun H1 t1 u kd g hk ⟨n, d, ek, hd, hq⟩ => ?_⟩
  subst ek
  cases hk
  obtain ⟨p', vs', h1', h2', h3', _⟩ := (ok.go g).own i ds e
  rw [h1] at h1'; cases h1'
  obtain ⟨v, a1, a2⟩ := h3'.atI hd
  exact ⟨p, vs', n, v, rfl, rfl, .inl (.inl h2'), a1, k H1 _ v d g a2 hq⟩
def wOwnLen (i : Nat) : W T := fun ρ Φ t => ∃ ds, ρ[i]? = some (.own ds) ∧ Φ (.int ds.length) t
theorem E_ownLen {i : Nat} {a : Expr} (h : PE X a (tCB (fun xs H Q => ∃ p ys, xs = [.ref p] ∧ (SqL X.K H p ys ∨ SqT X.K H p ys) ∧ Q (.int ys.length) H) (tCons (tVar i) tNil))) : PE X a (E R (wOwnLen i)) := PE_imp h fun σ H Q ⟨ρ, t, Φ, ok, ⟨ds, e, q⟩, k⟩ => by
  obtain ⟨p, vs, h1, h2, h3, h4, _⟩ := ok.own i ds e
  exact ⟨_, h1, p, vs, rfl, .inl (.inl (.inl h2)), k H _ _ (.int _) (.refl ok.gd) (by rw [← h3.len]; exact .int _) q⟩
end

/-! ### a def's promise by its body -/
def startE (N : List Str) (ds : List D) : Env := ds.map .val ++ List.replicate (N.length - ds.length) .no
theorem start_ok {T : Type} {R : Rg T} {t : T} {N : List Str} {ds : List D} {vs : List V} {H : Hp} (gd : R.Gd t H) (h0 : R.H0 = H) (ht : R.t0 = t) (h : Dens R.K H ds vs) : EnvOk R t H (L2.start N vs) (startE N ds) := by
  have hl := h.len
  have no : ∀ (i : Nat) (x : Sl), (startE N ds)[i]? = some x → (∃ d, ds[i]? = some d ∧ x = .val d) ∨ x = .no := fun i x e => by
    unfold startE at e
    by_cases hi : i < ds.length
    · rw [List.getElem?_append_left (by rw [List.length_map]; exact hi), List.getElem?_map] at e
      cases q : ds[i]? with
      | none => rw [q] at e; cases e
      | some d => rw [q] at e; cases e; exact .inl ⟨d, rfl, rfl⟩
    · rw [List.getElem?_append_right (by rw [List.length_map]; omega), List.getElem?_replicate] at e
      split at e
      · cases e; exact .inr rfl
      · cases e
  refine ⟨gd, by rw [h0, ht]; exact .refl gd, by unfold startE L2.start; simp [hl], fun i d e => ?_, fun i es e => ?_, fun i j es fs p e _ _ _ => ?_, fun i es e => ?_, fun i j es fs p e _ _ _ => ?_⟩
  · rcases no i _ e with ⟨d', e', z⟩ | z
    · cases z
      obtain ⟨v, a1, a2⟩ := h.get e'
      refine ⟨v, ?_, a2⟩
      unfold L2.start
      rw [List.getElem?_append_left (by rw [List.length_map]; exact (List.getElem?_eq_some_iff.mp a1).1), List.getElem?_map, a1]
      rfl
    · cases z
  · rcases no i _ e with ⟨d', e', z⟩ | z <;> cases z
  · rcases no i _ e with ⟨d', e', z⟩ | z <;> cases z
  · rcases no i _ e with ⟨d', e', z⟩ | z <;> cases z
  · rcases no i _ e with ⟨d', e', z⟩ | z <;> cases z
section
variable {P : Program} {w : World} {K : PySem.W.Frag} {mg : Str → Option Value} {base : Heap}
/-- a def that changes nothing: its body under the pure regime -/
theorem ok_P {x qual : Str} {st : Stmt} {f : Addr} {fd : FuncData} {N ps : List Str} {k n : Nat} {fs : FS} {ww : WS Unit} (F : Fun K x qual st f fd) (sc : FnScope N ps (defScope st)) (hn : ps.length = n)
    (hb : ∀ (cdv : Value) (A : Around) (outer : List PySem.Env) (s : Shared) (H : Hp) (E : XK), Room k (A.deeper (PyProof.Rows.envOfC qual (defScope st) s.heap.objs.size f cdv)) →
      PSs (cxOf CX0 P w K mg base N qual (defScope st) f cdv A outer s H E).nox (defBody st) (S (Rg.pure K H) ww))
    (hv : ∀ ds Φ, ds.length = n → fs ds Φ → ww (startE N ds) { nx := fun _ _ => Φ .non, rt := fun d _ => Φ d } ()) : FnOk P w K mg base CX0 (k + 1) f fd ps (spP K n fs) := by
  refine F.ok sc (fun vs H Q E h => ?_) (fun cdv A outer s H vs Q E hr h => ?_)
  · obtain ⟨ds, Φ, hl, hD, _⟩ := h
    rw [← hD.len, hl, hn]
  · obtain ⟨ds, Φ, hl, hD, hf, q⟩ := h
    refine ⟨_, hb cdv A outer s H E hr, startE N ds, (), _, start_ok (R := Rg.pure K H) trivial rfl rfl hD, hv ds Φ hl hf, ?_⟩
    exact ⟨fun σ' H' ρ' t' _ ok' hq => q H' .non .non (Rg.pure_same ok'.st) .non hq, fun v H' d t' st _ hd hq => q H' v d (Rg.pure_same st) hd hq, fun _ _ _ _ _ _ z => z.elim, fun _ _ _ _ _ _ z => z.elim⟩
end
end J

set_option Elab.async false
set_option linter.all false
set_option maxRecDepth 100000
set_option maxHeartbeats 4000000
/-! J6: callees by name, more forms. -/
namespace J
open PySem PySem.Spec L2 RZ

/-- a def that can be called by the name x -/
structure Cal (P : Program) (w : World) (K : PySem.W.Frag) (mg : Str → Option Value) (base : Heap) (k : Nat) (x : Str) (ps : List Str) (sp : Sp) : Prop where
  ex : ∃ (f : Addr) (fd : FuncData), FnOk P w K mg base CX0 k f fd ps sp ∧ mg x = some (.ref f) ∧ PySem.W.keepIn K (.ref f) = true ∧ Binds K fd ps []
section
variable {T : Type} {X : Cx} {R : Rg T} {pos p : Pos}
theorem E_callC {kk : Nat} {ps : List Str} {sp : Sp} {x : Str} {e : Expr} {es : List Expr} {w : WA T} {fs : FST T} (c : Cal X.prog X.w X.K X.mg X.base kk x ps sp) (hr : Room kk X.A) (hg : Gl X x)
    (tk : Tk R sp fs) (ha : PA X (e :: es) (EA R w)) (hdb : (x == ("__debug__" : Str)) = false := by decide) (he : starEach (e :: es) X.env = (false, eval e X.env) :: starEach es X.env := by rfl) (hpl : (backTo pos (starEach es X.env)).any (·.1) = false := by rfl) :
    PE X (.Call (.Name x p) (e :: es) [] pos) (E R (wCallT fs w)) := by
  obtain ⟨f, fd, F, hm, hk, hb⟩ := c.ex
  exact E_call F hr hg hm hk hb pass0 tk ha hdb he hpl
theorem Cal.mk' {P : Program} {w : World} {K : PySem.W.Frag} {mg : Str → Option Value} {base : Heap} {k : Nat} {x nm qual : Str} {ps : List Str} {sp : Sp} {st : Stmt} {f : Addr} {fd : FuncData} (F : Fun K nm qual st f fd) (G : FnOk P w K mg base CX0 k f fd ps sp) (hm : mg x = some (.ref f)) (b : Binds K fd ps []) : Cal P w K mg base k x ps sp :=
  ⟨f, fd, G, hm, F.kp, b⟩
variable {a b c : Expr} {wa wb wc : W T}
theorem EB_chain {op op' : CmpOp} {r r' : R2} {f f' : D → D → (D → Prop) → Prop} (ho : OpR X (compareOp op) r) (ho' : OpR X (compareOp op') r') (hf : Op2 R r f) (hf' : Op2 R r' f') (ha : PE X a (E R wa)) (hb : PE X b (E R wb)) (hc : PE X c (E R wc))
    (hm : lastMarks [op, op'] [b, c] = false := by rfl) : PT X (.Compare a [op, op'] [b, c] pos) (EB R (wB (wChain f f' wa wb wc))) := PT_imp (pt_chain ho ho' ha hb hc hm) (tTest_E (tChain_E hf hf'))
theorem EL_lc2 {elt tg iter tg1 iter1 : Expr} {ifs ifs1 : List Expr} {scope : Scope} {own : List (Str × Nat)} {vs1 : List Nat} {wi wi1 : WL T} {p p1 : Pat} {wt wt1 : WB T} {we : W T} (hc : X.calm = true) (hN : X.N.Nodup) (ok : BlkOk X.N X.env.scope scope own) (hv : ∀ i ∈ vs1, i ∈ own.map (·.2)) (hp : ∀ i ∈ p.vs, i ∈ own.map (·.2)) (hp1 : ∀ i ∈ p1.vs, i ∈ vs1)
    (hi : PI X tg iter (EI R wi))
    (hg : ∀ (s : Shared) (H : Hp) (C : Addr) (cl : List (Str × Addr)) (fp : List Addr), PG (X.blk s H scope (compEnvC scope cl C X.env) fp) tg (EG R p)) (ht : ∀ (s : Shared) (H : Hp) (C : Addr) (cl : List (Str × Addr)) (fp : List Addr), PTs (X.blk s H scope (compEnvC scope cl C X.env) fp) ifs (EB R wt))
    (hi1 : ∀ (s : Shared) (H : Hp) (C : Addr) (cl : List (Str × Addr)) (fp : List Addr), PI (X.blk s H scope (compEnvC scope cl C X.env) fp) tg1 iter1 (EI R wi1))
    (hg1 : ∀ (s : Shared) (H : Hp) (C : Addr) (cl : List (Str × Addr)) (fp : List Addr), PG (X.blk s H scope (compEnvC scope cl C X.env) fp) tg1 (EG R p1)) (ht1 : ∀ (s : Shared) (H : Hp) (C : Addr) (cl : List (Str × Addr)) (fp : List Addr), PTs (X.blk s H scope (compEnvC scope cl C X.env) fp) ifs1 (EB R wt1))
    (he : ∀ (s : Shared) (H : Hp) (C : Addr) (cl : List (Str × Addr)) (fp : List Addr), PE (X.blk s H scope (compEnvC scope cl C X.env) fp) elt (E R we)) (hs : ∀ x, foldedSetIterable iter X.env x = pure x := by intro _; rfl) (hs1 : ∀ env x, foldedSetIterable iter1 env x = pure x := by intro _ _; rfl) :
    PE X (.ListComp elt [⟨tg, iter, ifs, 0⟩, ⟨tg1, iter1, ifs1, 0⟩] scope pos) (EL R (wLc2 wi p (own.map (·.2)) wt wi1 p1 vs1 wt1 we)) := PE_imp (pe_lc2 hc hN hi ok hv hg ht hi1 hg1 ht1 he hs hs1) (tLc2_EL hp hp1)
theorem tAsg_EL {i : Nat} {t : TE} {w : WL T} (h : ∀ σ H Q, EL R w σ H Q → t σ H Q) : ∀ D σ H, tAsg (EL R w) (gName i) D σ H → tAsg t (gName i) D σ H := fun D σ H q => h σ H _ q
theorem PS_setLc {i : Nat} {y : Str} {py : Pos} {elt tg iter : Expr} {ifs : List Expr} {scope : Scope} {own : List (Str × Nat)} {spos : Pos} {wi : WL T} {p : Pat} {wt : WB T} {we : W T} (hc : X.calm = true) (hN : X.N.Nodup) (ok : BlkOk X.N X.env.scope scope own) (hp : ∀ i ∈ p.vs, i ∈ own.map (·.2))
    (hi : PI X tg iter (EI R wi))
    (hg : ∀ (s : Shared) (H : Hp) (C : Addr) (cl : List (Str × Addr)) (fp : List Addr), PG (X.blk s H scope (compEnvC scope cl C X.env) fp) tg (EG R p)) (ht : ∀ (s : Shared) (H : Hp) (C : Addr) (cl : List (Str × Addr)) (fp : List Addr), PTs (X.blk s H scope (compEnvC scope cl C X.env) fp) ifs (EB R wt))
    (he : ∀ (s : Shared) (H : Hp) (C : Addr) (cl : List (Str × Addr)) (fp : List Addr), PE (X.blk s H scope (compEnvC scope cl C X.env) fp) elt (E R we)) (hy : X.N[i]? = some y := by rfl) (hyl : X.env.scope.names.lookup y = some .local := by rfl)
    (hsw : swapsWith (.ListComp elt [⟨tg, iter, ifs, 0⟩] scope pos) (some (.Name y py)) spos.line X.env = pure true := by exact sw_true rfl rfl rfl (by decide +kernel)) (hs : ∀ x, foldedSetIterable iter X.env x = pure x := by intro _; rfl) :
    PS X (.Assign [.Name y py] (.ListComp elt [⟨tg, iter, ifs, 0⟩] scope pos) spos) (tAsg (EL R (wLc wi p (own.map (·.2)) wt we)) (gName i)) := PS_imp (ps_setLc hc hN hy hyl hsw hi ok hg ht he hs) (tAsg_EL (tLc_EL hp))
theorem PS_setLc2 {i : Nat} {y : Str} {py : Pos} {elt tg iter tg1 iter1 : Expr} {ifs ifs1 : List Expr} {scope : Scope} {own : List (Str × Nat)} {vs1 : List Nat} {spos : Pos} {wi wi1 : WL T} {p p1 : Pat} {wt wt1 : WB T} {we : W T} (hc : X.calm = true) (hN : X.N.Nodup) (ok : BlkOk X.N X.env.scope scope own) (hv : ∀ i ∈ vs1, i ∈ own.map (·.2)) (hp : ∀ i ∈ p.vs, i ∈ own.map (·.2)) (hp1 : ∀ i ∈ p1.vs, i ∈ vs1)
    (hi : PI X tg iter (EI R wi))
    (hg : ∀ (s : Shared) (H : Hp) (C : Addr) (cl : List (Str × Addr)) (fp : List Addr), PG (X.blk s H scope (compEnvC scope cl C X.env) fp) tg (EG R p)) (ht : ∀ (s : Shared) (H : Hp) (C : Addr) (cl : List (Str × Addr)) (fp : List Addr), PTs (X.blk s H scope (compEnvC scope cl C X.env) fp) ifs (EB R wt))
    (hi1 : ∀ (s : Shared) (H : Hp) (C : Addr) (cl : List (Str × Addr)) (fp : List Addr), PI (X.blk s H scope (compEnvC scope cl C X.env) fp) tg1 iter1 (EI R wi1))
    (hg1 : ∀ (s : Shared) (H : Hp) (C : Addr) (cl : List (Str × Addr)) (fp : List Addr), PG (X.blk s H scope (compEnvC scope cl C X.env) fp) tg1 (EG R p1)) (ht1 : ∀ (s : Shared) (H : Hp) (C : Addr) (cl : List (Str × Addr)) (fp : List Addr), PTs (X.blk s H scope (compEnvC scope cl C X.env) fp) ifs1 (EB R wt1))
    (he : ∀ (s : Shared) (H : Hp) (C : Addr) (cl : List (Str × Addr)) (fp : List Addr), PE (X.blk s H scope (compEnvC scope cl C X.env) fp) elt (E R we)) (hy : X.N[i]? = some y := by rfl) (hyl : X.env.scope.names.lookup y = some .local := by rfl)
    (hsw : swapsWith (.ListComp elt [⟨tg, iter, ifs, 0⟩, ⟨tg1, iter1, ifs1, 0⟩] scope pos) (some (.Name y py)) spos.line X.env = pure true := by exact sw_true rfl rfl rfl (by decide +kernel)) (hs : ∀ x, foldedSetIterable iter X.env x = pure x := by intro _; rfl) (hs1 : ∀ env x, foldedSetIterable iter1 env x = pure x := by intro _ _; rfl) :
    PS X (.Assign [.Name y py] (.ListComp elt [⟨tg, iter, ifs, 0⟩, ⟨tg1, iter1, ifs1, 0⟩] scope pos) spos) (tAsg (EL R (wLc2 wi p (own.map (·.2)) wt wi1 p1 vs1 wt1 we)) (gName i)) := PS_imp (ps_setLc2 hc hN hy hyl hsw hi ok hv hg ht hi1 hg1 ht1 he hs hs1) (tAsg_EL (tLc2_EL hp hp1))
theorem E_gint {x : Str} {i : Int} {t : Tok} (hg : Gl X x) (hm : X.mg x = some (.int i t)) (hd : (x == ("__debug__" : Str)) = false := by decide) : PE X (.Name x pos) (E R (wC (.int i))) := E_c (pe_glob (v := .int i) hg hm ⟨t, rfl⟩ hd) fun _ => .int i
/-! [x] * n of a list -/
def rRepR : R2 := fun x y H Q => ∃ l k xs, x = .ref l ∧ y = .int k ∧ Rd H l (.lst xs) ∧ -(2 ^ 63) ≤ k ∧ k < 2 ^ 63 ∧ xs.length * k.toNat ≤ sizeLine ∧
  ∀ p, H p = none → Q (.ref p) (upd H p (.lst (List.replicate k.toNat xs).flatten))
theorem op_repR : OpR X (binaryOp .Mult) rRepR := by
  intro pins s σ H x y v u Q I rx ry h
  obtain ⟨l, k, xs, rfl, rfl, hH, h1, h2, hz, q⟩ := h
  cases rx
  obtain ⟨t, rfl⟩ := ry
  obtain ⟨z, its, n, r, hl, e⟩ := Inv.lstR I hH
  have hlen : its.toArray.size * k.toNat ≤ sizeLine := by rw [List.size_toArray, ← hl]; exact hz
  have hcap : ¬ its.toArray.size * k.toNat > (2 ^ 63 - 1) / 8 := by
    have : (sizeLine : Nat) ≤ (2 ^ 63 - 1) / 8 := by decide
    omega
  have hfit : ¬ (!Builtin.List.listFitsIndex k) = true := by
    rw [PySem.fitsIndex_both h1 h2]
    exact Bool.false_ne_true
  have hlong : ¬ Builtin.List.listTooLong (its.toArray.size * k.toNat) = true := by
    rw [notLongL hlen]
    exact Bool.false_ne_true
  have hnew : List.foldl (fun x1 x2 => x1 ++ x2) #[] (List.replicate (if its.toArray.isEmpty = true then 0 else k.toNat) its.toArray) = (List.replicate k.toNat its).flatten.toArray := by
    have f0 : ∀ m : Nat, List.foldl (fun x1 x2 => x1 ++ x2) #[] (List.replicate m its.toArray) = (List.replicate m its).flatten.toArray := fun m => by
      have := foldl_rep its m []
      rw [List.nil_append] at this
      exact this
    rw [f0]
    cases its with
    | nil => simp
    | cons a r' => rw [if_neg (by simp)]
  refine wpAny_binaryOp_repeat_ref (T := "list") (U := "int") (by decide) ⟨_, e, rfl⟩ (fun s' => typeIs_int s' k t) PySem.noFill_list_mul PySem.F.fills_int_mul PySem.F.slot_int_rmul PySem.repeat_list PySem.F.slot_int_index.lookup
    (call_meets PySem.F.slot_int_rmul (typeIs_int s k t) PySem.F.entry_int_rmul (PySem.F.args_int_rmul_2 _ _) (PySem.int___rmul___int_list k t l its.toArray n)
      ⟨e, rfl, ⟨_, e, rfl⟩, call_meets PySem.F.slot_list_mul ⟨_, e, rfl⟩ PySem.F.entry_list_mul (PySem.F.args_list_mul_2 _ _) (AutoListH.list___mul___list_int_3 l its.toArray n k t hfit hcap hlong) ⟨e, ?_⟩⟩)
  rw [hnew]
  exact ⟨.ref _, _, I.lnew (t' := s.toks) (r.rep k.toNat) (by rw [PyProof.Rows.lm_len_rep_flat, Nat.mul_comm]; exact hz), rfl, q _ I.fresh⟩
def fRep (d e : D) (Φ : List D → Prop) : Prop := ∃ xs k, d = .lst xs ∧ e = .int k ∧ -(2 ^ 63) ≤ k ∧ k < 2 ^ 63 ∧ xs.length * k.toNat ≤ sizeLine ∧ Φ (List.replicate k.toNat xs).flatten
theorem opd_rep : Op2L R rRepR fRep := fun t H x y dx dy Φ Q gd hx hy ⟨xs, k, e1, e2, h1, h2, h3, q⟩ kk => by
  subst e1 e2
  cases hx with
  | lst ha hs =>
    cases hy
    exact ⟨_, k, _, rfl, rfl, ha.rd, h1, h2, by rw [← hs.len]; exact h3, fun p n => kk p _ _ n (hs.rep _) q⟩
/-! x += e -/
def wAug (i : Nat) (f : D → D → (D → Prop) → Prop) (w : W T) : WS T := fun ρ Φ t => ∃ d, ρ[i]? = some (.val d) ∧ w ρ (fun e t => f d e fun z => Φ.nx (ρ.set i (.val z)) t) t
end

/-- what the module's names hold (built-ins are not overwritten) -/
structure Bt (mg : Str → Option Value) : Prop where
  b_len : mg "len" = none
  b_abs : mg "abs" = none
  b_sum : mg "sum" = none
  b_max : mg "max" = none
  b_min : mg "min" = none
  b_all : mg "all" = none
  b_any : mg "any" = none
  b_int : mg "int" = none
  b_bool : mg "bool" = none
  b_str : mg "str" = none
  b_tuple : mg "tuple" = none
  b_list : mg "list" = none
  b_isinstance : mg "isinstance" = none
  b_range : mg "range" = none
  b_enumerate : mg "enumerate" = none
  b_zip : mg "zip" = none
  b_sorted : mg "sorted" = none
end J

set_option Elab.async false
set_option linter.all false
set_option maxRecDepth 100000
set_option maxHeartbeats 4000000
/-! J7: encodings; comprehension lemmas over data; plain functions and their small laws. -/
namespace J
open PySem PySem.Spec L2 RZ
abbrev dI (r : List Int) : D := .tup (r.map .int)
abbrev dLI (r : List Int) : D := .lst (r.map .int)
abbrev dRows (rows : List (List Int)) : D := .tup (rows.map fun r => dI r)
abbrev dLL (rows : List (List Int)) : D := .lst (rows.map fun r => dLI r)
abbrev dTel (d : Int) (rows : List (List Int)) : D := .tup [.str "teller", .int d, dRows rows]
abbrev dSta (g : List (List Int)) : D := .tup [.str "stakes", dRows g]
abbrev dGar (d : Int) (rows : List (List Int)) : D := .tup [.str "garbler", .int d, dRows rows]
abbrev dRat (q : Int × Int) : D := .tup [.int q.1, .int q.2]
def optI : Option Int → D
  | none => .non
  | some i => .int i

/-! ### comprehensions -/
section
variable {T : Type}
theorem lcRun_fm {f : D → (List D → T → Prop) → T → Prop} (g : D → List D) : ∀ (ds acc : List D) (Φ : List D → T → Prop) (t : T), (∀ d ∈ ds, ∀ K t, K (g d) t → f d K t) → Φ (acc ++ ds.flatMap g) t → lcRun f ds acc Φ t
  | [], acc, Φ, t, _, q => by simpa [lcRun] using q
  | d :: r, acc, Φ, t, h, q => h d List.mem_cons_self _ t (lcRun_fm g r (acc ++ g d) Φ t (fun e he => h e (List.mem_cons_of_mem _ he)) (by simpa [List.append_assoc] using q))
/-- over the images of other data -/
theorem lcRun_fmOf {α : Type} {f : D → (List D → T → Prop) → T → Prop} (enc : α → D) (g : α → List D) (xs : List α) {Φ : List D → T → Prop} {t : T} (h : ∀ x ∈ xs, ∀ K t, K (g x) t → f (enc x) K t) (q : Φ (xs.flatMap g) t) : lcRun f (xs.map enc) [] Φ t := by
  have key : ∀ (xs : List α) (acc : List D) (Φ : List D → T → Prop), (∀ x ∈ xs, ∀ K t, K (g x) t → f (enc x) K t) → Φ (acc ++ xs.flatMap g) t → lcRun f (xs.map enc) acc Φ t := by
    intro xs
    induction xs with
    | nil => intro acc Φ _ q; simpa [lcRun] using q
    | cons x r ih =>
      intro acc Φ h q
      exact h x List.mem_cons_self _ t (ih (acc ++ g x) Φ (fun e he => h e (List.mem_cons_of_mem _ he)) (by simpa [List.append_assoc] using q))
  exact key xs [] Φ h (by simpa using q)
theorem lcRun_mapOf {α : Type} {f : D → (List D → T → Prop) → T → Prop} (enc : α → D) (g : α → D) (xs : List α) {Φ : List D → T → Prop} {t : T} (h : ∀ x ∈ xs, ∀ K t, K [g x] t → f (enc x) K t) (q : Φ (xs.map g) t) : lcRun f (xs.map enc) [] Φ t :=
  lcRun_fmOf enc (fun x => [g x]) xs h (by
    have e : ∀ l : List α, l.flatMap (fun d => [g d]) = l.map g := fun l => by
      induction l with
      | nil => rfl
      | cons a b ih => rw [List.flatMap_cons, ih]; rfl
    rw [e]; exact q)
/-- with what cannot be told ahead (draws) -/
theorem lcRun_inv {f : D → (List D → T → Prop) → T → Prop} {Φ : List D → T → Prop} {t : T} (P : Nat → List D → T → Prop) (ds : List D) (h0 : P 0 [] t)
    (hs : ∀ (k : Nat) (d : D) (acc : List D) (K : List D → T → Prop) (t : T), ds[k]? = some d → P k acc t → (∀ ys t, P (k + 1) (acc ++ ys) t → K ys t) → f d K t) (hd : ∀ acc t, P ds.length acc t → Φ acc t) : lcRun f ds [] Φ t := by
  have key : ∀ (n : Nat) (k : Nat) (acc : List D) (t : T), ds.length - k = n → k ≤ ds.length → P k acc t → lcRun f (ds.drop k) acc Φ t := by
    intro n
    induction n with
    | zero =>
      intro k acc t e hk p
      have : k = ds.length := by omega
      subst this
      rw [List.drop_length]
      exact hd acc t p
    | succ n ih =>
      intro k acc t e hk p
      have hlt : k < ds.length := by omega
      rw [List.drop_eq_getElem_cons hlt]
      exact hs k ds[k] acc _ t (by simp [hlt]) p fun ys t py => ih (k + 1) (acc ++ ys) t (by omega) (by omega) py
  exact key _ 0 [] t rfl (Nat.zero_le _) h0
theorem lc2In_mapOf {β : Type} {p1 : Pat} {vs1 : List Nat} {wt1 : WB T} {we : W T} {ρ : Env} (enc : β → D) (g : β → D) : ∀ (ys : List β) (acc : List D) (K : List D → T → Prop) (t : T),
    (∀ y ∈ ys, ∃ ρ', bindP p1 (enc y) (wipeE ρ vs1) = some ρ' ∧ (∀ (Kb : Bool → T → Prop) t, Kb true t → wt1 ρ' Kb t) ∧ ∀ (K' : D → T → Prop) t, K' (g y) t → we ρ' K' t) → acc.length + ys.length ≤ sizeLine → K (acc ++ ys.map g) t → lc2In p1 vs1 wt1 we ρ (ys.map enc) acc K t
  | [], acc, K, t, _, _, q => by simpa [lc2In] using q
  | y :: r, acc, K, t, h, hl, q => by
    obtain ⟨ρ', hb, ht, he⟩ := h y List.mem_cons_self
    rw [List.length_cons] at hl
    refine ⟨ρ', hb, ht _ t ?_⟩
    rw [if_pos rfl]
    refine he _ t ⟨by omega, lc2In_mapOf enc g r (acc ++ [g y]) K t (fun e he => h e (List.mem_cons_of_mem _ he)) (by rw [List.length_append]; simp; omega) (by simpa [List.append_assoc] using q)⟩
theorem lc2_mapOf {α β : Type} {p p1 : Pat} {vs vs1 : List Nat} {wt wt1 : WB T} {wi1 : WL T} {we : W T} {ρ : Env} (enc : α → D) (inner : α → List β) (enc1 : β → D) (g : α → β → D) (xs : List α) {Φ : List D → T → Prop} {t : T}
    (h : ∀ x ∈ xs, ∃ ρ', bindP p (enc x) (wipeE ρ vs) = some ρ' ∧ (∀ (Kb : Bool → T → Prop) t, Kb true t → wt ρ' Kb t) ∧ (∀ (Kl : List D → T → Prop) t, Kl ((inner x).map enc1) t → wi1 ρ' Kl t) ∧
      ∀ y ∈ inner x, ∃ ρ'', bindP p1 (enc1 y) (wipeE ρ' vs1) = some ρ'' ∧ (∀ (Kb : Bool → T → Prop) t, Kb true t → wt1 ρ'' Kb t) ∧ ∀ (K' : D → T → Prop) t, K' (g x y) t → we ρ'' K' t)
    (hl : (xs.flatMap inner).length ≤ sizeLine) (q : Φ (xs.flatMap fun x => (inner x).map (g x)) t) : lc2Out p vs wt wi1 p1 vs1 wt1 we ρ (xs.map enc) [] Φ t := by
  have key : ∀ (xs : List α) (acc : List D) (Φ : List D → T → Prop), (∀ x ∈ xs, ∃ ρ', bindP p (enc x) (wipeE ρ vs) = some ρ' ∧ (∀ (Kb : Bool → T → Prop) t, Kb true t → wt ρ' Kb t) ∧ (∀ (Kl : List D → T → Prop) t, Kl ((inner x).map enc1) t → wi1 ρ' Kl t) ∧
      ∀ y ∈ inner x, ∃ ρ'', bindP p1 (enc1 y) (wipeE ρ' vs1) = some ρ'' ∧ (∀ (Kb : Bool → T → Prop) t, Kb true t → wt1 ρ'' Kb t) ∧ ∀ (K' : D → T → Prop) t, K' (g x y) t → we ρ'' K' t) →
      acc.length + (xs.flatMap inner).length ≤ sizeLine → Φ (acc ++ xs.flatMap fun x => (inner x).map (g x)) t → lc2Out p vs wt wi1 p1 vs1 wt1 we ρ (xs.map enc) acc Φ t := by
    intro xs
    induction xs with
    | nil => intro acc Φ _ _ q; simpa [lc2Out] using q
    | cons x r ih =>
      intro acc Φ h hl q
      obtain ⟨ρ', hb, ht, hi, hy⟩ := h x List.mem_cons_self
      rw [List.flatMap_cons, List.length_append] at hl
      refine ⟨ρ', hb, ht _ t ?_⟩
      rw [if_pos rfl]
      refine hi _ t (lc2In_mapOf enc1 (g x) (inner x) acc _ t hy (by omega) ?_)
      refine ih _ Φ (fun e he => h e (List.mem_cons_of_mem _ he)) ?_ ?_
      · rw [List.length_append, List.length_map]; omega
      · rw [List.flatMap_cons] at q
        simpa [List.append_assoc] using q
  exact key xs [] Φ h (by simpa using hl) (by simpa using q)
theorem yes_ok (ρ : Env) (Kb : Bool → T → Prop) (t : T) (h : Kb true t) : wYes ρ Kb t := h
end
end J

set_option Elab.async false
set_option linter.all false
set_option maxRecDepth 100000
set_option maxHeartbeats 4000000
/-! J8: plain functions, what the package's defs do on right values. -/
namespace J
open PySem PySem.Spec L2 RZ
def isNum (d : D) (lo : Int) (hi : Option Int) : Bool := match d with
  | .int i => decide (lo ≤ i) && (match hi with | none => true | some h => decide (i ≤ h))
  | _ => false
def gcdI (a b : Int) : Int := (Int.gcd a b : Nat)
def gcdL (ns : List Int) : Int := ns.foldl gcdI 0
def dot (xs ys : List Int) : Int := ((xs.zip ys).map fun p => p.1 * p.2).sum
def wid (rows : List (List Int)) : Nat := (rows.headD []).length
def cols (rows : List (List Int)) : List (List Int) := (List.range (wid rows)).map fun y => rows.map fun r => r.getD y 0
def sumsAt (g : List (List Int)) (c : List Int) : List Int := g.map fun a => dot a c
def maxL : List Int → Int
  | [] => 0
  | x :: xs => xs.foldl max x
def worthN (rows g : List (List Int)) : Int := ((cols rows).map fun c => maxL (sumsAt g c)).sum
def ratN (a b : Int) : Int × Int := (a / gcdI a b, b / gcdI a b)
def Sm (n : Nat) (x : Int) : Prop := x.natAbs < 2 ^ n
structure RowsOk (rows : List (List Int)) (total : Int) (most wide : Nat) : Prop where
  l1 : 1 ≤ rows.length
  l2 : rows.length ≤ most
  w1 : 1 ≤ wid rows
  w2 : wid rows ≤ wide
  len : ∀ r ∈ rows, r.length = wid rows
  nn : ∀ r ∈ rows, ∀ x ∈ r, 0 ≤ x
  sum : ∀ r ∈ rows, r.sum = total
structure IsTel (d : Int) (rows : List (List Int)) : Prop where
  d1 : 1 ≤ d
  d2 : d ≤ 10 ^ 30
  ok : RowsOk rows d 6 12
structure IsGar (d : Int) (rows : List (List Int)) : Prop where
  d1 : 1 ≤ d
  ok : RowsOk rows d 12 12
structure IsSta (g : List (List Int)) : Prop where
  l1 : 1 ≤ g.length
  l2 : g.length ≤ 12
  w1 : 1 ≤ wid g
  w2 : wid g ≤ 6
  len : ∀ r ∈ g, r.length = wid g
  sm : ∀ r ∈ g, ∀ x ∈ r, Sm 400000 x
/-! specs -/
def fs_is_number : FS := fun ds Φ => ∃ d lo hi, ds = [d, .int lo, optI hi] ∧ d.ty ≠ "?" ∧ Φ (.bl (isNum d lo hi))
def fs_divisor : FS := fun ds Φ => ∃ a b : Int, ds = [.int a, .int b] ∧ Φ (.int (gcdI a b))
def fs_common_tellers : FS := fun ds Φ => ∃ d ns, ds = [d] ∧ IsInts d ns ∧ Φ (.int (gcdL ns))
def fs_ratio : FS := fun ds Φ => ∃ a b : Int, ds = [.int a, .int b] ∧ 0 < b ∧ Sm 8000 b ∧ Φ (dRat (ratN a b))
def fs_columns_of : FS := fun ds Φ => ∃ d rows, ds = [dTel d rows] ∧ IsTel d rows ∧ Φ (.lst ((cols rows).map fun c => dI c))
theorem gcdI_nn (a b : Int) : 0 ≤ gcdI a b := Int.natCast_nonneg _
theorem gcdI_pos {a b : Int} (h : 0 < b) : 0 < gcdI a b := by
  unfold gcdI
  have : 0 < Int.gcd a b := Int.gcd_pos_of_ne_zero_right a (by omega)
  omega
theorem gcdI_le {a b : Int} (h : 0 < b) : gcdI a b ≤ b := by
  unfold gcdI
  exact Int.le_of_dvd h (Int.gcd_dvd_right a b)
theorem gcdI_fmod (a b : Int) : gcdI b (a.fmod b) = gcdI a b := by
  unfold gcdI
  congr 1
  rw [Int.gcd_comm a b]
  have : a.fmod b = a - b * (a.fdiv b) := Int.fmod_def a b
  rw [this, Int.sub_eq_add_neg, ← Int.mul_neg]
  exact Int.gcd_add_mul_left_right ..
theorem gcdI_zero (a : Int) : gcdI a 0 = (if a < 0 then -a else a) := by
  unfold gcdI
  rw [Int.gcd_zero_right]
  split <;> omega
theorem fmod_lt (a : Int) {b : Int} (h : b ≠ 0) : (a.fmod b).natAbs < b.natAbs := by
  rcases Int.lt_or_gt_of_ne h with h | h
  · have e := Int.neg_fmod_neg (-a) (-b)
    rw [Int.neg_neg, Int.neg_neg] at e
    have h1 := Int.fmod_nonneg_of_pos (-a) (show 0 < -b by omega)
    have h2 := Int.fmod_lt_of_pos (-a) (show 0 < -b by omega)
    omega
  · have h1 := Int.fmod_nonneg_of_pos a h
    have h2 := Int.fmod_lt_of_pos a h
    omega
theorem atI_0 {α : Type} (a : α) (l : List α) : atI (a :: l) 0 = some a := atI_nat (j := 0) rfl
theorem atI_1 {α : Type} (a b : α) (l : List α) : atI (a :: b :: l) 1 = some b := atI_nat (j := 1) rfl
theorem atI_2 {α : Type} (a b c : α) (l : List α) : atI (a :: b :: c :: l) 2 = some c := atI_nat (j := 2) rfl
theorem atI_map {α β : Type} (f : α → β) (l : List α) (n : Int) : atI (l.map f) n = (atI l n).map f := by
  unfold atI
  rw [List.length_map]
  cases ixN l.length n with
  | none => rfl
  | some j => simp
theorem atI_getD {r : List Int} {y : Nat} (h : y < r.length) : atI r (y : Int) = some (r.getD y 0) := by
  refine atI_nat ?_
  rw [List.getD_eq_getElem?_getD, List.getElem?_eq_getElem h]
  rfl
theorem map_at {α β : Type} {f : α → β} {l : List α} {k : Nat} {y : β} (h : (l.map f)[k]? = some y) : ∃ x, l[k]? = some x ∧ y = f x := by
  rw [List.getElem?_map] at h
  cases e : l[k]? with
  | none => rw [e] at h; cases h
  | some x => rw [e] at h; cases h; exact ⟨x, rfl, rfl⟩
theorem items_tup (ds : List D) : D.items (.tup ds) = some ds := rfl
theorem items_lst (ds : List D) : D.items (.lst ds) = some ds := rfl
theorem isT_tup (ds : List D) : D.isT (.tup ds) = true := rfl
theorem isT_lst (ds : List D) : D.isT (.lst ds) = false := rfl
theorem addD_int (i j : Int) : addD (.int i) (.int j) = some (.int (i + j)) := rfl
theorem addD_tup (i j : List D) : addD (.tup i) (.tup j) = some (.tup (i ++ j)) := rfl
theorem intD_int (i : Int) : intD (.int i) = some i := rfl
theorem intD_bl (b : Bool) : intD (.bl b) = some (if b then 1 else 0) := rfl
theorem small_int (i : Int) : D.small (.int i) := trivial
theorem range_at {k n : Nat} {d : D} (h : (rangeD 0 n)[k]? = some d) : k < n ∧ d = .int k := by
  unfold rangeD at h
  obtain ⟨i, h1, rfl⟩ := map_at h
  rw [List.getElem?_range (by
    rcases Nat.lt_or_ge k n with h | h
    · exact h
    · rw [List.getElem?_eq_none (by simpa using h)] at h1; cases h1)] at h1
  cases h1
  refine ⟨?_, by simp⟩
  rcases Nat.lt_or_ge k n with h | h
  · exact h
  · simp [h] at *
theorem rangeD_eq (n : Nat) : rangeD 0 n = (List.range n).map fun i => D.int (i : Nat) := by
  unfold rangeD
  refine List.map_congr_left fun i _ => ?_
  rw [Int.zero_add]
theorem sizeL : (sizeLine : Nat) = 16777216 := sizeLine_eq
theorem head_wid {rows : List (List Int)} (h : 1 ≤ rows.length) : ∃ r rs, rows = r :: rs ∧ wid rows = r.length := by
  cases rows with
  | nil => simp at h
  | cons r rs => exact ⟨r, rs, rfl, rfl⟩
theorem IsInts.items {d : D} {ns : List Int} (h : IsInts d ns) : d.items = some (ns.map .int) := by
  rcases h with rfl | rfl <;> rfl
theorem take_succ_at {α : Type} {l : List α} {k : Nat} {x : α} (h : l[k]? = some x) : l.take (k + 1) = l.take k ++ [x] := by
  rw [List.take_add_one, h]; rfl
theorem gcdL_take {ns : List Int} {k : Nat} {n : Int} (h : ns[k]? = some n) : gcdL (ns.take (k + 1)) = gcdI (gcdL (ns.take k)) n := by
  rw [take_succ_at h]
  unfold gcdL
  rw [List.foldl_append]
  rfl
theorem eq_int (a b : Int) : D.eq (.int a) (.int b) = decide (a = b) := by
  simp only [D.eq, D.toP, PyData.eqv]
  exact Bool.beq_eq_decide_eq a b
theorem shp_int (a : Int) : D.shp (.int a) := by
  simp [D.shp, D.toP, SeqAt.shaped, PyData.canLay0, PyData.depth]

/-! more specs -/
def lowR (g : Int) (rows : List (List Int)) : List (List Int) := rows.map fun r => r.map (· / g)
def sumG (g h : List (List Int)) : List (List Int) := g.flatMap fun a => h.map fun b => (a.zip b).map fun p => p.1 + p.2
def prodAt (r : List Int) (more : List (List Int)) (z : Nat) : Int := ((List.range r.length).map fun y => r.getD y 0 * (more.getD y []).getD z 0).sum
def prodR (rows more : List (List Int)) : List (List Int) := rows.map fun r => (List.range (wid more)).map fun z => prodAt r more z
def bestL (s : List Int) : List Int := ((List.range s.length).filter fun a => decide (s.getD a 0 = maxL s)).map fun (a : Nat) => (a : Int)
def fs_are_rows_tellers : FS := fun ds Φ => ∃ (rows : List (List Int)) (total : Int) (most wide : Nat), ds = [dRows rows, .int total, .int most, .int wide] ∧ RowsOk rows total most wide ∧ most ≤ 12 ∧ wide ≤ 12 ∧ Φ (.bl true)
def fs_is_teller : FS := fun ds Φ => ∃ d rows, ds = [dTel d rows] ∧ IsTel d rows ∧ Φ (.bl true)
def fs_check_teller : FS := fun ds Φ => ∃ d rows, ds = [dTel d rows] ∧ IsTel d rows ∧ Φ .non
def fs_check_word : FS := fun ds Φ => ∃ d rows n, ds = [dTel d rows, .int n] ∧ IsTel d rows ∧ 0 ≤ n ∧ n < wid rows ∧ Φ .non
def fs_made : FS := fun ds Φ => ∃ d rows x, ds = [.int d, x] ∧ (x = dRows rows ∨ x = dLL rows) ∧ 1 ≤ rows.length ∧ rows.length ≤ 12 ∧ wid rows ≤ 12 ∧ (∀ r ∈ rows, r.length = wid rows) ∧ 0 < d ∧ Sm 8000 d ∧ d / gcdL (d :: rows.flatten) ≤ 10 ^ 30 ∧
  Φ (dTel (d / gcdL (d :: rows.flatten)) (lowR (gcdL (d :: rows.flatten)) rows))
def fs_are_stakes : FS := fun ds Φ => ∃ g, ds = [dSta g] ∧ IsSta g ∧ Φ (.bl true)
def fs_are_stakes_for : FS := fun ds Φ => ∃ (g : List (List Int)) (many : Int), ds = [.int many, dSta g] ∧ IsSta g ∧ many = wid g ∧ Φ (.bl true)
def fs_check_stakes : FS := fun ds Φ => ∃ g, ds = [dSta g] ∧ IsSta g ∧ Φ .non
def fs_check_stakes_for : FS := fun ds Φ => ∃ (g : List (List Int)) (many : Int), ds = [.int many, dSta g] ∧ IsSta g ∧ many = wid g ∧ Φ .non
def fs_sums_at : FS := fun ds Φ => ∃ g c, ds = [dSta g, dI c] ∧ IsSta g ∧ (∀ x ∈ c, Sm 400000 x) ∧ Φ (dLI (sumsAt g c))
def fs_worth_told : FS := fun ds Φ => ∃ d rows g, ds = [dTel d rows, dSta g] ∧ IsTel d rows ∧ IsSta g ∧ wid g = rows.length ∧ Φ (dRat (ratN (worthN rows g) d))
def fs_worth : FS := fs_worth_told
def fs_best_deeds : FS := fun ds Φ => ∃ d rows g n, ds = [dTel d rows, dSta g, .int n] ∧ IsTel d rows ∧ IsSta g ∧ wid g = rows.length ∧ 0 ≤ n ∧ n < wid rows ∧ Φ (dI (bestL (sumsAt g ((cols rows).getD n.toNat []))))
def fs_unheard : FS := fun ds Φ => ∃ g, ds = [dSta g] ∧ IsSta g ∧ Φ (.int (maxL (g.map List.sum)))
def fs_check_second : FS := fun ds Φ => ∃ g h, ds = [dSta g, dSta h] ∧ IsSta g ∧ IsSta h ∧ wid g = wid h ∧ Φ .non
def fs_made_stakes : FS := fun ds Φ => ∃ g : List (List Int), ds = [.lst (g.map fun r => dI r)] ∧ g.length ≤ 12 ∧ Φ (dSta g)
def fs_stakes_sum : FS := fun ds Φ => ∃ g h, ds = [dSta g, dSta h] ∧ IsSta g ∧ IsSta h ∧ wid g = wid h ∧ g.length * h.length ≤ 12 ∧ Φ (dSta (sumG g h))
def fs_stakes_either : FS := fun ds Φ => ∃ g h, ds = [dSta g, dSta h] ∧ IsSta g ∧ IsSta h ∧ wid g = wid h ∧ g.length + h.length ≤ 12 ∧ Φ (dSta (g ++ h))
def fs_is_whole : FS := fun ds Φ => ∃ i lo : Int, ds = [.int i, .int lo] ∧ Φ (.bl (decide (lo ≤ i)))
def fs_common_garblers : FS := fun ds Φ => ∃ d ns, ds = [d] ∧ IsInts d ns ∧ (∀ x ∈ ns, 0 ≤ x) ∧ Φ (.int (gcdL ns))
def fs_are_rows_garblers : FS := fun ds Φ => ∃ (rows : List (List Int)) (total : Int) (most : Nat), ds = [dRows rows, .int total, .int most] ∧ RowsOk rows total most 12 ∧ most ≤ 12 ∧ Φ (.bl true)
def fs_is_garbler : FS := fun ds Φ => ∃ d rows, ds = [dGar d rows] ∧ IsGar d rows ∧ Φ (.bl true)
def fs_check_garbler : FS := fun ds Φ => ∃ d rows e m, ds = [dTel d rows, dGar e m] ∧ IsTel d rows ∧ IsGar e m ∧ m.length = wid rows ∧ Φ .non
def fs_product : FS := fun ds Φ => ∃ rows more, ds = [dRows rows, dRows more] ∧ rows.length ≤ 12 ∧ (∀ r ∈ rows, r.length = more.length ∧ ∀ x ∈ r, Sm 400000 x) ∧ 1 ≤ more.length ∧ more.length ≤ 12 ∧ wid more ≤ 12 ∧ (∀ r ∈ more, r.length = wid more ∧ ∀ x ∈ r, Sm 400000 x) ∧ Φ (dRows (prodR rows more))
def fs_lowered_rows : FS := fun ds Φ => ∃ d rows x, ds = [.int d, x] ∧ (x = dRows rows ∨ x = dLL rows) ∧ rows.length ≤ 12 ∧ (∀ r ∈ rows, r.length ≤ 12 ∧ ∀ x ∈ r, 0 ≤ x) ∧ 0 < d ∧ Sm 8000 d ∧
  Φ (.tup [.int (d / gcdL (d :: rows.flatten)), dRows (lowR (gcdL (d :: rows.flatten)) rows)])
def fs_garbled : FS := fun ds Φ => ∃ d rows e m, ds = [dTel d rows, dGar e m] ∧ IsTel d rows ∧ IsGar e m ∧ m.length = wid rows ∧ Sm 7000 e ∧ (d * e) / gcdL ((d * e) :: (prodR rows m).flatten) ≤ 10 ^ 30 ∧
  Φ (dTel ((d * e) / gcdL ((d * e) :: (prodR rows m).flatten)) (lowR (gcdL ((d * e) :: (prodR rows m).flatten)) (prodR rows m)))
def dirL (c : List Int) : List Int := c.map (· / gcdL c)
def fs_direction_of : FS := fun ds Φ => ∃ c, ds = [dI c] ∧ c.length ≤ 12 ∧ (∀ x ∈ c, 0 ≤ x ∧ Sm 8000 x) ∧ Φ (if 0 < gcdL c then dI (dirL c) else .non)
def fs__law_gcd : FS := fs_divisor
def fs__law_ratio : FS := fs_ratio
def fs__law_less : FS := fun ds Φ => ∃ p q : Int × Int, ds = [dRat p, dRat q] ∧ Sm 400000 p.1 ∧ Sm 400000 p.2 ∧ Sm 400000 q.1 ∧ Sm 400000 q.2 ∧ Φ (.bl (decide (p.1 * q.2 < q.1 * p.2)))
def fs__law_columns : FS := fs_columns_of
def fs__law_sums : FS := fun ds Φ => ∃ g c, ds = [dI c, dSta g] ∧ IsSta g ∧ (∀ x ∈ c, Sm 400000 x) ∧ Φ (dLI (sumsAt g c))
def fs__law_worth : FS := fs_worth_told
def fs__law_sum : FS := fun ds Φ => ∃ p q : Int × Int, ds = [dRat p, dRat q] ∧ Sm 3000 p.1 ∧ Sm 3000 p.2 ∧ Sm 3000 q.1 ∧ Sm 3000 q.2 ∧ 0 < p.2 ∧ 0 < q.2 ∧ Φ (dRat (ratN (p.1 * q.2 + q.1 * p.2) (p.2 * q.2)))
/-! small laws for these -/
theorem all_true {α : Type} (xs : List α) (Φ : D → Prop) (h : Φ (.bl true)) : fAll [.lst (xs.map fun _ => D.bl true)] Φ := by
  refine ⟨xs.map fun _ => true, by simp [Function.comp_def], ?_⟩
  have : (xs.map fun _ => true).all id = true := by simp
  rw [this]; exact h
theorem eq_str (a b : Str) : D.eq (.str a) (.str b) = (a == b) := by simp only [D.eq, D.toP, PyData.eqv]
theorem gcdL_dvd : ∀ {ns : List Int} {x : Int}, x ∈ ns → gcdL ns ∣ x := by
  have key : ∀ (ns : List Int) (a : Int), (ns.foldl gcdI a ∣ a) ∧ ∀ x ∈ ns, ns.foldl gcdI a ∣ x := by
    intro ns
    induction ns with
    | nil => intro a; exact ⟨Int.dvd_refl a, fun x h => by simp at h⟩
    | cons y r ih =>
      intro a
      obtain ⟨h1, h2⟩ := ih (gcdI a y)
      refine ⟨Int.dvd_trans h1 (Int.gcd_dvd_left a y), fun x hx => ?_⟩
      rcases List.mem_cons.mp hx with rfl | hx
      · exact Int.dvd_trans h1 (Int.gcd_dvd_right a x)
      · exact h2 x hx
  exact fun {ns x} h => (key ns 0).2 x h
theorem gcdL_nn (ns : List Int) : 0 ≤ gcdL ns := by
  have key : ∀ (ns : List Int) (a : Int), 0 ≤ a → 0 ≤ ns.foldl gcdI a := by
    intro ns
    induction ns with
    | nil => intro a h; exact h
    | cons y r ih => intro a _; exact ih _ (gcdI_nn a y)
  exact key ns 0 (Int.le_refl 0)
theorem gcdL_pos {d : Int} {l : List Int} (h : 0 < d) : 0 < gcdL (d :: l) ∧ gcdL (d :: l) ≤ d := by
  have h1 : gcdL (d :: l) ∣ d := gcdL_dvd List.mem_cons_self
  have h2 := gcdL_nn (d :: l)
  have h3 := Int.le_of_dvd h h1
  refine ⟨?_, h3⟩
  rcases Int.lt_or_eq_of_le h2 with h | h
  · exact h
  · rw [← h] at h1
    have := Int.zero_dvd.mp h1
    omega
theorem Sm.mono {a b : Nat} {x : Int} (h : Sm a x) (hab : a ≤ b) : Sm b x := Nat.lt_of_lt_of_le h (Nat.pow_le_pow_right (by decide) hab)
theorem Sm.le {a : Nat} {x y : Int} (h : Sm a y) (h0 : 0 ≤ x) (h1 : x ≤ y) : Sm a x := by
  unfold Sm at *; omega
theorem Sm.mul {a b : Nat} {x y : Int} (h : Sm a x) (h' : Sm b y) : Sm (a + b) (x * y) := wide_lt h h'
theorem Sm.div {a : Nat} {x y : Int} (h : Sm a x) : Sm a (x / y) := Nat.lt_of_le_of_lt (Int.natAbs_ediv_le_natAbs x y) h
theorem sm30 : Sm 100 ((10 : Int) ^ 30) := by unfold Sm; decide
theorem Sm.cmul {a b : Nat} {x y : Int} (h : Sm a x) (h' : Sm b y) (h0 : 0 < a) (h1 : 0 < b) (hh : a + b ≤ 1000000) : CMulW x y := wide_mul h h' h0 h1 hh
theorem Sm.cdiv {b : Nat} {x y : Int} (h' : Sm b y) (h : 0 < y) (h0 : 0 < b) (hh : b ≤ 9000) : CDivW x y := wide_div h h' h0 hh
theorem small_d {d : Int} {rows : List (List Int)} (h : IsTel d rows) : Sm 100 d := sm30.le (by have := h.d1; omega) h.d2
theorem le_sum : ∀ {r : List Int} {x : Int}, (∀ y ∈ r, 0 ≤ y) → x ∈ r → x ≤ r.sum
  | y :: r, x, h, hx => by
    have h1 := h y List.mem_cons_self
    have h2 : 0 ≤ r.sum := by
      have : ∀ (l : List Int), (∀ y ∈ l, 0 ≤ y) → 0 ≤ l.sum := by
        intro l
        induction l with
        | nil => intro _; exact Int.le_refl 0
        | cons a b ih =>
          intro h
          rw [List.sum_cons]
          have h1 := h a List.mem_cons_self
          have h2 := ih fun y hy => h y (List.mem_cons_of_mem _ hy)
          omega
      exact this r fun y hy => h y (List.mem_cons_of_mem _ hy)
    rw [List.sum_cons]
    rcases List.mem_cons.mp hx with rfl | hx
    · omega
    · have := le_sum (fun y hy => h y (List.mem_cons_of_mem _ hy)) hx
      omega
theorem RowsOk.le {rows : List (List Int)} {d : Int} {a b : Nat} (h : RowsOk rows d a b) {r : List Int} (hr : r ∈ rows) {x : Int} (hx : x ∈ r) : x ≤ d := by
  rw [← h.sum r hr]; exact le_sum (h.nn r hr) hx
theorem RowsOk.sm {rows : List (List Int)} {d : Int} {a b n : Nat} (h : RowsOk rows d a b) (hd : Sm n d) {r : List Int} (hr : r ∈ rows) {x : Int} (hx : x ∈ r) : Sm n x := hd.le (h.nn r hr x hx) (h.le hr hx)
theorem maxL_mem : ∀ {ns : List Int}, 0 < ns.length → maxL ns ∈ ns ∧ ∀ y ∈ ns, y ≤ maxL ns
  | x :: xs, _ => by
    have key : ∀ (l : List Int) (a : Int), (l.foldl max a = a ∨ l.foldl max a ∈ l) ∧ a ≤ l.foldl max a ∧ ∀ y ∈ l, y ≤ l.foldl max a := by
      intro l
      induction l with
      | nil => intro a; exact ⟨.inl rfl, Int.le_refl a, fun y h => by simp at h⟩
      | cons b r ih =>
        intro a
        obtain ⟨h1, h2, h3⟩ := ih (max a b)
        show (r.foldl max (max a b) = a ∨ r.foldl max (max a b) ∈ b :: r) ∧ a ≤ r.foldl max (max a b) ∧ ∀ y ∈ b :: r, y ≤ r.foldl max (max a b)
        refine ⟨?_, by omega, fun y hy => ?_⟩
        · rcases h1 with h1 | h1
          · by_cases hab : a ≤ b
            · right; rw [h1]; have : max a b = b := by omega
              rw [this]; exact List.mem_cons_self
            · left; rw [h1]; omega
          · exact .inr (List.mem_cons_of_mem _ h1)
        · rcases List.mem_cons.mp hy with rfl | hy
          · omega
          · exact h3 y hy
    obtain ⟨h1, h2, h3⟩ := key xs x
    refine ⟨?_, fun y hy => ?_⟩
    · rcases h1 with h1 | h1
      · show xs.foldl max x ∈ x :: xs
        rw [h1]; exact List.mem_cons_self
      · exact List.mem_cons_of_mem _ h1
    · rcases List.mem_cons.mp hy with rfl | hy
      · exact h2
      · exact h3 y hy
theorem maxL_eq {ns : List Int} {m : Int} (h1 : m ∈ ns) (h2 : ∀ y ∈ ns, y ≤ m) : maxL ns = m := by
  have hl : 0 < ns.length := List.length_pos_of_mem h1
  obtain ⟨a, b⟩ := maxL_mem hl
  have := b m h1
  have := h2 _ a
  omega

/-! what tests of data say -/
theorem tyq_tup (xs : List D) : ((D.tup xs).ty ≠ "?") = True := eq_true (by simp [D.ty])
theorem tyq_lst (xs : List D) : ((D.lst xs).ty ≠ "?") = True := eq_true (by simp [D.ty])
theorem tyq_int (i : Int) : ((D.int i).ty ≠ "?") = True := eq_true (by simp [D.ty])
theorem tyq_str (i : Str) : ((D.str i).ty ≠ "?") = True := eq_true (by simp [D.ty])
theorem tyq_bl (i : Bool) : ((D.bl i).ty ≠ "?") = True := eq_true (by simp [D.ty])
theorem tyq_non : (D.non.ty ≠ "?") = True := eq_true (by simp [D.ty])
theorem isi_tt (xs : List D) : isiB (D.tup xs).ty "tuple" = true := by simp [D.ty, isiB]
theorem isi_ss (x : Str) : isiB (D.str x).ty "str" = true := by simp [D.ty, isiB]
theorem isi_ii (x : Int) : isiB (D.int x).ty "int" = true := by simp [D.ty, isiB]
theorem isi_ib (x : Int) : isiB (D.int x).ty "bool" = false := by simp [D.ty, isiB]
theorem shp_teller : D.shp (.str "teller") := by
  show SeqAt.shaped (.str _) = true
  decide +kernel
theorem shp_stakes : D.shp (.str "stakes") := by
  show SeqAt.shaped (.str _) = true
  decide +kernel
theorem shp_garbler : D.shp (.str "garbler") := by
  show SeqAt.shaped (.str _) = true
  decide +kernel
theorem shp_eq_int (i : Int) : (D.int i).shp = True := eq_true (shp_int i)
theorem shp_eq_teller : (D.str "teller").shp = True := eq_true shp_teller
theorem shp_eq_stakes : (D.str "stakes").shp = True := eq_true shp_stakes
theorem shp_eq_garbler : (D.str "garbler").shp = True := eq_true shp_garbler
theorem eq_str_self (a : Str) : D.eq (.str a) (.str a) = true := by rw [eq_str]; simp
theorem head_at {rows : List (List Int)} (h : 1 ≤ rows.length) : ∃ r, r ∈ rows ∧ r.length = wid rows ∧ atI (rows.map fun r => D.tup (r.map D.int)) 0 = some (.tup (r.map D.int)) := by
  obtain ⟨r, rs, rfl, hw⟩ := head_wid h
  exact ⟨r, List.mem_cons_self, hw.symm, atI_0 _ _⟩
theorem flat_len {rows : List (List Int)} {a b : Nat} (h1 : rows.length ≤ a) (h2 : ∀ r ∈ rows, r.length ≤ b) : rows.flatten.length ≤ a * b := by
  induction rows generalizing a with
  | nil => simp
  | cons r rs ih =>
    rw [List.flatten_cons, List.length_append]
    rw [List.length_cons] at h1
    have := ih (a := a - 1) (by omega) fun x hx => h2 x (List.mem_cons_of_mem _ hx)
    have h3 := h2 r List.mem_cons_self
    have h4 : a * b = (a - 1) * b + b := by
      have : a = (a - 1) + 1 := by omega
      conv => lhs; rw [this]
      rw [Nat.add_mul, Nat.one_mul]
    omega
theorem flatMap_id' (rows : List (List Int)) : rows.flatMap (fun r => r) = rows.flatten := by
  induction rows with
  | nil => rfl
  | cons a b ih => rw [List.flatMap_cons, List.flatten_cons, ih]
theorem flatMap_int (rows : List (List Int)) : (rows.flatMap fun r => r.map D.int) = rows.flatten.map D.int := by
  induction rows with
  | nil => rfl
  | cons a b ih => rw [List.flatMap_cons, List.flatten_cons, List.map_append, ih]

theorem zipD_int (a c : List Int) : zipD (a.map .int) (c.map .int) = (a.zip c).map fun p => D.tup [.int p.1, .int p.2] := by
  unfold zipD
  rw [List.zip_map, List.map_map]
  rfl

theorem cols_len (rows : List (List Int)) : (cols rows).length = wid rows := by simp [cols]
theorem mem_cols {rows : List (List Int)} {c : List Int} (h : c ∈ cols rows) : ∃ y, y < wid rows ∧ c = rows.map fun r => r.getD y 0 := by
  obtain ⟨y, hy, rfl⟩ := List.mem_map.mp h
  exact ⟨y, List.mem_range.mp hy, rfl⟩
theorem cols_mem {rows : List (List Int)} {c : List Int} {x : Int} (hl : ∀ r ∈ rows, r.length = wid rows) (h : c ∈ cols rows) (hx : x ∈ c) : ∃ r ∈ rows, x ∈ r := by
  obtain ⟨y, hy, rfl⟩ := mem_cols h
  obtain ⟨r, hr, rfl⟩ := List.mem_map.mp hx
  refine ⟨r, hr, ?_⟩
  rw [List.getD_eq_getElem?_getD, List.getElem?_eq_getElem (by rw [hl r hr]; exact hy)]
  exact List.getElem_mem _
theorem cols_sm {rows : List (List Int)} {d : Int} {a b n : Nat} (h : RowsOk rows d a b) (hd : Sm n d) {c : List Int} (hc : c ∈ cols rows) {x : Int} (hx : x ∈ c) : Sm n x := by
  obtain ⟨r, hr, hxr⟩ := cols_mem h.len hc hx
  exact h.sm hd hr hxr

theorem enumD_int (ns : List Int) : enumD (ns.map .int) = (List.range ns.length).map fun i => D.tup [.int (i : Nat), .int (ns.getD i 0)] := by
  unfold enumD
  rw [List.length_map]
  refine List.map_congr_left fun i hi => ?_
  have hi := List.mem_range.mp hi
  rw [List.getD_eq_getElem?_getD, List.getElem?_map, List.getElem?_eq_getElem hi, List.getD_eq_getElem?_getD, List.getElem?_eq_getElem hi]
  rfl
theorem sum_nn : ∀ {l : List Int}, (∀ y ∈ l, 0 ≤ y) → 0 ≤ l.sum
  | [], _ => Int.le_refl 0
  | a :: l, h => by
    rw [List.sum_cons]
    have h1 := h a List.mem_cons_self
    have h2 := sum_nn (l := l) fun y hy => h y (List.mem_cons_of_mem _ hy)
    omega
theorem getD_nn {l : List Int} (h : ∀ y ∈ l, 0 ≤ y) (i : Nat) : 0 ≤ l.getD i 0 := by
  rw [List.getD_eq_getElem?_getD]
  cases e : l[i]? with
  | none => exact Int.le_refl 0
  | some x => exact h x (List.mem_of_getElem? e)
theorem getD_nil_nn {m : List (List Int)} (h : ∀ r ∈ m, ∀ x ∈ r, 0 ≤ x) (i : Nat) : ∀ x ∈ m.getD i [], 0 ≤ x := by
  rw [List.getD_eq_getElem?_getD]
  cases e : m[i]? with
  | none => intro x hx; simp at hx
  | some r => exact h r (List.mem_of_getElem? e)
theorem prodAt_nn {r : List Int} {m : List (List Int)} (h1 : ∀ y ∈ r, 0 ≤ y) (h2 : ∀ r ∈ m, ∀ x ∈ r, 0 ≤ x) (z : Nat) : 0 ≤ prodAt r m z := by
  unfold prodAt
  refine sum_nn fun y hy => ?_
  obtain ⟨k, hk, rfl⟩ := List.mem_map.mp hy
  exact Int.mul_nonneg (getD_nn h1 k) (getD_nn (getD_nil_nn h2 k) z)
theorem getD_mem {l : List Int} {i : Nat} (h : i < l.length) : l.getD i 0 ∈ l := by
  rw [List.getD_eq_getElem?_getD, List.getElem?_eq_getElem h]
  exact List.getElem_mem _
end J

set_option Elab.async false
set_option linter.all false
set_option maxRecDepth 100000
set_option maxHeartbeats 4000000
/-! J9: dicts whose keys are tuples of ints; tuple * int. -/
namespace J
open PySem PySem.Spec L2 RZ

def lookK (kvs : List (List Int × D)) (k : List Int) : Option D := (kvs.find? fun kv => decide (kv.1 = k)).map (·.2)
def putD (kvs : List (List Int × D)) (k : List Int) (d : D) : List (List Int × D) :=
  if (kvs.any fun kv => decide (kv.1 = k)) = true then kvs.map (fun kv => if kv.1 = k then (kv.1, d) else kv) else kvs ++ [(k, d)]
theorem inl_inj : ∀ {a b : List Int}, a.map (Sum.inl : Int → Key) = b.map Sum.inl → a = b
  | [], [], _ => rfl
  | [], _ :: _, h => by simp at h
  | _ :: _, [], h => by simp at h
  | x :: a, y :: b, h => by
    rw [List.map_cons, List.map_cons] at h
    injection h with h1 h2
    rw [Sum.inl.inj h1, inl_inj h2]
theorem inl_kV (k : List Int) : (k.map (Sum.inl : Int → Key)).map kV = k.map V.int := by
  rw [List.map_map]; rfl
section
variable {K : PySem.W.Frag} {H : Hp}
theorem DK.len : ∀ {kvs : List (List Int × D)} {us : List (List Key × V)}, DK K H kvs us → kvs.length = us.length
  | _, _, .nil => rfl
  | _, _, .cons _ hs => by rw [List.length_cons, List.length_cons, hs.len]
theorem DK.keys : ∀ {kvs : List (List Int × D)} {us : List (List Key × V)}, DK K H kvs us → us.map (·.1) = (kvs.map (·.1)).map (·.map Sum.inl)
  | _, _, .nil => rfl
  | _, _, .cons _ hs => by rw [List.map_cons, List.map_cons, List.map_cons, hs.keys]
theorem DK.look {k : List Int} : ∀ {kvs : List (List Int × D)} {us : List (List Key × V)}, DK K H kvs us → (lookK kvs k = none ∧ valV us (k.map Sum.inl) = none) ∨ ∃ d v, lookK kvs k = some d ∧ valV us (k.map Sum.inl) = some v ∧ Den K H d v
  | _, _, .nil => .inl ⟨rfl, rfl⟩
  | _, _, .cons (k := k') (d := d) (v := v) (kvs := kvs) (us := us) h hs => by
    by_cases e : k' = k
    · subst e
      exact .inr ⟨d, v, by simp [lookK], valV_pos rfl, h⟩
    · have e' : ¬ k'.map (Sum.inl : Int → Key) = k.map Sum.inl := fun z => e (inl_inj z)
      have h1 : lookK ((k', d) :: kvs) k = lookK kvs k := by simp [lookK, List.find?_cons, e]
      have h2 : valV ((k'.map (Sum.inl : Int → Key), v) :: us) (k.map Sum.inl) = valV us (k.map Sum.inl) := valV_neg e'
      rw [h1, h2]
      exact DK.look hs
theorem DK.anyEq {k : List Int} : ∀ {kvs : List (List Int × D)} {us : List (List Key × V)}, DK K H kvs us → (kvs.any fun kv => decide (kv.1 = k)) = us.any fun kv => decide (kv.1 = k.map Sum.inl)
  | _, _, .nil => rfl
  | _, _, .cons (k := k') h hs => by
    rw [List.any_cons, List.any_cons, DK.anyEq hs]
    congr 1
    by_cases e : k' = k
    · subst e; simp
    · have e' : ¬ k'.map (Sum.inl : Int → Key) = k.map Sum.inl := fun z => e (inl_inj z)
      simp [e, e']
theorem DK.mapPut {k : List Int} {d : D} {v : V} (hv : Den K H d v) : ∀ {kvs : List (List Int × D)} {us : List (List Key × V)}, DK K H kvs us →
    DK K H (kvs.map (fun kv => if kv.1 = k then (kv.1, d) else kv)) (us.map (fun kv => if kv.1 = k.map Sum.inl then (kv.1, v) else kv))
  | _, _, .nil => .nil
  | _, _, .cons (k := k') h hs => by
    rw [List.map_cons, List.map_cons]
    by_cases e : k' = k
    · subst e
      rw [if_pos rfl, if_pos rfl]
      exact .cons hv (DK.mapPut hv hs)
    · have e' : ¬ k'.map (Sum.inl : Int → Key) = k.map Sum.inl := fun z => e (inl_inj z)
      rw [if_neg e, if_neg e']
      exact .cons h (DK.mapPut hv hs)
theorem DK.app : ∀ {kvs kvs' : List (List Int × D)} {us us' : List (List Key × V)}, DK K H kvs us → DK K H kvs' us' → DK K H (kvs ++ kvs') (us ++ us')
  | _, _, _, _, .nil, h => h
  | _, _, _, _, .cons h hs, h' => .cons h (hs.app h')
theorem DK.put {k : List Int} {d : D} {v : V} {kvs : List (List Int × D)} {us : List (List Key × V)} (h : DK K H kvs us) (hv : Den K H d v) : DK K H (putD kvs k d) (putK us (k.map Sum.inl) v) := by
  unfold putD putK
  rw [h.anyEq]
  split
  · exact DK.mapPut hv h
  · exact h.app (.cons hv .nil)
end
section
variable {T : Type} {X : Cx} {R : Rg T} {pos : Pos}
/-! x = {} -/
def wDctNew (i : Nat) : WS T := fun ρ Φ => Φ.nx (ρ.set i (.dct []))
theorem EnvOk.setDct {t : T} {H : Hp} {σ : L2.St} {ρ : Env} (ok : EnvOk R t H σ ρ) (i : Nat) {p : Addr} {us : List (List Key × V)} {kvs : List (List Int × D)} (e : H p = some (.dT us)) (hD : DK R.K H kvs us) (n0 : R.H0 p = none) (nv : ¬ R.Vol t p)
    (hne : ∀ (j : Nat) (es : List (List Int × D)), ρ[j]? = some (.dct es) → j ≠ i → σ[j]? ≠ some (some (.ref p))) : EnvOk R t H (σ.set i (some (.ref p))) (ρ.set i (.dct kvs)) := by
  have key : ∀ {j : Nat} {x : Sl}, (ρ.set i (.dct kvs))[j]? = some x → (i = j ∧ x = .dct kvs ∧ i < ρ.length) ∨ (i ≠ j ∧ ρ[j]? = some x) := fun {j x} h => by
    by_cases hij : i = j
    · subst hij
      by_cases hl : i < ρ.length
      · rw [List.getElem?_set_self hl] at h; cases h
        exact .inl ⟨rfl, rfl, hl⟩
      · rw [List.getElem?_eq_none (by rw [List.length_set]; omega)] at h; cases h
    · rw [List.getElem?_set_ne hij] at h
      exact .inr ⟨hij, h⟩
  refine ⟨ok.gd, ok.st, by rw [List.length_set, List.length_set]; exact ok.len, fun j d hj => ?_, fun j ls hj => ?_, fun j k ls es q h1 h2 h3 h4 => ?_, fun j ls hj => ?_, fun j k ls es q h1 h2 h3 h4 => ?_⟩
  · rcases key hj with ⟨_, z, _⟩ | ⟨hij, h⟩
    · cases z
    · rw [List.getElem?_set_ne hij]; exact ok.val j d h
  · rcases key hj with ⟨_, z, _⟩ | ⟨hij, h⟩
    · cases z
    · rw [List.getElem?_set_ne hij]; exact ok.own j ls h
  · rcases key h1 with ⟨_, z, _⟩ | ⟨hij, h1⟩
    · cases z
    · rcases key h2 with ⟨_, z, _⟩ | ⟨hik, h2⟩
      · cases z
      · rw [List.getElem?_set_ne hij] at h3
        rw [List.getElem?_set_ne hik] at h4
        exact ok.inj j k ls es q h1 h2 h3 h4
  · rcases key hj with ⟨rfl, z, hl⟩ | ⟨hij, h⟩
    · cases z
      exact ⟨p, us, by rw [List.getElem?_set_self (by rw [← ok.len]; exact hl)], e, hD, n0, nv⟩
    · rw [List.getElem?_set_ne hij]; exact ok.dct j ls h
  · rcases key h1 with ⟨rfl, _, hl⟩ | ⟨hij, h1⟩
    · rcases key h2 with ⟨rfl, _, _⟩ | ⟨hik, h2⟩
      · rfl
      · rw [List.getElem?_set_self (by rw [← ok.len]; exact hl)] at h3
        cases h3
        rw [List.getElem?_set_ne hik] at h4
        exact absurd h4 (hne k es h2 (Ne.symm hik))
    · rcases key h2 with ⟨rfl, _, hl⟩ | ⟨hik, h2⟩
      · rw [List.getElem?_set_self (by rw [← ok.len]; exact hl)] at h4
        cases h4
        rw [List.getElem?_set_ne hij] at h3
        exact absurd h3 (hne j ls h1 (Ne.symm hij))
      · rw [List.getElem?_set_ne hij] at h3
        rw [List.getElem?_set_ne hik] at h4
        exact ok.injd j k ls es q h1 h2 h3 h4
theorem S_dctNew {i : Nat} {st : Stmt} (h : PS X st (tAsg tDNewT (gName i))) : PS X st (S R (wDctNew i)) := PS_imp h fun D σ H ⟨ρ, t, Φ, ok, q, f⟩ => by
  intro p n
  have g : R.Go t H t (upd H p (.dT [])) := .new ok.gd n
  obtain ⟨n0, _⟩ := ok.fresh n
  refine f.nx _ _ _ t (g.ext ok.gd) ((ok.go g).setDct i upd_same .nil n0 (not_vol ok.gd n) fun j es h _ z => ?_) q
  obtain ⟨p', us, h1, h2, _⟩ := ok.dct j es h
  rw [z] at h1; cases h1
  rw [n] at h2; cases h2
theorem EnvOk.writeD {t : T} {H : Hp} {σ : L2.St} {ρ : Env} (ok : EnvOk R t H σ ρ) {i : Nat} {ds es : List (List Int × D)} {p : Addr} {us : List (List Key × V)} (h : ρ[i]? = some (.dct ds)) (h1 : σ[i]? = some (some (.ref p))) (hD : DK R.K H es us) :
    Ext H (upd H p (.dT us)) ∧ EnvOk R t (upd H p (.dT us)) σ (ρ.set i (.dct es)) := by
  obtain ⟨p', vs', h1', h2, h3, h4, hv⟩ := ok.dct i ds h
  rw [h1] at h1'; cases h1'
  have x : Ext H (upd H p (.dT us)) := ⟨fun a ys q => by rw [upd_ne (fun z => by rw [z, h2] at q; cases q)]; exact q, fun a ob u q => by rw [upd_ne (fun z => by rw [z, h2] at q; cases q)]; exact q⟩
  have hl : i < ρ.length := (List.getElem?_eq_some_iff.mp h).1
  have key : ∀ {j : Nat} {y : Sl}, (ρ.set i (.dct es))[j]? = some y → (i = j ∧ y = .dct es) ∨ (i ≠ j ∧ ρ[j]? = some y) := fun {j y} h => by
    by_cases hij : i = j
    · subst hij
      rw [List.getElem?_set_self hl] at h; cases h
      exact .inl ⟨rfl, rfl⟩
    · rw [List.getElem?_set_ne hij] at h
      exact .inr ⟨hij, h⟩
  refine ⟨x, R.dep t H _ ok.gd x fun a v => by rw [upd_ne (fun z => hv (by rw [← z]; exact v))], ⟨fun a u q nv => ?_, fun a v => upd_some (ok.st.up a v), ok.st.dn⟩, by rw [List.length_set]; exact ok.len, fun j d hj => ?_, fun j ls hj => ?_, fun j k ls fs q a1 a2 a3 a4 => ?_, fun j ls hj => ?_, fun j k ls fs q a1 a2 a3 a4 => ?_⟩
  · rw [upd_ne (fun z => by rw [z, h4] at q; cases q)]
    exact ok.st.st a u q nv
  · rcases key hj with ⟨_, z⟩ | ⟨_, h⟩
    · cases z
    · obtain ⟨v, b1, b2⟩ := ok.val j d h
      exact ⟨v, b1, b2.ext x⟩
  · rcases key hj with ⟨_, z⟩ | ⟨_, h'⟩
    · cases z
    · obtain ⟨q, ws, b1, b2, b3, b4, b5⟩ := ok.own j ls h'
      refine ⟨q, ws, b1, ?_, b3.ext x, b4, b5⟩
      rw [upd_ne (fun z => by rw [z, h2] at b2; cases b2)]
      exact b2
  · rcases key a1 with ⟨_, z⟩ | ⟨_, a1⟩
    · cases z
    · rcases key a2 with ⟨_, z⟩ | ⟨_, a2⟩
      · cases z
      · exact ok.inj j k ls fs q a1 a2 a3 a4
  · rcases key hj with ⟨rfl, z⟩ | ⟨hij, h'⟩
    · cases z
      exact ⟨p, us, h1, upd_same, hD.ext x, h4, hv⟩
    · obtain ⟨q, ws, b1, b2, b3, b4, b5⟩ := ok.dct j ls h'
      refine ⟨q, ws, b1, ?_, b3.ext x, b4, b5⟩
      rw [upd_ne (fun z => hij (ok.injd i j ds ls p h h' h1 (by rw [← z]; exact b1)))]
      exact b2
  · have conv : ∀ {j : Nat} {ls : List (List Int × D)}, (ρ.set i (.dct es))[j]? = some (.dct ls) → ∃ ls', ρ[j]? = some (.dct ls') := fun {j ls} hj => by
      rcases key hj with ⟨rfl, _⟩ | ⟨_, h'⟩
      · exact ⟨_, h⟩
      · exact ⟨_, h'⟩
    obtain ⟨_, b1⟩ := conv a1
    obtain ⟨_, b2⟩ := conv a2
    exact ok.injd j k _ _ q b1 b2 a3 a4
theorem Den.keyT {K : PySem.W.Frag} {H : Hp} {k : List Int} {v : V} (h : Den K H (.tup (k.map .int)) v) : ∃ b, v = .ref b ∧ H b = some (.tup ((k.map (Sum.inl : Int → Key)).map kV)) := by
  cases h with
  | tup ht hs => rw [hs.ints] at ht; exact ⟨_, rfl, by rw [inl_kV]; exact ht⟩
/-! x.get(k, d), x[k], x[k] = e, sorted(x) -/
def wDctGet (i : Nat) (wk wd : W T) : W T := fun ρ Φ t => ∃ kvs, ρ[i]? = some (.dct kvs) ∧ wk ρ (fun kd t => ∃ k, kd = dI k ∧ wd ρ (fun d => Φ ((lookK kvs k).getD d)) t) t
theorem E_dctGet {i : Nat} {a : Expr} {wk wd : W T} (h : PE X a (tDGet2 (tVar i) (E R wk) (E R wd))) : PE X a (E R (wDctGet i wk wd)) := PE_imp h fun σ H Q ⟨ρ, t, Φ, ok, ⟨kvs, e, q⟩, kk⟩ => by
  obtain ⟨p, us, h1, h2, h3, h4, _⟩ := ok.dct i kvs e
  refine ⟨_, h1, p, rfl, .inr ⟨us, .inl h2⟩, ρ, _, _, ok, q, fun H1 t1 y kd g1 hk ⟨k, ek, q1⟩ => ?_⟩
  subst ek
  refine ⟨ρ, _, _, ok.go g1, q1, fun H2 t2 z d g2 hd q2 => ?_⟩
  have g := g1.trans g2
  have ok2 := ok.go g
  obtain ⟨p', us', h1', h2', h3', _⟩ := ok2.dct i kvs e
  rw [h1] at h1'; cases h1'
  obtain ⟨b, rfl, hb⟩ := (hk.ext (g2.ext g1.gd)).keyT
  refine ⟨_, DGet.t h2' hb, ?_⟩
  rcases h3'.look (k := k) with ⟨a1, a2⟩ | ⟨d', v', a1, a2, a3⟩
  · rw [a2]
    rw [a1] at q2
    exact kk H2 _ z d g hd q2
  · rw [a2]
    rw [a1] at q2
    exact kk H2 _ v' d' g a3 q2
def wDctIx (i : Nat) (wk : W T) : W T := fun ρ Φ t => ∃ kvs, ρ[i]? = some (.dct kvs) ∧ wk ρ (fun kd t => ∃ k d, kd = dI k ∧ lookK kvs k = some d ∧ Φ d t) t
theorem E_dctIx {i : Nat} {a : Expr} {wk : W T} (h : PE X a (tDGet (tVar i) (E R wk))) : PE X a (E R (wDctIx i wk)) := PE_imp h fun σ H Q ⟨ρ, t, Φ, ok, ⟨kvs, e, q⟩, kk⟩ => by
  obtain ⟨p, us, h1, h2, h3, h4, _⟩ := ok.dct i kvs e
  refine ⟨_, h1, ρ, _, _, ok, q, fun H1 t1 y kd g1 hk ⟨k, d, ek, hl, q1⟩ => ?_⟩
  subst ek
  have ok2 := ok.go g1
  obtain ⟨p', us', h1', h2', h3', _⟩ := ok2.dct i kvs e
  rw [h1] at h1'; cases h1'
  obtain ⟨b, rfl, hb⟩ := hk.keyT
  rcases h3'.look (k := k) with ⟨a1, a2⟩ | ⟨d', v', a1, a2, a3⟩
  · rw [a1] at hl; cases hl
  · rw [a1] at hl; cases hl
    exact ⟨p, v', rfl, by rw [← a2]; exact DGet.t h2' hb, kk H1 _ v' d g1 a3 q1⟩
def wDctPut (i : Nat) (wk we : W T) : WS T := fun ρ Φ t => ∃ kvs, ρ[i]? = some (.dct kvs) ∧ we ρ (fun d => wk ρ fun kd t => ∃ k, kd = dI k ∧ kvs.length < sizeLine ∧ Φ.nx (ρ.set i (.dct (putD kvs k d))) t) t
theorem S_dctPut {i : Nat} {st : Stmt} {wk we : W T} (h : PS X st (sDPut (tVar i) (E R wk) (E R we))) : PS X st (S R (wDctPut i wk we)) := PS_imp h fun D σ H ⟨ρ, t, Φ, ok, ⟨kvs, e, q⟩, f⟩ => by
  refine ⟨ρ, _, _, ok, q, fun H1 t1 v d g1 hd q1 => ?_⟩
  have ok1 := ok.go g1
  obtain ⟨p, us, h1, h2, h3, h4, _⟩ := ok1.dct i kvs e
  refine ⟨_, h1, ρ, _, _, ok1, q1, fun H2 t2 y kd g2 hk ⟨k, ek, hl, q2⟩ => ?_⟩
  subst ek
  have ok2 := ok1.go g2
  obtain ⟨p', us', h1', h2', h3', _⟩ := ok2.dct i kvs e
  rw [h1] at h1'; cases h1'
  obtain ⟨b, rfl, hb⟩ := hk.keyT
  obtain ⟨x, ok3⟩ := ok2.writeD (es := putD kvs k d) e h1 (h3'.put (k := k) (hd.ext (g2.ext g1.gd)))
  exact ⟨p, _, rfl, DPut.t h2' hb (by rw [← h3'.len]; exact hl), f.nx σ _ _ t2 (((g1.trans g2).ext ok.gd).trans x) ok3 q2⟩
end
end J

set_option Elab.async false
set_option linter.all false
set_option maxRecDepth 100000
set_option maxHeartbeats 4000000
/-! J10: tuple * int from 1 on; sorted(d) of a dict whose keys are tuples of ints. -/
namespace J
open PySem PySem.Spec L2 PyProof.Rows
theorem tuple_mul1 (l : Addr) (items : Array Value) (n : Nat) (dd : Option Addr) (sl : Array (Option Value)) (u : Tok) :
    Meets (Builtin.«tuple.__mul__» ⟨[.ref l, .int 1 u], []⟩) (fun _ R s => s.heap.get? l = some { cls := .type "tuple", dict := dd, data := .seq items n, slots := sl } ∧
      R (.ok (.ret (Value.ref l))) s) :=
  .of_wp fun prog w A R s h => by
    obtain ⟨hp, g, d, tk, os⟩ := s
    obtain ⟨hl, h⟩ := h
    have f1 := AutoSeq1.idx_int
    have c0 : (decide ((1 : Int) < -(2 ^ 63)) || decide ((1 : Int) ≥ 2 ^ 63)) = false := by decide
    have c1 : (items.isEmpty || (1 : Int) == 1) = true := by simp
    wp_walk using wpAny_loadPart' hl
    repeat (first
      | (refine wpAny_ite_false (decide_eq_false (by rw [c0]; exact Bool.false_ne_true)) ?_; wp_walk using wpAny_loadPart' hl)
      | (refine wpAny_ite_true (decide_eq_true (by rw [c1])) ?_; wp_walk using wpAny_loadPart' hl))
    exact ⟨_, rfl, h⟩
section
variable {T : Type} {X : Cx} {R : Rg T}
theorem op_rep1 : OpR X (binaryOp .Mult) (fun x y H Q => ∃ l xs, x = .ref l ∧ y = .int 1 ∧ SqT X.K H l xs ∧ Q (.ref l) H) := by
  intro pins s σ H x y v u Q I rx ry h
  obtain ⟨l, xs, rfl, rfl, hT, q⟩ := h
  cases rx
  obtain ⟨t, rfl⟩ := ry
  obtain ⟨its, r, ⟨⟨cls, dd, data, sl⟩, ho, hc, n, hd⟩, hs⟩ := I.tuple hT
  simp only at hc hd
  subst hc hd
  refine wpAny_binaryOp_repeat_ref (T := "tuple") (U := "int") (by decide) ⟨_, ho, rfl⟩ (fun s' => typeIs_int s' 1 t) noFill_tuple_mul F.fills_int_mul F.slot_int_rmul repeat_tuple F.slot_int_index.lookup
    (call_meets F.slot_int_rmul (typeIs_int s 1 t) F.entry_int_rmul (F.args_int_rmul_2 _ _) (int_rmul_tuple 1 t l its.toArray n dd sl)
      ⟨ho, rfl, ⟨_, ho, rfl⟩, call_meets F.slot_tuple_mul ⟨_, ho, rfl⟩ F.entry_tuple_mul (F.args_tuple_mul_2 _ _) (tuple_mul1 l its.toArray n dd sl t) ⟨ho, ?_⟩⟩)
  exact ⟨.ref l, H, I, rfl, q⟩
def fRepT (d e : D) (Φ : D → Prop) : Prop := ∃ xs k, d = .tup xs ∧ e = .int k ∧ xs ≠ [] ∧ 1 ≤ k ∧ k ≤ 1000 ∧ xs.length ≤ 1000 ∧ Φ (.tup (List.replicate k.toNat xs).flatten)
theorem op_repA : OpR X (binaryOp .Mult) (fun x y H Q => (∃ l xs, x = .ref l ∧ y = .int 1 ∧ SqT X.K H l xs ∧ Q (.ref l) H) ∨ rRepT X.K x y H Q) := op_rep1.or op_repT
theorem opd_repT (hK : X.K = R.K := by rfl) : Op2 R (fun x y H Q => (∃ l xs, x = .ref l ∧ y = .int 1 ∧ SqT X.K H l xs ∧ Q (.ref l) H) ∨ rRepT X.K x y H Q) fRepT := fun t H x y dx dy Φ Q gd hx hy ⟨xs, k, e1, e2, hne, h1, h2, hl, q⟩ kk => by
  subst e1 e2
  rw [hK]
  cases hy
  cases hx with
  | @tup a vs _ ht hs =>
    by_cases hk : k = 1
    · subst hk
      refine .inl ⟨a, vs, rfl, rfl, .inl (.inl ht), kk H _ (.tup xs) (.refl gd) (.tup ht hs) ?_⟩
      simpa using q
    · refine .inr ⟨a, k, vs, rfl, rfl, .inl (.inl ht), fun e => hne (by subst e; cases hs; rfl), by omega, h2, by rw [← hs.len]; exact hl, fun p n => ?_⟩
      obtain ⟨g, h'⟩ := new_tup (R := R) gd n (hs.rep k.toNat)
      exact kk _ _ _ g h' q
/-! sorted(d) -/
def rSortDT : List V → Hp → VK → Prop := fun xs H Q => ∃ (a : Addr) (us : List (List Key × V)) (ks : List (List Int)) (d : Nat) (B : Int), xs = [.ref a] ∧ H a = some (.dT us) ∧ us.map (·.1) = ks.map (·.map Sum.inl) ∧ 1 ≤ d ∧ us.length < 64 ∧ (∀ k ∈ ks, k.length = d ∧ TS.Bd B k) ∧
  ∀ (ys : List (List Int)) (bs : List Addr) (p : Addr), ys.Perm ks → ys.Pairwise (fun n m => TS.code B n ≤ TS.code B m) → Paired (fun y b => H b = some (.tup (y.map V.int))) ys bs → H p = none → Q (.ref p) (upd H p (.lst (bs.map V.ref)))
theorem refs_paired {s : Heap} {H : Hp} : ∀ (l : List Value), (∀ v ∈ l, ∃ b, v = .ref b ∧ H b = some (.tup ((TS.intsOf s v).map V.int))) → ∃ bs : List Addr, l = bs.map Value.ref ∧ Paired (fun y b => H b = some (.tup (y.map V.int))) (l.map (TS.intsOf s)) bs
  | [], _ => ⟨[], rfl, .nil⟩
  | v :: l, h => by
    obtain ⟨b, rfl, hb⟩ := h v List.mem_cons_self
    obtain ⟨bs, e, p⟩ := refs_paired l fun u hu => h u (List.mem_cons_of_mem _ hu)
    exact ⟨b :: bs, by rw [e, List.map_cons], .cons hb p⟩
theorem cr_sortDT (hc : X.calm = true) : CallR X (.builtin "sorted") rSortDT := by
  intro pins s σ H xs us0 Q I r h
  obtain ⟨a, us, kks, d, B, rfl, ha, hks, hd1, h64, hB, q⟩ := h
  obtain ⟨u, rfl, rx⟩ := r.one
  cases rx
  obtain ⟨z, hs, ks, pr, o, es, ep, ho, hx, hdt, he, hn⟩ := (show ObjOk X.prog X.w H s.heap a (.dT us) from I.hok a _ ha)
  have l1 : es.size = ks.length := size_of_entries he
  have l2 : us.length = ks.length := Paired.length pr
  have l3 : ks.length = kks.length := by
    have := congrArg List.length hks
    rw [List.length_map, List.length_map] at this
    omega
  refine Calls.call_function_entry PyProof.Rows.kind_sorted PyProof.Rows.plain_sorted PyProof.Rows.entry_sorted (PyProof.Rows.args_sorted1 _) ?_
  unfold Builtin.«sorted»
  refine wpAny_bind (m := checkCount "sorted" 1 1 _) (wpAny_pure ?_)
  refine wpAny_bind (PySem.W.kdu_collect (A := X.A.in1) (kdl_raw hs hx hdt) (I.ok.hd hc) ho (by omega) fun h' tk acc kp it => ?_)
  have ea : acc.toList = ks.map fun x => Value.ref x.2.1 := by
    have hl : acc.toList.length = ks.length := by rw [Array.length_toList, it.1]; exact l1
    apply List.ext_getElem?
    intro j
    rw [List.getElem?_map]
    cases hj : acc.toList[j]? with
    | none =>
      have h1 := List.getElem?_eq_none_iff.mp hj
      rw [List.getElem?_eq_none (by omega)]
      all_goals rfl
    | some v =>
      obtain ⟨en, hen, hv⟩ := it.2 j v (by rw [← Array.getElem?_toList]; exact hj)
      have qe := entry_at he j
      rw [hen] at qe
      cases hb : ks[j]? with
      | none =>
        rw [hb] at qe
        exact nomatch (show some en = none from qe)
      | some b =>
        rw [hb] at qe
        have e2 : en = entryOfKey (tupleKind (mixKind X.prog X.w)) b := Option.some.inj qe
        rw [hv, e2]
        all_goals rfl
  have hkk : ks.map (·.1) = kks.map (·.map Sum.inl) := by
    rw [← hks]
    have : ∀ {us : List (List Key × V)} {ks : List (List Key × Addr × Value)}, KT H us ks → ks.map (·.1) = us.map (·.1) := by
      intro us ks r
      induction r with
      | nil => rfl
      | cons h t ih => rw [List.map_cons, List.map_cons, ih, h.1]
    exact this pr
  have hin : ∀ x ∈ ks, ∃ k ∈ kks, x.1 = k.map Sum.inl ∧ H x.2.1 = some (.tup (k.map V.int)) := by
    intro x hx
    have hm : x.1 ∈ ks.map (·.1) := List.mem_map_of_mem hx
    rw [hkk] at hm
    obtain ⟨k, hk, e⟩ := List.mem_map.mp hm
    refine ⟨k, hk, e.symm, ?_⟩
    have : ∀ {us : List (List Key × V)} {ks : List (List Key × Addr × Value)}, KT H us ks → ∀ x ∈ ks, H x.2.1 = some (.tup (x.1.map kV)) := by
      intro us ks r
      induction r with
      | nil => intro x hx; simp at hx
      | cons h t ih =>
        intro x hx
        rcases List.mem_cons.mp hx with rfl | hx
        · rw [← h.1]; exact h.2.1
        · exact ih x hx
    rw [this pr x hx, ← e, inl_kV]
  have I1 : Inv X pins σ H { s with heap := h', toks := tk } := I.kept kp
  have hal : acc.toList.length = ks.length := by rw [ea, List.length_map]
  refine wpAny_bind (wpAny_newList ?_ (by rw [hal, sizeLine_eq]; omega))
  have hoL : (h'.push (seqObj "list" acc.toList.toArray 0)).get? h'.objs.size = some (seqObj "list" acc.toList.toArray 0) := Heap.get?_push_size _ rfl
  show wpAny _ _ _ _ _ { s with heap := h'.push (seqObj "list" acc.toList.toArray 0), toks := tk }
  have I2 : Inv X pins σ H { s with heap := h'.push (seqObj "list" acc.toList.toArray 0), toks := tk } := I1.kept fun b o e => Heap.get?_push_of_some _ e
  have hti : ∀ x ∈ ks, ∃ k ∈ kks, H x.2.1 = some (.tup (k.map V.int)) ∧ TS.TupInts (h'.push (seqObj "list" acc.toList.toArray 0)) (.ref x.2.1) k ∧ x.1 = k.map Sum.inl := by
    intro x hx
    obtain ⟨k, hk, e1, e2⟩ := hin x hx
    exact ⟨k, hk, e2, tupI_raw I2 (.inl (.inl e2)), e1⟩
  have hok : TS.TupsOk (h'.push (seqObj "list" acc.toList.toArray 0)) d B acc.toList := by
    intro v hv
    rw [ea] at hv
    obtain ⟨x, hx, rfl⟩ := List.mem_map.mp hv
    obtain ⟨k, hk, _, e2, _⟩ := hti x hx
    exact ⟨k, e2, (hB k hk).1, (hB k hk).2⟩
  have hperm : acc.toList.map (TS.intsOf (h'.push (seqObj "list" acc.toList.toArray 0))) = kks := by
    have e3 : (acc.toList.map (TS.intsOf (h'.push (seqObj "list" acc.toList.toArray 0)))).map (fun k => k.map (Sum.inl : Int → Key)) = kks.map (·.map Sum.inl) := by
      rw [← hkk, ea, List.map_map, List.map_map]
      refine List.map_congr_left fun x hx => ?_
      obtain ⟨k, hk, _, e2, e1⟩ := hti x hx
      show (TS.intsOf _ (Value.ref x.2.1)).map Sum.inl = x.1
      rw [ea] at e2
      rw [e2.ints, e1]
    have inj : ∀ {a b : List (List Int)}, a.map (fun k => k.map (Sum.inl : Int → Key)) = b.map (·.map Sum.inl) → a = b := by
      intro a
      induction a with
      | nil => intro b h; cases b with
        | nil => rfl
        | cons => simp at h
      | cons x r ih =>
        intro b h
        cases b with
        | nil => simp at h
        | cons y r' =>
          rw [List.map_cons, List.map_cons] at h
          injection h with h1 h2
          rw [inl_inj h1, ih h2]
    exact inj e3
  refine wpAny_bind (wpAny_holding (wpAny_call_entry PyProof.Rows.slot_list_sort ⟨_, hoL, rfl⟩ PyProof.Rows.entry_list_sort
    (TS.sort_tups (s := { s with heap := h'.push (seqObj "list" acc.toList.toArray 0), toks := tk }) hoL (by rw [hal]; omega) hd1 hok (fun v => TS.code B (TS.intsOf (h'.push (seqObj "list" acc.toList.toArray 0)) v)) (fun v _ ns t => by
      show TS.code B (TS.intsOf _ v) = _
      rw [t.ints]) fun out g1 g2 => ⟨_, rfl, ?_⟩) (PyProof.Rows.args_list_sort _)))
  obtain ⟨e', he'⟩ := PyProof.Rows.sortedHeap_at (vs := acc.toList) (out := out) hoL
  obtain ⟨bs, eb, hp⟩ := refs_paired (s := h'.push (seqObj "list" acc.toList.toArray 0)) (H := H) out.toList fun v hv => by
    have hv := g1.mem_iff.mp hv
    rw [ea] at hv
    obtain ⟨x, hx, rfl⟩ := List.mem_map.mp hv
    obtain ⟨k, hk, e1, e2, _⟩ := hti x hx
    exact ⟨_, rfl, by rw [e2.ints]; exact e1⟩
  have hlen : (bs.map V.ref).length ≤ sizeLine := by
    have := g1.length_eq
    rw [eb, List.length_map] at this
    rw [List.length_map, this, hal]; omega
  refine wpAny_pure ⟨_, rfl, .ref h'.objs.size, upd H h'.objs.size (.lst (bs.map V.ref)), I1.laid (t' := tk) (fun b u e => ?_) (Nat.le_refl _)
    (show ObjOk X.prog X.w _ _ _ (.lst (bs.map V.ref)) from ⟨hlen, out.toList, e', by rw [eb]; exact vals_refs _, by rw [Array.toArray_toList]; exact he'⟩), rfl, q _ bs _ (by rw [← hperm]; exact g1.map _) ?_ hp (I1.hok.fresh (Nat.le_refl _))⟩
  · have hb : b < h'.objs.size := Heap.lt_size e
    rw [PyProof.Rows.sortedHeap_old (Nat.ne_of_lt hb) (by rw [size_push']; exact Nat.lt_succ_of_lt hb)]
    exact Heap.get?_push_of_some _ e
  · rw [List.pairwise_map]
    exact g2
def wDctSorted (i : Nat) : WL T := fun ρ Φ t => ∃ kvs, ρ[i]? = some (.dct kvs) ∧ ∃ (d : Nat) (B : Int), 1 ≤ d ∧ kvs.length < 64 ∧ (∀ kv ∈ kvs, kv.1.length = d ∧ TS.Bd B kv.1) ∧
  ∀ ys : List (List Int), ys.Perm (kvs.map (·.1)) → ys.Pairwise (fun n m => TS.code B n ≤ TS.code B m) → Φ (ys.map fun y => dI y) t
theorem dens_refs {K : PySem.W.Frag} {H : Hp} {ys : List (List Int)} {bs : List Addr} (h : Paired (fun y b => H b = some (.tup (y.map V.int))) ys bs) : Dens K H (ys.map fun y => dI y) (bs.map V.ref) := by
  induction h with
  | nil => exact .nil
  | cons h t ih => exact .cons (.tup h (by
      have : ∀ l : List Int, Dens K H (l.map D.int) (l.map V.int) := fun l => by
        induction l with
        | nil => exact .nil
        | cons a b ih => exact .cons (.int a) ih
      exact this _)) ih
theorem EL_dctSorted {i : Nat} {a : Expr} (h : PE X a (tCB rSortDT (tCons (tVar i) tNil))) : PE X a (EL R (wDctSorted i)) := PE_imp h fun σ H Q ⟨ρ, t, Φ, ok, ⟨kvs, e, d, B, h1, h2, h3, q⟩, kk⟩ => by
  obtain ⟨p, us, a1, a2, a3, a4, _⟩ := ok.dct i kvs e
  refine ⟨_, a1, p, us, kvs.map (·.1), d, B, rfl, a2, a3.keys, h1, by rw [← a3.len]; exact h2, fun k hk => ?_, fun ys bs p' hy hs hp n => ?_⟩
  · obtain ⟨kv, hkv, rfl⟩ := List.mem_map.mp hk
    exact h3 kv hkv
  · obtain ⟨g, nv, D'⟩ := new_lst (R := R) ok.gd n (dens_refs (K := R.K) hp)
    exact kk _ _ _ _ _ g n upd_same nv D' (q ys hy hs)
end
theorem hu1 {k : Nat} {A : Around} (r : Room k A) : A.units + 1 < cLine := by have := r.units; omega
end J

set_option Elab.async false
set_option linter.all false
set_option maxRecDepth 100000
set_option maxHeartbeats 4000000
/-! J11: plain forms, plainly. -/
namespace J
open PySem PySem.Spec L2 RZ
abbrev KN := List (List Int × List Int)
def lookN (kvs : KN) (k : List Int) : Option (List Int) := (kvs.find? fun kv => decide (kv.1 = k)).map (·.2)
def putN (kvs : KN) (k : List Int) (d : List Int) : KN :=
  if (kvs.any fun kv => decide (kv.1 = k)) = true then kvs.map (fun kv => if kv.1 = k then (kv.1, d) else kv) else kvs ++ [(k, d)]
abbrev encK (kv : List Int × List Int) : List Int × D := (kv.1, dI kv.2)
theorem lookK_enc (k : List Int) : ∀ kvs : KN, lookK (kvs.map encK) k = (lookN kvs k).map fun v => dI v
  | [] => rfl
  | kv :: kvs => by
    have ih := lookK_enc k kvs
    unfold lookK lookN at *
    rw [List.map_cons, List.find?_cons, List.find?_cons]
    by_cases h : kv.1 = k
    · simp [h]
    · simp only [h, decide_false]
      exact ih
theorem putD_enc (k v : List Int) (kvs : KN) : putD (kvs.map encK) k (dI v) = (putN kvs k v).map encK := by
  unfold putD putN
  have e : ((kvs.map encK).any fun kv => decide (kv.1 = k)) = kvs.any fun kv => decide (kv.1 = k) := by rw [List.any_map]; rfl
  rw [e]
  split
  · rw [List.map_map, List.map_map]
    refine List.map_congr_left fun kv _ => ?_
    simp only [Function.comp]
    split <;> rfl
  · rw [List.map_append]; rfl
def addV (a b : List Int) : List Int := (a.zip b).map fun p => p.1 + p.2
def addWay (n : Nat) (kvs : KN) (c : List Int) : KN := if 0 < gcdL c then putN kvs (dirL c) (addV ((lookN kvs (dirL c)).getD (List.replicate n 0)) c) else kvs
def wayD (n : Nat) (cs : List (List Int)) : KN := cs.foldl (addWay n) []
def bigB : Int := 2 ^ 8000
def tran (n : Nat) (cs : List (List Int)) : List (List Int) := (List.range n).map fun x => cs.map fun c => c.getD x 0
def plainOut (d : Int) (n : Nat) (cs : List (List Int)) : D := dTel (d / gcdL (d :: (tran n cs).flatten)) (lowR (gcdL (d :: (tran n cs).flatten)) (tran n cs))
def plainQ (d : Int) (n : Nat) (columns : List (List Int)) (Φ : D → Prop) : Prop := ∀ ys : List (List Int), ys.Perm ((wayD n columns).map (·.1)) → ys.Pairwise (fun a b => TS.code bigB a ≤ TS.code bigB b) → Φ (plainOut d n (ys.map fun y => (lookN (wayD n columns) y).getD []))
structure ColsOk (n : Nat) (cs : List (List Int)) : Prop where
  l : cs.length ≤ 12
  n1 : 1 ≤ n
  n2 : n ≤ 6
  len : ∀ c ∈ cs, c.length = n
  nn : ∀ c ∈ cs, ∀ x ∈ c, 0 ≤ x
  sm : ∀ c ∈ cs, ∀ x ∈ c, Sm 8000 x
  ex : ∃ c ∈ cs, 0 < gcdL c
def fs_plain_of : FS := fun ds Φ => ∃ d columns n, ds = [.int d, .lst (columns.map fun c => dI c)] ∧ 0 < d ∧ d ≤ 10 ^ 30 ∧ ColsOk n columns ∧ plainQ d n columns Φ
def fs_plain_told : FS := fun ds Φ => ∃ d rows, ds = [dTel d rows] ∧ IsTel d rows ∧ plainQ d rows.length (cols rows) Φ
def fs_plain : FS := fs_plain_told
/-! ways -/
structure WayOk (n : Nat) (kvs : KN) : Prop where
  kl : ∀ kv ∈ kvs, kv.1.length = n
  vl : ∀ kv ∈ kvs, kv.2.length = n
  bd : ∀ kv ∈ kvs, TS.Bd bigB kv.1
theorem putN_mem {kvs : KN} {k v : List Int} {kv : List Int × List Int} (h : kv ∈ putN kvs k v) : kv ∈ kvs ∨ kv = (k, v) := by
  unfold putN at h
  split at h
  · obtain ⟨kv', h1, h2⟩ := List.mem_map.mp h
    split at h2
    · rename_i he; right; rw [← h2, he]
    · left; rw [← h2]; exact h1
  · rcases List.mem_append.mp h with h | h
    · exact .inl h
    · right; simpa using h
theorem putN_len {kvs : KN} {k v : List Int} : (putN kvs k v).length ≤ kvs.length + 1 := by
  unfold putN
  split
  · rw [List.length_map]; omega
  · rw [List.length_append]; simp
theorem lookN_mem {kvs : KN} {k v : List Int} (h : lookN kvs k = some v) : (k, v) ∈ kvs := by
  unfold lookN at h
  cases e : kvs.find? fun kv => decide (kv.1 = k) with
  | none => rw [e] at h; cases h
  | some kv =>
    rw [e] at h
    cases h
    have h1 := List.mem_of_find?_eq_some e
    have h2 := List.find?_some e
    have h3 : kv.1 = k := by simpa using h2
    rw [← h3]; exact h1
theorem dirL_nn {c : List Int} (h : ∀ x ∈ c, 0 ≤ x ∧ Sm 8000 x) : TS.Bd bigB (dirL c) := by
  intro m hm
  obtain ⟨x, hx, rfl⟩ := List.mem_map.mp hm
  obtain ⟨h0, h1⟩ := h x hx
  have h2 : Sm 8000 (x / gcdL c) := h1.div
  have h3 := Int.ediv_nonneg h0 (gcdL_nn c)
  refine ⟨h3, ?_⟩
  unfold Sm at h2
  unfold bigB
  have : ((x / gcdL c).natAbs : Int) < ((2 ^ 8000 : Nat) : Int) := Int.ofNat_lt.mpr h2
  rw [Int.natAbs_of_nonneg h3] at this
  rw [Int.natCast_pow] at this
  exact this
theorem addV_len {a b : List Int} {n : Nat} (h1 : a.length = n) (h2 : b.length = n) : (addV a b).length = n := by
  unfold addV; rw [List.length_map, List.length_zip, h1, h2]; omega
theorem wayOk_add {n : Nat} {kvs : KN} {c : List Int} (h : WayOk n kvs) (hl : c.length = n) (hc : ∀ x ∈ c, 0 ≤ x ∧ Sm 8000 x) : WayOk n (addWay n kvs c) := by
  unfold addWay
  split
  · have hv : ((lookN kvs (dirL c)).getD (List.replicate n 0)).length = n := by
      cases e : lookN kvs (dirL c) with
      | none => simp
      | some v => exact h.vl _ (lookN_mem e)
    refine ⟨fun kv hk => ?_, fun kv hk => ?_, fun kv hk => ?_⟩
    · rcases putN_mem hk with hk | rfl
      · exact h.kl kv hk
      · show (dirL c).length = n
        rw [dirL, List.length_map, hl]
    · rcases putN_mem hk with hk | rfl
      · exact h.vl kv hk
      · exact addV_len hv hl
    · rcases putN_mem hk with hk | rfl
      · exact h.bd kv hk
      · exact dirL_nn hc
  · exact h
theorem wayD_take {n : Nat} {cs : List (List Int)} {k : Nat} {c : List Int} (h : cs[k]? = some c) : wayD n (cs.take (k + 1)) = addWay n (wayD n (cs.take k)) c := by
  rw [take_succ_at h]
  unfold wayD
  rw [List.foldl_append]
  rfl
theorem wayD_ok {n : Nat} {cs : List (List Int)} (h : ColsOk n cs) : ∀ k, WayOk n (wayD n (cs.take k)) ∧ (wayD n (cs.take k)).length ≤ k := by
  intro k
  induction k with
  | zero => exact ⟨⟨fun _ h => by simp [wayD] at h, fun _ h => by simp [wayD] at h, fun _ h => by simp [wayD] at h⟩, by simp [wayD]⟩
  | succ k ih =>
    cases e : cs[k]? with
    | none =>
      have : cs.take (k + 1) = cs.take k := by
        have := List.getElem?_eq_none_iff.mp e
        rw [List.take_of_length_le (by omega), List.take_of_length_le (by omega)]
      rw [this]
      exact ⟨ih.1, by omega⟩
    | some c =>
      have hm := List.mem_of_getElem? e
      rw [wayD_take e]
      refine ⟨wayOk_add ih.1 (h.len c hm) fun x hx => ⟨h.nn c hm x hx, h.sm c hm x hx⟩, ?_⟩
      unfold addWay
      split
      · exact Nat.le_trans putN_len (by omega)
      · omega
theorem putN_ne {kvs : KN} {k v : List Int} : (putN kvs k v) ≠ [] := by
  unfold putN
  split
  · rename_i h
    intro e
    have := List.map_eq_nil_iff.mp e
    subst this
    simp at h
  · simp
theorem wayD_ne {n : Nat} {cs : List (List Int)} (h : ∃ c ∈ cs, 0 < gcdL c) : wayD n cs ≠ [] := by
  have key : ∀ (cs : List (List Int)) (kvs : KN), (kvs ≠ [] ∨ ∃ c ∈ cs, 0 < gcdL c) → cs.foldl (addWay n) kvs ≠ [] := by
    intro cs
    induction cs with
    | nil =>
      intro kvs h
      rcases h with h | ⟨c, h, _⟩
      · exact h
      · simp at h
    | cons c r ih =>
      intro kvs h
      refine ih (addWay n kvs c) ?_
      unfold addWay
      by_cases hc : 0 < gcdL c
      · rw [if_pos hc]; exact .inl putN_ne
      · rw [if_neg hc]
        rcases h with h | ⟨x, hx, hg⟩
        · exact .inl h
        · rcases List.mem_cons.mp hx with rfl | hx
          · exact absurd hg hc
          · exact .inr ⟨x, hx, hg⟩
  exact key cs [] (.inr h)
theorem lookN_key {kvs : KN} {k : List Int} (h : k ∈ kvs.map (·.1)) : ∃ v, lookN kvs k = some v ∧ (k, v) ∈ kvs := by
  cases e : lookN kvs k with
  | some v => exact ⟨v, rfl, lookN_mem e⟩
  | none =>
    unfold lookN at e
    rw [Option.map_eq_none_iff, List.find?_eq_none] at e
    obtain ⟨kv, h1, h2⟩ := List.mem_map.mp h
    have := e kv h1
    simp [h2] at this
theorem gcdL_zero_iff {c : List Int} (h : ¬ 0 < gcdL c) : ∀ x ∈ c, x = 0 := by
  intro x hx
  have h1 : gcdL c = 0 := by have := gcdL_nn c; omega
  have h2 := gcdL_dvd hx
  rw [h1] at h2
  exact Int.zero_dvd.mp h2
theorem tel_cols {d : Int} {rows : List (List Int)} (h : IsTel d rows) : ColsOk rows.length (cols rows) := by
  have d1 := h.d1
  refine ⟨by rw [cols_len]; exact h.ok.w2, h.ok.l1, h.ok.l2, fun c hc => ?_, fun c hc x hx => ?_, fun c hc x hx => (cols_sm h.ok (small_d h) hc hx).mono (by decide), ?_⟩
  · obtain ⟨y, hy, rfl⟩ := mem_cols hc
    rw [List.length_map]
  · obtain ⟨r, hr, hxr⟩ := cols_mem h.ok.len hc hx
    exact h.ok.nn r hr x hxr
  · -- one column is not all zero: the first row sums to d
    apply Classical.byContradiction
    intro hn
    obtain ⟨r0, rs, hr, hw⟩ := head_wid h.ok.l1
    have hr0 : r0 ∈ rows := by rw [hr]; exact List.mem_cons_self
    have hs := h.ok.sum r0 hr0
    have hz : ∀ x ∈ r0, x = 0 := by
      intro x hx
      obtain ⟨y, hy, rfl⟩ := List.mem_iff_getElem.mp hx
      have hc : (rows.map fun r => r.getD y 0) ∈ cols rows := List.mem_map.mpr ⟨y, List.mem_range.mpr (by omega), rfl⟩
      have := gcdL_zero_iff (fun z => hn ⟨_, hc, z⟩) (r0.getD y 0) (List.mem_map.mpr ⟨r0, hr0, rfl⟩)
      rw [List.getD_eq_getElem?_getD, List.getElem?_eq_getElem hy] at this
      exact this
    have : r0.sum = 0 := by
      have : ∀ l : List Int, (∀ x ∈ l, x = 0) → l.sum = 0 := by
        intro l
        induction l with
        | nil => intro _; rfl
        | cons a b ih => intro h; rw [List.sum_cons, h a List.mem_cons_self, ih fun x hx => h x (List.mem_cons_of_mem _ hx)]; rfl
      exact this r0 hz
    omega
theorem gcdL_all0 {c : List Int} (h : ∀ x ∈ c, x = 0) : gcdL c = 0 := by
  have key : ∀ (c : List Int), (∀ x ∈ c, x = 0) → c.foldl gcdI 0 = 0 := by
    intro c
    induction c with
    | nil => intro _; rfl
    | cons a b ih =>
      intro h
      rw [List.foldl_cons, h a List.mem_cons_self]
      exact ih fun x hx => h x (List.mem_cons_of_mem _ hx)
  exact key c h
theorem gcdL_sm {c : List Int} {n : Nat} (h : ∀ x ∈ c, 0 ≤ x ∧ Sm n x) (hg : 0 < gcdL c) : Sm n (gcdL c) := by
  apply Classical.byContradiction
  intro hn
  have : gcdL c = 0 := gcdL_all0 fun x hx => by
    obtain ⟨h0, h1⟩ := h x hx
    apply Classical.byContradiction
    intro hx0
    exact hn (h1.le (gcdL_nn c) (Int.le_of_dvd (by omega) (gcdL_dvd hx)))
  omega
theorem tran_len (n : Nat) (cs : List (List Int)) : (tran n cs).length = n := by rw [tran, List.length_map, List.length_range]
theorem tran_row {n : Nat} {cs : List (List Int)} {r : List Int} (h : r ∈ tran n cs) : r.length = cs.length := by
  obtain ⟨x, _, rfl⟩ := List.mem_map.mp h
  rw [List.length_map]
theorem tran_wid {n : Nat} {cs : List (List Int)} (h : 1 ≤ n) : wid (tran n cs) = cs.length := by
  obtain ⟨r, rs, hr, hw⟩ := head_wid (rows := tran n cs) (by rw [tran_len]; exact h)
  rw [hw]
  exact tran_row (by rw [hr]; exact List.mem_cons_self)
theorem rep_flat (k : Nat) (d : D) : (List.replicate k [d]).flatten = List.replicate k d := by
  induction k with
  | zero => rfl
  | succ k ih => rw [List.replicate_succ, List.flatten_cons, ih, List.replicate_succ]; rfl
end J

set_option Elab.async false
set_option linter.all false
set_option maxRecDepth 100000
set_option maxHeartbeats 4000000
/-! J12: the draw of a law, as a regime. -/
namespace J
open PySem PySem.Spec L2 RZ
structure DS where
  large : List Int
  cells : List Int
  rest : Int
  turn : Int
def drKV (t : DS) (l c : Addr) : List (Key × V) := [(.inr "large", .ref l), (.inr "cells", .ref c), (.inr "rest", .int t.rest), (.inr "turn", .int t.turn)]
structure DrawAt (K : PySem.W.Frag) (d l c : Addr) (t : DS) (H : Hp) : Prop where
  dct : H d = some (.dK (drKV t l c))
  lrg : H l = some (.lst (t.large.map V.int))
  cel : LF K H c (t.cells.map V.int)
def drawR (K : PySem.W.Frag) (H0 : Hp) (d l c : Addr) (t0 : DS) : Rg DS where
  K := K
  H0 := H0
  t0 := t0
  Vol := fun _ a => a = d ∨ a = l
  Gd := fun t H => DrawAt K d l c t H
  kind := fun t H a g v => by
    rcases v with rfl | rfl
    · exact ⟨_, g.dct, trivial⟩
    · exact ⟨_, g.lrg, trivial⟩
  dep := fun t H H' g x h => ⟨by rw [h d (.inl rfl)]; exact g.dct, by rw [h l (.inr rfl)]; exact g.lrg, x.lf g.cel⟩
theorem k_ne1 : ((.inr "large" : Key) = .inr "cells") = False := eq_false (by decide)
theorem k_ne2 : ((.inr "large" : Key) = .inr "rest") = False := eq_false (by decide)
theorem k_ne3 : ((.inr "large" : Key) = .inr "turn") = False := eq_false (by decide)
theorem k_ne4 : ((.inr "cells" : Key) = .inr "rest") = False := eq_false (by decide)
theorem k_ne5 : ((.inr "cells" : Key) = .inr "turn") = False := eq_false (by decide)
theorem k_ne6 : ((.inr "rest" : Key) = .inr "turn") = False := eq_false (by decide)
theorem k_ne7 : ((.inr "turn" : Key) = .inr "rest") = False := eq_false (by decide)
theorem dr_large (t : DS) (l c : Addr) : valV (drKV t l c) (.inr "large") = some (.ref l) := by simp [valV, drKV]
theorem dr_cells (t : DS) (l c : Addr) : valV (drKV t l c) (.inr "cells") = some (.ref c) := by simp only [valV, drKV, List.find?_cons, k_ne1, decide_false, decide_true, Option.map_some]
theorem dr_rest (t : DS) (l c : Addr) : valV (drKV t l c) (.inr "rest") = some (.int t.rest) := by simp only [valV, drKV, List.find?_cons, k_ne2, k_ne4, decide_false, decide_true, Option.map_some]
theorem dr_turn (t : DS) (l c : Addr) : valV (drKV t l c) (.inr "turn") = some (.int t.turn) := by simp only [valV, drKV, List.find?_cons, k_ne3, k_ne5, k_ne6, decide_false, decide_true, Option.map_some]
theorem dr_putR (t : DS) (l c : Addr) (n : Int) : putK (drKV t l c) (.inr "rest") (.int n) = drKV { t with rest := n } l c := by
  simp only [putK, drKV, List.any_cons, List.map_cons, List.map_nil, k_ne2, k_ne4, k_ne7, decide_false, decide_true, Bool.true_or, Bool.or_true, if_true, if_false]
theorem dr_putT (t : DS) (l c : Addr) (n : Int) : putK (drKV t l c) (.inr "turn") (.int n) = drKV { t with turn := n } l c := by
  simp only [putK, drKV, List.any_cons, List.map_cons, List.map_nil, k_ne3, k_ne5, k_ne6, decide_false, decide_true, Bool.true_or, Bool.or_true, if_true, if_false]
section
variable {X : Cx} {K : PySem.W.Frag} {H0 : Hp} {d l c : Addr} {t0 : DS} {i : Nat} {a : Expr} {st : Stmt} {we : W DS}
theorem dr_get {t : DS} {H : Hp} (g : DrawAt K d l c t H) {k : Str} {v : V} (e : valV (drKV t l c) (.inr k) = some v) : DGet H d (.str k) (some v) := by
  rw [← e]; exact DGet.k (k := .inr k) g.dct
theorem DrawAt.ne {t : DS} {H : Hp} (g : DrawAt K d l c t H) : l ≠ d ∧ c ≠ d ∧ c ≠ l := by
  obtain ⟨o, hc⟩ := g.cel
  refine ⟨fun z => ?_, fun z => ?_, fun z => ?_⟩
  · have := g.lrg; rw [z, g.dct] at this; cases this
  · rw [z, g.dct] at hc; cases hc
  · rw [z, g.lrg] at hc; cases hc
/-- a slot holds the draw -/
def drIs (d : Addr) (i : Nat) (ρ : Env) : Prop := ρ[i]? = some (.val (.hdl d))
theorem drIs_ref {R : Rg DS} {t : DS} {H : Hp} {σ : L2.St} {ρ : Env} (ok : EnvOk R t H σ ρ) (h : drIs d i ρ) : σ[i]? = some (some (.ref d)) := by
  obtain ⟨v, h1, h2⟩ := ok.val i _ h
  cases h2
  exact h1
def wDrTurn (d : Addr) (i : Nat) : W DS := fun ρ Φ t => drIs d i ρ ∧ Φ (.int t.turn) t
theorem E_drTurn (h : PE X a (tDGet (tVar i) (tC (.str "turn")))) : PE X a (E (drawR K H0 d l c t0) (wDrTurn d i)) := PE_imp h fun σ H Q ⟨ρ, t, Φ, ok, ⟨e, q⟩, k⟩ =>
  ⟨_, drIs_ref ok e, d, _, rfl, dr_get ok.gd (dr_turn t l c), k H t _ _ (.refl ok.gd) (.int _) q⟩
def wDrRest (d : Addr) (i : Nat) : W DS := fun ρ Φ t => drIs d i ρ ∧ Φ (.int t.rest) t
theorem E_drRest (h : PE X a (tDGet (tVar i) (tC (.str "rest")))) : PE X a (E (drawR K H0 d l c t0) (wDrRest d i)) := PE_imp h fun σ H Q ⟨ρ, t, Φ, ok, ⟨e, q⟩, k⟩ =>
  ⟨_, drIs_ref ok e, d, _, rfl, dr_get ok.gd (dr_rest t l c), k H t _ _ (.refl ok.gd) (.int _) q⟩
theorem dens_ints {K : PySem.W.Frag} {H : Hp} : ∀ l : List Int, Dens K H (l.map D.int) (l.map V.int)
  | [] => .nil
  | a :: l => .cons (.int a) (dens_ints l)
def wDrCells (d : Addr) (i : Nat) : W DS := fun ρ Φ t => drIs d i ρ ∧ Φ (.lst (t.cells.map .int)) t
theorem E_drCells (h : PE X a (tDGet (tVar i) (tC (.str "cells")))) : PE X a (E (drawR K H0 d l c t0) (wDrCells d i)) := PE_imp h fun σ H Q ⟨ρ, t, Φ, ok, ⟨e, q⟩, k⟩ =>
  ⟨_, drIs_ref ok e, d, _, rfl, dr_get ok.gd (dr_cells t l c), k H t _ _ (.refl ok.gd) (.lst (show DrawAt K d l c t H from ok.gd).cel (dens_ints _)) q⟩
/-! draw['large'] != [] -/
theorem dp_ints {K : PySem.W.Frag} {H : Hp} : ∀ l : List Int, DpAll K H (l.map V.int) (l.map PyData.int)
  | [] => .nil
  | a :: l => .cons (.int a) (dp_ints l)
theorem shaped_ints (ns : List Int) : SeqAt.shaped (.list (ns.map PyData.int)) = true := by
  have h1 : ∀ l : List Int, PyData.canLayAll0 (l.map PyData.int) = true := fun l => by
    induction l with
    | nil => rfl
    | cons a b ih => rw [List.map_cons, PyData.canLayAll0, ih]; rfl
  have h2 : ∀ l : List Int, PyData.depthAll (l.map PyData.int) = 0 := fun l => by
    induction l with
    | nil => rfl
    | cons a b ih => rw [List.map_cons, PyData.depthAll, ih]; rfl
  simp [SeqAt.shaped, PyData.canLay0, PyData.depth, h1, h2]
theorem eqv_ints_nil (ns : List Int) : PyData.eqv (.list (ns.map PyData.int)) (.list []) = ns.isEmpty := by
  cases ns with
  | nil => simp [PyData.eqv, PyData.eqvAll]
  | cons a b => simp [PyData.eqv, PyData.eqvAll]
def wDrAny (d : Addr) (i : Nat) : WB DS := fun ρ Φ t => drIs d i ρ ∧ Φ (!t.large.isEmpty) t
theorem EB_drAny (h : PT X a (tTest (tOp (rNeD X.K) (tDGet (tVar i) (tC (.str "large"))) (tLst tNil)))) (hK : X.K = K := by rfl) : PT X a (EB (drawR K H0 d l c t0) (wDrAny d i)) := PT_imp h fun σ H Q ⟨ρ, t, Φ, ok, ⟨e, q⟩, k⟩ => by
  refine ⟨_, drIs_ref ok e, d, _, rfl, dr_get ok.gd (dr_large t l c), Nat.zero_le _, fun p n => ?_⟩
  have g : DrawAt K d l c t H := ok.gd
  have gg : (drawR K H0 d l c t0).Go t H t (upd H p (.lst [])) := .new ok.gd n
  have g2 : DrawAt K d l c t (upd H p (.lst [])) := gg.gd
  refine ⟨.list (t.large.map PyData.int), .list [], .lst (.inl (.inl g2.lrg)) (dp_ints _), .lst (.inl (.inl upd_same)) .nil, shaped_ints _, shaped_ints [], ?_⟩
  refine ⟨_, rfl, ?_⟩
  rw [eqv_ints_nil]
  exact k _ t _ gg q
/-! draw['large'].pop(0) -/
theorem DrawAt.go {t t' : DS} {H H' : Hp} (g : DrawAt K d l c t H) (st : ∀ a o, H a = some o → a ≠ d → a ≠ l → H' a = some o) (h1 : H' d = some (.dK (drKV t' l c))) (h2 : H' l = some (.lst (t'.large.map V.int))) (h3 : t'.cells = t.cells) : (drawR K H0 d l c t0).Go t H t' H' := by
  refine ⟨⟨fun a o e nv => st a o e (fun z => nv (.inl z)) (fun z => nv (.inr z)), fun a v z => ?_, fun _ h => .inl h⟩, ⟨h1, h2, ?_⟩⟩
  · rcases v with rfl | rfl
    · rw [h1] at z; cases z
    · rw [h2] at z; cases z
  · obtain ⟨o, hc⟩ := g.cel
    obtain ⟨_, n2, n3⟩ := g.ne
    exact ⟨o, by rw [h3]; exact st c _ hc n2 n3⟩
def wDrPop (d : Addr) (i : Nat) : W DS := fun ρ Φ t => drIs d i ρ ∧ ∃ x r, t.large = x :: r ∧ Φ (.int x) { t with large := r }
theorem E_drPop (h : PE X a (tBM X.K "list" rPopAt (tDGet (tVar i) (tC (.str "large"))) (tCons (tC (.int 0)) tNil))) : PE X a (E (drawR K H0 d l c t0) (wDrPop d i)) := PE_imp h fun σ H Q ⟨ρ, t, Φ, ok, ⟨e, x, r, hx, q⟩, k⟩ => by
  have g : DrawAt K d l c t H := ok.gd
  have hl := g.lrg
  refine ⟨_, drIs_ref ok e, d, _, rfl, dr_get ok.gd (dr_large t l c), .inl ⟨rfl, _, .inl (.inl hl)⟩, ?_⟩
  rw [hx, List.map_cons] at hl
  refine ⟨l, _, 0, 0, .int x, rfl, rfl, hl, by decide, by decide, by simp [seqIndex?], rfl, ?_⟩
  refine k _ { t with large := r } _ _ (g.go (fun a o e _ n => by rw [upd_ne n]; exact e) ?_ (by rw [upd_same]; rfl) rfl) (.int x) q
  rw [upd_ne (Ne.symm g.ne.1)]
  exact g.dct
/-! draw['rest'] = e, draw['turn'] = e -/
def wDrSetR (d : Addr) (i : Nat) (we : W DS) : WS DS := fun ρ Φ t => drIs d i ρ ∧ we ρ (fun v t => ∃ n, v = .int n ∧ Φ.nx ρ { t with rest := n }) t
def wDrSetT (d : Addr) (i : Nat) (we : W DS) : WS DS := fun ρ Φ t => drIs d i ρ ∧ we ρ (fun v t => ∃ n, v = .int n ∧ Φ.nx ρ { t with turn := n }) t
theorem S_drSetR (h : PS X st (sDPut (tVar i) (tC (.str "rest")) (E (drawR K H0 d l c t0) we))) : PS X st (S (drawR K H0 d l c t0) (wDrSetR d i we)) := PS_imp h fun D σ H ⟨ρ, t, Φ, ok, ⟨e, q⟩, f⟩ => by
  refine ⟨ρ, t, _, ok, q, fun H1 t1 v dv g1 hd ⟨n, en, q1⟩ => ?_⟩
  subst en
  cases hd
  have ok1 := ok.go g1
  have g : DrawAt K d l c t1 H1 := ok1.gd
  refine ⟨_, drIs_ref ok1 e, d, _, rfl, DPut.k (k := .inr "rest") g.dct (by rw [sizeLine_eq]; show 4 < 16777216; decide), ?_⟩
  rw [dr_putR]
  have gg : (drawR K H0 d l c t0).Go t1 H1 { t1 with rest := n } (upd H1 d (.dK (drKV { t1 with rest := n } l c))) := g.go (fun a o e n _ => by rw [upd_ne n]; exact e) upd_same (by rw [upd_ne g.ne.1]; exact g.lrg) rfl
  exact f.nx σ _ ρ _ ((g1.trans gg).ext ok.gd) (ok1.go gg) q1
theorem S_drSetT (h : PS X st (sDPut (tVar i) (tC (.str "turn")) (E (drawR K H0 d l c t0) we))) : PS X st (S (drawR K H0 d l c t0) (wDrSetT d i we)) := PS_imp h fun D σ H ⟨ρ, t, Φ, ok, ⟨e, q⟩, f⟩ => by
  refine ⟨ρ, t, _, ok, q, fun H1 t1 v dv g1 hd ⟨n, en, q1⟩ => ?_⟩
  subst en
  cases hd
  have ok1 := ok.go g1
  have g : DrawAt K d l c t1 H1 := ok1.gd
  refine ⟨_, drIs_ref ok1 e, d, _, rfl, DPut.k (k := .inr "turn") g.dct (by rw [sizeLine_eq]; show 4 < 16777216; decide), ?_⟩
  rw [dr_putT]
  have gg : (drawR K H0 d l c t0).Go t1 H1 { t1 with turn := n } (upd H1 d (.dK (drKV { t1 with turn := n } l c))) := g.go (fun a o e n _ => by rw [upd_ne n]; exact e) upd_same (by rw [upd_ne g.ne.1]; exact g.lrg) rfl
  exact f.nx σ _ ρ _ ((g1.trans gg).ext ok.gd) (ok1.go gg) q1
end
/-! promises of defs that draw -/
def spD (K : PySem.W.Frag) (n : Nat) (fs : Addr → FST DS) : Sp := fun vs H Q _ => ∃ d l c t ds Φ, ds.length = n ∧ DrawAt K d l c t H ∧ Dens K H ds vs ∧ fs d ds Φ t ∧ ∀ H' t' v d', (drawR K H d l c t).Go t H t' H' → Den K H' d' v → Φ d' t' → Q v H'
def fsD (n : Nat) (f : FST DS) : FST DS := fun ds Φ t => ds.length = n ∧ f ds Φ t
theorem tk_D {K : PySem.W.Frag} {H0 : Hp} {d l c : Addr} {t0 : DS} {n : Nat} {fs : Addr → FST DS} : Tk (drawR K H0 d l c t0) (spD K n fs) (fsD n (fs d)) := fun t H vs ds Φ Q E gd hD ⟨hn, h⟩ k =>
  ⟨d, l, c, t, ds, Φ, hn, gd, hD, h, fun H' t' v d' g hd q => k H' t' v d' ⟨⟨g.st.st, g.st.up, g.st.dn⟩, g.gd⟩ hd q⟩
section
variable {P : Program} {w : World} {K : PySem.W.Frag} {mg : Str → Option Value} {base : Heap}
theorem ok_D {x qual : Str} {st : Stmt} {f : Addr} {fd : FuncData} {N ps : List Str} {k n : Nat} {fs : Addr → FST DS} {ww : Addr → WS DS} (F : Fun K x qual st f fd) (sc : FnScope N ps (defScope st)) (hn : ps.length = n)
    (hb : ∀ (cdv : Value) (A : Around) (outer : List PySem.Env) (s : Shared) (H : Hp) (E : XK) (d l c : Addr) (t : DS), Room k (A.deeper (PyProof.Rows.envOfC qual (defScope st) s.heap.objs.size f cdv)) →
      PSs (cxOf CX0 P w K mg base N qual (defScope st) f cdv A outer s H E).nox (defBody st) (S (drawR K H d l c t) (ww d)))
    (hv : ∀ d ds Φ t, ds.length = n → fs d ds Φ t → ww d (startE N ds) { nx := fun _ t' => Φ .non t', rt := Φ } t) : FnOk P w K mg base CX0 (k + 1) f fd ps (spD K n fs) := by
  refine F.ok sc (fun vs H Q E h => ?_) (fun cdv A outer s H vs Q E hr h => ?_)
  · obtain ⟨d, l, c, t, ds, Φ, hl, _, hD, _⟩ := h
    rw [← hD.len, hl, hn]
  · obtain ⟨d, l, c, t, ds, Φ, hl, gd, hD, hf, q⟩ := h
    refine ⟨_, hb cdv A outer s H E d l c t hr, startE N ds, t, _, start_ok (R := drawR K H d l c t) (t := t) gd rfl rfl hD, hv d ds Φ t hl hf, ?_⟩
    exact ⟨fun σ' H' ρ' t' _ ok' hq => q H' t' .non .non ⟨ok'.st, ok'.gd⟩ .non hq, fun v H' d' t' st gd hd hq => q H' t' v d' ⟨st, gd⟩ hd hq, fun _ _ _ _ _ _ z => z.elim, fun _ _ _ _ _ _ z => z.elim⟩
end
end J

set_option Elab.async false
set_option linter.all false
set_option maxRecDepth 100000
set_option maxHeartbeats 4000000
/-! J13: what draws give. -/
namespace J
open PySem PySem.Spec L2 RZ
/-- a right state of a draw, with a bound of its turns -/
structure Dr (n : Nat) (t : DS) : Prop where
  r0 : 0 ≤ t.rest
  l0 : ∀ x ∈ t.large, 0 ≤ x
  t0 : 0 ≤ t.turn
  tn : t.turn ≤ n
def fs__law_mixed (dr : Addr) : FST DS := fun ds Φ t => ds = [.hdl dr] ∧ 0 ≤ t.turn ∧ t.turn < 2 ^ 100 ∧ ∀ v : Int, 0 ≤ v → Φ (.int v) { t with turn := t.turn + 1 }
def fs__law_take (dr : Addr) : FST DS := fun ds Φ t => ∃ many : Int, ds = [.hdl dr, .int many] ∧ 0 < many ∧ Sm 1000 many ∧ ∃ n, Dr n t ∧ n < 1000000 ∧ ∀ (r : Int) t', 0 ≤ r → r < many → Dr (n + 1) t' → Φ (.int r) t'
def fs__law_pick (dr : Addr) : FST DS := fun ds Φ t => ∃ d xs, ds = [.hdl dr, d] ∧ d.items = some xs ∧ 0 < xs.length ∧ xs.length ≤ 1000 ∧ ∃ n, Dr n t ∧ n < 1000000 ∧ ∀ x t', x ∈ xs → Dr (n + 1) t' → Φ x t'
def fs__law_row (dr : Addr) : FST DS := fun ds Φ t => ∃ (size : Nat) (many : Nat), ds = [.hdl dr, .int size, .int many] ∧ size ≤ 12 ∧ 1 ≤ many ∧ many ≤ 12 ∧ ∃ n, Dr n t ∧ n < 900000 ∧
  ∀ (r : List Int) t', r.length = many → (∀ x ∈ r, 0 ≤ x) → r.sum = size → Dr (n + 17) t' → Φ (dI r) t'
def fs__law_teller (dr : Addr) : FST DS := fun ds Φ t => ∃ (many most : Nat), ds = [.hdl dr, .int many, .int most] ∧ 1 ≤ many ∧ many ≤ 6 ∧ 1 ≤ most ∧ most ≤ 12 ∧ ∃ n, Dr n t ∧ n < 800000 ∧
  ∀ (size : Nat) (rows : List (List Int)) t', size ≤ 12 → IsTel size rows → rows.length = many → wid rows ≤ most → Dr (n + 105) t' → Φ (dTel size rows) t'
def fs__law_garbler (dr : Addr) : FST DS := fun ds Φ t => ∃ (heard said : Nat), ds = [.hdl dr, .int heard, .int said] ∧ 1 ≤ heard ∧ heard ≤ 12 ∧ 1 ≤ said ∧ said ≤ 12 ∧ ∃ n, Dr n t ∧ n < 800000 ∧
  ∀ (size : Nat) (rows : List (List Int)) t', size ≤ 6 → IsGar size rows → rows.length = heard → Dr (n + 205) t' → Φ (dGar size rows) t'
structure StaOk (many : Nat) (lo hi : Int) (g : List (List Int)) : Prop where
  l1 : 1 ≤ g.length
  len : ∀ r ∈ g, r.length = many
  bd : ∀ r ∈ g, ∀ x ∈ r, lo ≤ x ∧ x ≤ hi
def fs__law_stakes (dr : Addr) : FST DS := fun ds Φ t => ∃ (many : Nat) (low : Int), ds = [.hdl dr, .int many, .int low] ∧ 1 ≤ many ∧ many ≤ 6 ∧ ∃ n, Dr n t ∧ n < 800000 ∧
  ∀ (g : List (List Int)) t', g.length ≤ 4 → StaOk many low (low + 11) g → Dr (n + 25) t' → Φ (dSta g) t'
theorem Dr.mono {a b : Nat} {t : DS} (h : Dr a t) (hab : a ≤ b) : Dr b t := ⟨h.r0, h.l0, h.t0, by have := h.tn; omega⟩
/-- a table of nothing -/
theorem rep_ints (k : Nat) (i : Int) : (List.replicate k [D.int i]).flatten = (List.replicate k i).map D.int := by
  rw [rep_flat, List.map_replicate]
theorem sum_rep0 (k : Nat) : (List.replicate k (0 : Int)).sum = 0 := by
  induction k with
  | zero => rfl
  | succ k ih => rw [List.replicate_succ, List.sum_cons, ih]; rfl
theorem set_sum : ∀ (l : List Int) (j : Nat) (x y : Int), l[j]? = some x → (l.set j y).sum = l.sum - x + y
  | [], _, _, _, h => by simp at h
  | a :: l, 0, x, y, h => by
    simp at h
    rw [List.set_cons_zero, List.sum_cons, List.sum_cons, h]
    omega
  | a :: l, j + 1, x, y, h => by
    rw [List.set_cons_succ, List.sum_cons, List.sum_cons, set_sum l j x y (by simpa using h)]
    omega
theorem row_at {α : Type} {l : List α} {n : Int} {x : α} (h : atI l n = some x) : x ∈ l := by
  unfold atI at h
  cases e : ixN l.length n with
  | none => rw [e] at h; cases h
  | some j => rw [e] at h; exact List.mem_of_getElem? h
theorem ixN_nat {k n : Nat} (h : n < k) : ixN k (n : Int) = some n := by
  unfold ixN
  rw [if_pos (by omega), if_pos (by omega)]
  simp
theorem sm_small {x : Int} (h0 : 0 ≤ x) (h1 : x < 1000000) : Sm 1000 x := by
  unfold Sm
  have : (1000000 : Nat) < 2 ^ 1000 := by decide
  omega
end J

set_option Elab.async false
set_option linter.all false
set_option maxRecDepth 100000
set_option maxHeartbeats 4000000
/-! J14: plain laws of worths. -/
namespace J
open PySem PySem.Spec L2 RZ
/-! sums -/
theorem sum_add {α : Type} (f g : α → Int) : ∀ l : List α, (l.map fun x => f x + g x).sum = (l.map f).sum + (l.map g).sum
  | [] => rfl
  | a :: l => by rw [List.map_cons, List.map_cons, List.map_cons, List.sum_cons, List.sum_cons, List.sum_cons, sum_add f g l]; omega
theorem sum_mulL {α : Type} (k : Int) (f : α → Int) : ∀ l : List α, (l.map fun x => k * f x).sum = k * (l.map f).sum
  | [] => by simp
  | a :: l => by rw [List.map_cons, List.map_cons, List.sum_cons, List.sum_cons, sum_mulL k f l, Int.mul_add]
theorem sum_mulR {α : Type} (k : Int) (f : α → Int) (l : List α) : (l.map fun x => f x * k).sum = (l.map f).sum * k := by
  rw [Int.mul_comm, ← sum_mulL]
  congr 1
  exact List.map_congr_left fun x _ => Int.mul_comm _ _
theorem sum_le {α : Type} {f g : α → Int} : ∀ {l : List α}, (∀ x ∈ l, f x ≤ g x) → (l.map f).sum ≤ (l.map g).sum
  | [], _ => Int.le_refl _
  | a :: l, h => by
    rw [List.map_cons, List.map_cons, List.sum_cons, List.sum_cons]
    have h1 := h a List.mem_cons_self
    have h2 := sum_le (l := l) fun x hx => h x (List.mem_cons_of_mem _ hx)
    omega
theorem sum_congr {α : Type} {f g : α → Int} {l : List α} (h : ∀ x ∈ l, f x = g x) : (l.map f).sum = (l.map g).sum := by
  rw [List.map_congr_left h]
theorem sum_swap {α β : Type} (f : α → β → Int) (m : List β) : ∀ l : List α, (l.map fun x => (m.map fun y => f x y).sum).sum = (m.map fun y => (l.map fun x => f x y).sum).sum
  | [] => by
    simp only [List.map_nil, List.sum_nil]
    induction m with
    | nil => rfl
    | cons a b ih => rw [List.map_cons, List.sum_cons, ← ih]; rfl
  | a :: l => by
    rw [List.map_cons, List.sum_cons, sum_swap f m l, ← sum_add]
    congr 1
theorem sum_const {α : Type} (k : Int) : ∀ l : List α, (l.map fun _ => k).sum = l.length * k
  | [] => by simp
  | a :: l => by rw [List.map_cons, List.sum_cons, sum_const k l, List.length_cons]; grind
theorem range_getD : ∀ (r : List Int), ((List.range r.length).map fun y => r.getD y 0) = r := fun r => by
  apply List.ext_getElem?
  intro i
  rw [List.getElem?_map]
  by_cases h : i < r.length
  · rw [List.getElem?_range h, List.getElem?_eq_getElem h]
    simp [h]
  · rw [List.getElem?_eq_none (by simp; omega), List.getElem?_eq_none (by omega)]
    rfl
theorem sum_getD {r : List Int} {w : Nat} (h : r.length = w) : ((List.range w).map fun y => r.getD y 0).sum = r.sum := by
  rw [← h, range_getD]
/-! dot -/
theorem dot_nil (c : List Int) : dot [] c = 0 := by simp [dot]
theorem dot_nil' (a : List Int) : dot a [] = 0 := by simp [dot]
theorem dot_cons (x y : Int) (a c : List Int) : dot (x :: a) (y :: c) = x * y + dot a c := by simp [dot]
theorem dot_mulR (k : Int) : ∀ a c : List Int, dot a (c.map (k * ·)) = k * dot a c
  | [], c => by rw [dot_nil, dot_nil]; simp
  | _ :: _, [] => by rw [List.map_nil, dot_nil']; simp
  | x :: a, y :: c => by rw [List.map_cons, dot_cons, dot_cons, dot_mulR k a c]; grind
theorem dot_const (d : Int) : ∀ a c : List Int, a.length = c.length → (∀ x ∈ c, x = d) → dot a c = a.sum * d
  | [], c, _, _ => by rw [dot_nil]; simp
  | _ :: _, [], h, _ => by simp at h
  | x :: a, y :: c, h, hd => by
    rw [dot_cons, List.sum_cons, dot_const d a c (by simpa using h) fun z hz => hd z (List.mem_cons_of_mem _ hz), hd y List.mem_cons_self]
    grind
theorem dot_sum {α : Type} (l : List α) (f : List Int → α → Int) : ∀ (a : List Int) (rows : List (List Int)), dot a (rows.map fun r => (l.map fun y => f r y).sum) = (l.map fun y => dot a (rows.map fun r => f r y)).sum
  | [], rows => by
    rw [dot_nil, sum_congr (g := fun _ => 0) fun x _ => dot_nil _, sum_const]; simp
  | x :: a, [] => by
    rw [List.map_nil, dot_nil', sum_congr (g := fun _ => 0) fun x _ => by rw [List.map_nil]; exact dot_nil' _, sum_const]; simp
  | x :: a, r :: rows => by
    rw [List.map_cons, dot_cons, dot_sum l f a rows, ← sum_mulL, ← sum_add]
    exact sum_congr fun y _ => by rw [List.map_cons, dot_cons]
theorem dot_mulC (k : Int) (a : List Int) (rows : List (List Int)) (f : List Int → Int) : dot a (rows.map fun r => f r * k) = dot a (rows.map f) * k := by
  have := dot_mulR k a (rows.map f)
  rw [List.map_map] at this
  rw [Int.mul_comm (dot a (rows.map f)) k, ← this]
  congr 1
  exact List.map_congr_left fun r _ => Int.mul_comm _ _
/-! greatest -/
theorem le_maxL {l : List Int} {x : Int} (h : x ∈ l) : x ≤ maxL l := (maxL_mem (List.length_pos_of_mem h)).2 x h
theorem maxL_le {l : List Int} {b : Int} (h : l ≠ []) (hb : ∀ x ∈ l, x ≤ b) : maxL l ≤ b := hb _ (maxL_mem (List.length_pos_iff.mpr h)).1
theorem maxL_ex {l : List Int} (h : l ≠ []) : maxL l ∈ l := (maxL_mem (List.length_pos_iff.mpr h)).1
theorem maxL_same {l m : List Int} (hl : l ≠ []) (h : ∀ x, x ∈ l ↔ x ∈ m) : maxL l = maxL m := by
  have hm : m ≠ [] := fun e => by
    subst e
    exact absurd ((h _).mp (maxL_ex hl)) (by simp)
  exact Int.le_antisymm (maxL_le hl fun x hx => le_maxL ((h x).mp hx)) (maxL_le hm fun x hx => le_maxL ((h x).mpr hx))
theorem maxL_mul {l : List Int} {k : Int} (hk : 0 ≤ k) : maxL (l.map (k * ·)) = k * maxL l := by
  by_cases h : l = []
  · subst h; simp [maxL]
  have h' : l.map (k * ·) ≠ [] := by simpa using h
  refine Int.le_antisymm (maxL_le h' fun x hx => ?_) ?_
  · obtain ⟨y, hy, rfl⟩ := List.mem_map.mp hx
    exact Int.mul_le_mul_of_nonneg_left (le_maxL hy) hk
  · exact le_maxL (List.mem_map.mpr ⟨_, maxL_ex h, rfl⟩)
/-! worths over columns -/
def Wc (cs g : List (List Int)) : Int := (cs.map fun c => maxL (sumsAt g c)).sum
theorem worthN_eq (rows g : List (List Int)) : worthN rows g = Wc (cols rows) g := rfl
theorem sumsAt_ne {g : List (List Int)} {c : List Int} (h : 1 ≤ g.length) : sumsAt g c ≠ [] := by
  intro e
  have := congrArg List.length e
  rw [sumsAt, List.length_map] at this
  simp at this
  rw [this] at h
  simp at h
theorem mem_sumsAt {g : List (List Int)} {c : List Int} {x : Int} : x ∈ sumsAt g c ↔ ∃ a ∈ g, dot a c = x := by
  rw [sumsAt, List.mem_map]
theorem sumsAt_mul (g : List (List Int)) (c : List Int) (k : Int) : sumsAt g (c.map (k * ·)) = (sumsAt g c).map (k * ·) := by
  rw [sumsAt, sumsAt, List.map_map]
  exact List.map_congr_left fun a _ => dot_mulR k a c
theorem Wc_either {cs g h : List (List Int)} (hg : 1 ≤ g.length) : Wc cs g ≤ Wc cs (g ++ h) := sum_le fun c _ => maxL_le (sumsAt_ne hg) fun x hx => by
  obtain ⟨a, ha, rfl⟩ := mem_sumsAt.mp hx
  exact le_maxL (mem_sumsAt.mpr ⟨a, List.mem_append_left _ ha, rfl⟩)
theorem Wc_either' {cs g h : List (List Int)} (hh : 1 ≤ h.length) : Wc cs h ≤ Wc cs (g ++ h) := sum_le fun c _ => maxL_le (sumsAt_ne hh) fun x hx => by
  obtain ⟨a, ha, rfl⟩ := mem_sumsAt.mp hx
  exact le_maxL (mem_sumsAt.mpr ⟨a, List.mem_append_right _ ha, rfl⟩)
theorem Wc_twice {cs g : List (List Int)} {k : Nat} (hg : 1 ≤ g.length) : Wc cs (g ++ g.take k) = Wc cs g := by
  unfold Wc
  refine sum_congr fun c _ => (maxL_same (sumsAt_ne hg) fun x => ?_).symm
  rw [mem_sumsAt, mem_sumsAt]
  constructor
  · rintro ⟨a, ha, h⟩
    exact ⟨a, List.mem_append_left _ ha, h⟩
  · rintro ⟨a, ha, h⟩
    rcases List.mem_append.mp ha with ha | ha
    · exact ⟨a, ha, h⟩
    · exact ⟨a, List.mem_of_mem_take ha, h⟩
theorem dot_addL : ∀ (a b c : List Int), a.length = b.length → dot ((a.zip b).map fun p => p.1 + p.2) c = dot a c + dot b c
  | [], b, c, h => by
    have : b = [] := List.eq_nil_of_length_eq_zero (by simpa using h.symm)
    subst this
    simp [dot]
  | x :: a, [], c, h => by simp at h
  | x :: a, y :: b, [], h => by rw [dot_nil', dot_nil', dot_nil']; rfl
  | x :: a, y :: b, z :: c, h => by
    rw [List.zip_cons_cons, List.map_cons, dot_cons, dot_cons, dot_cons, dot_addL a b c (by simpa using h)]
    grind
theorem mem_sumG {g h : List (List Int)} {x : List Int} : x ∈ sumG g h ↔ ∃ a ∈ g, ∃ b ∈ h, x = (a.zip b).map fun p => p.1 + p.2 := by
  unfold sumG
  rw [List.mem_flatMap]
  constructor
  · rintro ⟨a, ha, hx⟩
    obtain ⟨b, hb, rfl⟩ := List.mem_map.mp hx
    exact ⟨a, ha, b, hb, rfl⟩
  · rintro ⟨a, ha, b, hb, rfl⟩
    exact ⟨a, ha, List.mem_map.mpr ⟨b, hb, rfl⟩⟩
theorem Wc_sum {cs g h : List (List Int)} {n : Nat} (hg : 1 ≤ g.length) (hh : 1 ≤ h.length) (lg : ∀ a ∈ g, a.length = n) (lh : ∀ a ∈ h, a.length = n) : Wc cs (sumG g h) = Wc cs g + Wc cs h := by
  unfold Wc
  rw [← sum_add]
  refine sum_congr fun c _ => ?_
  obtain ⟨a0, ha0, e0⟩ := mem_sumsAt.mp (maxL_ex (sumsAt_ne (c := c) hg))
  obtain ⟨b0, hb0, f0⟩ := mem_sumsAt.mp (maxL_ex (sumsAt_ne (c := c) hh))
  have hm : (a0.zip b0).map (fun p => p.1 + p.2) ∈ sumG g h := mem_sumG.mpr ⟨a0, ha0, b0, hb0, rfl⟩
  refine Int.le_antisymm (maxL_le (fun e => ?_) fun x hx => ?_) ?_
  · have : dot ((a0.zip b0).map fun p => p.1 + p.2) c ∈ sumsAt (sumG g h) c := mem_sumsAt.mpr ⟨_, hm, rfl⟩
    rw [e] at this
    simp at this
  · obtain ⟨x', hx', rfl⟩ := mem_sumsAt.mp hx
    obtain ⟨a, ha, b, hb, rfl⟩ := mem_sumG.mp hx'
    rw [dot_addL a b c (by rw [lg a ha, lh b hb])]
    have h1 := le_maxL (mem_sumsAt.mpr ⟨a, ha, rfl⟩ : dot a c ∈ sumsAt g c)
    have h2 := le_maxL (mem_sumsAt.mpr ⟨b, hb, rfl⟩ : dot b c ∈ sumsAt h c)
    omega
  · rw [← e0, ← f0, ← dot_addL a0 b0 c (by rw [lg a0 ha0, lh b0 hb0])]
    exact le_maxL (mem_sumsAt.mpr ⟨_, hm, rfl⟩)
/-- hearing never costs -/
theorem W_hear {rows g : List (List Int)} {d : Int} {a b : Nat} (h : RowsOk rows d a b) (hg : 1 ≤ g.length) (lg : ∀ a ∈ g, a.length = rows.length) : maxL (g.map List.sum) * d ≤ worthN rows g := by
  have hne : g.map List.sum ≠ [] := fun e => by
    have := congrArg List.length e
    rw [List.length_map] at this
    simp at this
    rw [this] at hg
    simp at hg
  obtain ⟨v, hv, e⟩ := List.mem_map.mp (maxL_ex hne)
  rw [← e]
  have e1 : ((List.range (wid rows)).map fun y => dot v (rows.map fun r => r.getD y 0)).sum = v.sum * d := by
    rw [← dot_sum (List.range (wid rows)) (fun r y => r.getD y 0) v rows]
    refine dot_const d v _ (by rw [List.length_map, lg v hv]) fun x hx => ?_
    obtain ⟨r, hr, rfl⟩ := List.mem_map.mp hx
    rw [sum_getD (h.len r hr), h.sum r hr]
  rw [← e1, worthN, cols, List.map_map]
  exact sum_le fun y _ => le_maxL (mem_sumsAt.mpr ⟨v, hv, rfl⟩)
/-! a number moved -/
def mvd (s : Nat) (by' : Int) (a : List Int) : List Int := a.take s ++ (a.getD s 0 + by') :: a.drop (s + 1)
theorem dot_mvd : ∀ (s : Nat) (by' : Int) (a c : List Int), s < a.length → a.length = c.length → dot (mvd s by' a) c = dot a c + by' * c.getD s 0
  | s, _, [], c, h, _ => by simp at h
  | s, _, x :: a, [], _, h => by simp at h
  | 0, by', x :: a, y :: c, _, _ => by
    simp only [mvd, List.take_zero, List.nil_append, List.getD_cons_zero, List.drop_succ_cons, List.drop_zero, Nat.zero_add]
    rw [dot_cons, dot_cons]
    grind
  | s + 1, by', x :: a, y :: c, h, h' => by
    have ih := dot_mvd s by' a c (by simpa using h) (by simpa using h')
    have e : mvd (s + 1) by' (x :: a) = x :: mvd s by' a := by simp [mvd]
    rw [e, dot_cons, dot_cons, ih, List.getD_cons_succ]
    omega
theorem W_moved {rows g : List (List Int)} {d by' : Int} {a b s : Nat} (h : RowsOk rows d a b) (hg : 1 ≤ g.length) (lg : ∀ a ∈ g, a.length = rows.length) (hs : s < rows.length) : worthN rows (g.map (mvd s by')) = worthN rows g + by' * d := by
  have hr : (rows.getD s []).sum = d ∧ (rows.getD s []).length = wid rows := by
    rw [List.getD_eq_getElem?_getD, List.getElem?_eq_getElem hs]
    exact ⟨h.sum _ (List.getElem_mem hs), h.len _ (List.getElem_mem hs)⟩
  have e1 : ((List.range (wid rows)).map fun y => by' * (rows.map fun r => r.getD y 0).getD s 0).sum = by' * d := by
    rw [sum_mulL]
    congr 1
    rw [← hr.1, ← sum_getD hr.2]
    refine sum_congr fun y _ => ?_
    simp [List.getD_eq_getElem?_getD, hs]
  rw [← e1, worthN, worthN, cols, List.map_map, List.map_map, ← sum_add]
  refine sum_congr fun y _ => ?_
  simp only [Function.comp]
  have hc : (rows.map fun r => r.getD y 0).length = rows.length := by rw [List.length_map]
  have e2 : sumsAt (g.map (mvd s by')) (rows.map fun r => r.getD y 0) = (sumsAt g (rows.map fun r => r.getD y 0)).map (· + by' * (rows.map fun r => r.getD y 0).getD s 0) := by
    rw [sumsAt, sumsAt, List.map_map, List.map_map]
    refine List.map_congr_left fun v hv => ?_
    exact dot_mvd s by' v _ (by rw [lg v hv]; exact hs) (by rw [hc, lg v hv])
  rw [e2]
  have hne := sumsAt_ne (c := rows.map fun r => r.getD y 0) hg
  refine Int.le_antisymm (maxL_le (by simpa using hne) fun x hx => ?_) (le_maxL (List.mem_map.mpr ⟨_, maxL_ex hne, rfl⟩))
  obtain ⟨z, hz, rfl⟩ := List.mem_map.mp hx
  have := le_maxL hz
  omega
/-! ratios -/
theorem ratN_spec (a : Int) {b : Int} (hb : 0 < b) : (ratN a b).1 * b = a * (ratN a b).2 ∧ 0 < (ratN a b).2 ∧ (ratN a b).2 ≤ b := by
  have g0 := gcdI_pos (a := a) hb
  have h1 : gcdI a b ∣ a := Int.gcd_dvd_left a b
  have h2 : gcdI a b ∣ b := Int.gcd_dvd_right a b
  obtain ⟨x, hx⟩ := h1
  obtain ⟨y, hy⟩ := h2
  have e1 : a / gcdI a b = x := by
    conv => lhs; lhs; rw [hx]
    exact Int.mul_ediv_cancel_left x (by omega)
  have e2 : b / gcdI a b = y := by
    conv => lhs; lhs; rw [hy]
    exact Int.mul_ediv_cancel_left y (by omega)
  show a / gcdI a b * b = a * (b / gcdI a b) ∧ 0 < b / gcdI a b ∧ b / gcdI a b ≤ b
  rw [e1, e2]
  refine ⟨?_, ?_, ?_⟩
  · generalize gcdI a b = g at *
    subst hx hy
    grind
  · generalize gcdI a b = g at *
    subst hy
    exact Int.pos_of_mul_pos_right hb g0
  · rw [← e2]; exact Int.ediv_le_self _ (by omega)
theorem ratN_eq {a b a' b' : Int} (hb : 0 < b) (hb' : 0 < b') (h : a * b' = a' * b) : ratN a b = ratN a' b' := by
  -- both are lowest terms
  have low : ∀ (a b : Int), 0 < b → ∀ k, 0 < k → ratN (a * k) (b * k) = ratN a b := by
    intro a b hb k hk
    have eg : gcdI (a * k) (b * k) = gcdI a b * k := by
      unfold gcdI
      rw [Int.gcd_mul_right]
      have : ((k.natAbs : Nat) : Int) = k := Int.natAbs_of_nonneg (by omega)
      rw [Int.natCast_mul, this]
    unfold ratN
    rw [eg, Int.mul_ediv_mul_of_pos_left _ _ hk, Int.mul_ediv_mul_of_pos_left _ _ hk]
  rw [← low a b hb b' hb', h, Int.mul_comm b b', low a' b' hb' b hb]
theorem ratN_nlt {a b a' b' : Int} (hb : 0 < b) (hb' : 0 < b') (h : a' * b ≤ a * b') : ¬ ((ratN a b).1 * (ratN a' b').2 < (ratN a' b').1 * (ratN a b).2) := by
  obtain ⟨e1, p1, _⟩ := ratN_spec a hb
  obtain ⟨e2, p2, _⟩ := ratN_spec a' hb'
  generalize (ratN a b).1 = x at *
  generalize (ratN a b).2 = y at *
  generalize (ratN a' b').1 = x' at *
  generalize (ratN a' b').2 = y' at *
  -- x b = a y, x' b' = a' y'; want x' y ≤ x y'
  intro hlt
  have q1 : (x * y') * (b * b') < (x' * y) * (b * b') := Int.mul_lt_mul_of_pos_right hlt (Int.mul_pos hb hb')
  have q2 : (x * y') * (b * b') = (a * b') * (y * y') := by grind
  have q3 : (x' * y) * (b * b') = (a' * b) * (y * y') := by grind
  have q4 : (a' * b) * (y * y') ≤ (a * b') * (y * y') := Int.mul_le_mul_of_nonneg_right h (Int.le_of_lt (Int.mul_pos p1 p2))
  omega
theorem ratN_one (a : Int) : ratN a 1 = (a, 1) := by
  unfold ratN gcdI
  simp
/-- the sum of two ratios over one divisor -/
theorem ratN_sum {a b d : Int} (hd : 0 < d) : ratN ((ratN a d).1 * (ratN b d).2 + (ratN b d).1 * (ratN a d).2) ((ratN a d).2 * (ratN b d).2) = ratN (a + b) d := by
  obtain ⟨e1, p1, _⟩ := ratN_spec a hd
  obtain ⟨e2, p2, _⟩ := ratN_spec b hd
  refine ratN_eq (Int.mul_pos p1 p2) hd ?_
  generalize (ratN a d).1 = x at *
  generalize (ratN a d).2 = y at *
  generalize (ratN b d).1 = x' at *
  generalize (ratN b d).2 = y' at *
  grind
theorem ratN_sum1 {a d k : Int} (hd : 0 < d) : ratN ((ratN a d).1 * 1 + k * (ratN a d).2) ((ratN a d).2 * 1) = ratN (a + k * d) d := by
  obtain ⟨e1, p1, _⟩ := ratN_spec a hd
  refine ratN_eq (by omega) hd ?_
  generalize (ratN a d).1 = x at *
  generalize (ratN a d).2 = y at *
  grind
/-! lowered rows -/
theorem map_div {g : Int} (hg : 0 < g) {l : List Int} (h : ∀ x ∈ l, g ∣ x) : (l.map (· / g)).map (g * ·) = l := by
  rw [List.map_map]
  conv => rhs; rw [← List.map_id l]
  refine List.map_congr_left fun x hx => ?_
  show g * (x / g) = x
  exact Int.mul_ediv_cancel' (h x hx)
theorem wid_low (g : Int) (rows : List (List Int)) : wid (lowR g rows) = wid rows := by
  cases rows with
  | nil => rfl
  | cons a b => simp [wid, lowR]
theorem cols_low {g : Int} {rows : List (List Int)} : cols (lowR g rows) = (cols rows).map fun c => c.map (· / g) := by
  unfold cols
  rw [wid_low, List.map_map]
  refine List.map_congr_left fun y _ => ?_
  simp only [Function.comp, lowR, List.map_map]
  refine List.map_congr_left fun r _ => ?_
  simp only [Function.comp, List.getD_eq_getElem?_getD, List.getElem?_map]
  cases r[y]? with
  | none => simp
  | some x => rfl
theorem sum_div {g : Int} (hg : 0 < g) {l : List Int} (h : ∀ x ∈ l, g ∣ x) : g * (l.map (· / g)).sum = l.sum := by
  rw [← sum_mulL]
  congr 1
  have := map_div hg h
  rw [List.map_map] at this
  exact this
theorem W_low {g : Int} {rows s : List (List Int)} (hg : 0 < g) (hl : ∀ r ∈ rows, r.length = wid rows) (h : ∀ r ∈ rows, ∀ x ∈ r, g ∣ x) : g * worthN (lowR g rows) s = worthN rows s := by
  rw [worthN, worthN, cols_low, List.map_map, ← sum_mulL]
  refine sum_congr fun c hc => ?_
  simp only [Function.comp]
  rw [← maxL_mul (Int.le_of_lt hg), ← sumsAt_mul, map_div hg fun x hx => ?_]
  obtain ⟨r, hr, hxr⟩ := cols_mem hl hc hx
  exact h r hr x hxr
theorem rows_low {g d : Int} {rows : List (List Int)} {a b : Nat} (hg : 0 < g) (h : RowsOk rows d a b) (hd : ∀ r ∈ rows, ∀ x ∈ r, g ∣ x) : RowsOk (lowR g rows) (d / g) a b := by
  refine ⟨by rw [lowR, List.length_map]; exact h.l1, by rw [lowR, List.length_map]; exact h.l2, by rw [wid_low]; exact h.w1, by rw [wid_low]; exact h.w2, fun r hr => ?_, fun r hr x hx => ?_, fun r hr => ?_⟩
  · obtain ⟨r', hr', rfl⟩ := List.mem_map.mp hr
    rw [wid_low, List.length_map]; exact h.len r' hr'
  · obtain ⟨r', hr', rfl⟩ := List.mem_map.mp hr
    obtain ⟨x', hx', rfl⟩ := List.mem_map.mp hx
    exact Int.ediv_nonneg (h.nn r' hr' x' hx') (by omega)
  · obtain ⟨r', hr', rfl⟩ := List.mem_map.mp hr
    rw [← h.sum r' hr', ← sum_div hg (hd r' hr')]
    rw [Int.mul_ediv_cancel_left _ (by omega)]
/-- a teller by its lowered rows -/
theorem tel_low {d : Int} {rows : List (List Int)} (d1 : 1 ≤ d) (h : RowsOk rows d 6 12) (hd : d / gcdL (d :: rows.flatten) ≤ 10 ^ 30) : IsTel (d / gcdL (d :: rows.flatten)) (lowR (gcdL (d :: rows.flatten)) rows) := by
  obtain ⟨g0, g1⟩ := gcdL_pos (l := rows.flatten) (show 0 < d by omega)
  refine ⟨Int.le_ediv_of_mul_le g0 (by omega), hd, rows_low g0 h fun r hr x hx => gcdL_dvd (List.mem_cons_of_mem _ (List.mem_flatten.mpr ⟨r, hr, hx⟩))⟩
theorem low_rat {d : Int} {rows s : List (List Int)} {a b : Nat} (d1 : 1 ≤ d) (h : RowsOk rows d a b) : ratN (worthN (lowR (gcdL (d :: rows.flatten)) rows) s) (d / gcdL (d :: rows.flatten)) = ratN (worthN rows s) d := by
  obtain ⟨g0, g1⟩ := gcdL_pos (l := rows.flatten) (show 0 < d by omega)
  have hW := W_low (s := s) g0 h.len fun r hr x hx => gcdL_dvd (List.mem_cons_of_mem _ (List.mem_flatten.mpr ⟨r, hr, hx⟩))
  have hD : gcdL (d :: rows.flatten) * (d / gcdL (d :: rows.flatten)) = d := Int.mul_ediv_cancel' (gcdL_dvd List.mem_cons_self)
  have hp : 0 < d / gcdL (d :: rows.flatten) := Int.le_ediv_of_mul_le g0 (by omega)
  refine ratN_eq hp (by omega) ?_
  generalize gcdL (d :: rows.flatten) = g at *
  generalize hW' : worthN (lowR g rows) s = W' at *
  rw [← hW]
  generalize d / g = e at *
  subst hD
  grind
/-! garbled rows -/
theorem wid_prod {rows m : List (List Int)} (h : 1 ≤ rows.length) : wid (prodR rows m) = wid m := by
  cases rows with
  | nil => simp at h
  | cons a b => simp [wid, prodR]
theorem prodAt_eq {r : List Int} {w : Nat} (h : r.length = w) (m : List (List Int)) (z : Nat) : prodAt r m z = ((List.range w).map fun y => r.getD y 0 * (m.getD y []).getD z 0).sum := by
  rw [← h]; rfl
theorem getD_row {m : List (List Int)} {y : Nat} (h : y < m.length) : m.getD y [] ∈ m := by
  rw [List.getD_eq_getElem?_getD, List.getElem?_eq_getElem h]
  exact List.getElem_mem _
theorem rows_prod {rows m : List (List Int)} {d e : Int} {a b a' b' : Nat} (h : RowsOk rows d a b) (hm : RowsOk m e a' b') (hl : m.length = wid rows) : RowsOk (prodR rows m) (d * e) a b' := by
  refine ⟨by rw [prodR, List.length_map]; exact h.l1, by rw [prodR, List.length_map]; exact h.l2, by rw [wid_prod h.l1]; exact hm.w1, by rw [wid_prod h.l1]; exact hm.w2, fun r hr => ?_, fun r hr x hx => ?_, fun r hr => ?_⟩
  · obtain ⟨r', hr', rfl⟩ := List.mem_map.mp hr
    rw [wid_prod h.l1, List.length_map, List.length_range]
  · obtain ⟨r', hr', rfl⟩ := List.mem_map.mp hr
    obtain ⟨z, _, rfl⟩ := List.mem_map.mp hx
    exact prodAt_nn (h.nn r' hr') hm.nn z
  · obtain ⟨r', hr', rfl⟩ := List.mem_map.mp hr
    rw [sum_congr (g := fun z => ((List.range (wid rows)).map fun y => r'.getD y 0 * (m.getD y []).getD z 0).sum) fun z _ => prodAt_eq (h.len r' hr') m z]
    rw [sum_swap]
    rw [sum_congr (g := fun y => r'.getD y 0 * e) fun y hy => ?_]
    · rw [sum_mulR, sum_getD (h.len r' hr'), h.sum r' hr']
    · have hy := List.mem_range.mp hy
      have hmem := getD_row (m := m) (y := y) (by omega)
      rw [sum_mulL, sum_getD (hm.len _ hmem), hm.sum _ hmem]
theorem W_garbled {rows m s : List (List Int)} {d e : Int} {a b a' b' : Nat} (h : RowsOk rows d a b) (hm : RowsOk m e a' b') (hl : m.length = wid rows) (hs : 1 ≤ s.length) : worthN (prodR rows m) s ≤ worthN rows s * e := by
  have e1 : worthN rows s * e = ((List.range (wid m)).map fun z => ((List.range (wid rows)).map fun y => maxL (sumsAt s (rows.map fun r => r.getD y 0)) * (m.getD y []).getD z 0).sum).sum := by
    rw [sum_swap, worthN, cols, List.map_map, ← sum_mulR]
    refine sum_congr fun y hy => ?_
    have hy := List.mem_range.mp hy
    have hmem := getD_row (m := m) (y := y) (by omega)
    rw [sum_mulL, sum_getD (hm.len _ hmem), hm.sum _ hmem]
    rfl
  rw [e1, worthN, cols, wid_prod h.l1, List.map_map]
  refine sum_le fun z hz => ?_
  have hz := List.mem_range.mp hz
  simp only [Function.comp]
  have e2 : ((prodR rows m).map fun r => r.getD z 0) = rows.map fun r => ((List.range (wid rows)).map fun y => r.getD y 0 * (m.getD y []).getD z 0).sum := by
    rw [prodR, List.map_map]
    refine List.map_congr_left fun r hr => ?_
    simp only [Function.comp]
    rw [← prodAt_eq (h.len r hr)]
    simp [List.getD_eq_getElem?_getD, hz]
  rw [e2]
  refine maxL_le (sumsAt_ne hs) fun x hx => ?_
  obtain ⟨v, hv, rfl⟩ := mem_sumsAt.mp hx
  rw [dot_sum]
  refine sum_le fun y hy => ?_
  have hy := List.mem_range.mp hy
  have hmem := getD_row (m := m) (y := y) (by omega)
  rw [dot_mulC]
  exact Int.mul_le_mul_of_nonneg_right (le_maxL (mem_sumsAt.mpr ⟨v, hv, rfl⟩)) (getD_nn (hm.nn _ hmem) z)
end J

set_option Elab.async false
set_option linter.all false
set_option maxRecDepth 100000
set_option maxHeartbeats 4000000
/-! J15: plain forms keep worths. -/
namespace J
open PySem PySem.Spec L2 RZ
/-- goes along with lengths -/
def Hom (F : List Int → Int) : Prop := ∀ (w : List Int) (μ : Int), 0 ≤ μ → F (w.map (μ * ·)) = μ * F w
theorem hom_max (g : List (List Int)) : Hom fun c => maxL (sumsAt g c) := fun w μ h => by
  show maxL (sumsAt g (w.map (μ * ·))) = _
  rw [sumsAt_mul, maxL_mul h]
theorem hom_at (x : Nat) : Hom fun c => c.getD x 0 := fun w μ _ => by
  simp only [List.getD_eq_getElem?_getD, List.getElem?_map]
  cases w[x]? with
  | none => simp
  | some v => rfl
structure WayS (kvs : KN) : Prop where
  nd : (kvs.map (·.1)).Nodup
  mul : ∀ kv ∈ kvs, ∃ μ : Int, 0 ≤ μ ∧ kv.2 = kv.1.map (μ * ·)
  kn : ∀ kv ∈ kvs, ∀ x ∈ kv.1, 0 ≤ x
theorem lookN_of {kvs : KN} (nd : (kvs.map (·.1)).Nodup) {kv : List Int × List Int} (h : kv ∈ kvs) : lookN kvs kv.1 = some kv.2 := by
  induction kvs with
  | nil => simp at h
  | cons a r ih =>
    rw [List.map_cons, List.nodup_cons] at nd
    unfold lookN
    rw [List.find?_cons]
    rcases List.mem_cons.mp h with rfl | h
    · simp
    · have : a.1 ≠ kv.1 := fun e => nd.1 (by rw [e]; exact List.mem_map_of_mem h)
      simp only [this, decide_false]
      exact ih nd.2 h
theorem any_key {kvs : KN} {k : List Int} : (kvs.any fun kv => decide (kv.1 = k)) = true ↔ k ∈ kvs.map (·.1) := by
  rw [List.any_eq_true]
  constructor
  · rintro ⟨kv, h1, h2⟩
    have : kv.1 = k := by simpa using h2
    rw [← this]; exact List.mem_map_of_mem h1
  · intro h
    obtain ⟨kv, h1, h2⟩ := List.mem_map.mp h
    exact ⟨kv, h1, by simpa using h2⟩
def sumF (F : List Int → Int) (kvs : KN) : Int := (kvs.map fun kv => F kv.2).sum
theorem lookN_none {kvs : KN} {k : List Int} (h : k ∉ kvs.map (·.1)) : lookN kvs k = none := by
  cases e : lookN kvs k with
  | none => rfl
  | some v => exact absurd (List.mem_map_of_mem (lookN_mem e)) h
theorem sum_put {F : List Int → Int} {k v v0 : List Int} : ∀ {kvs : KN}, (kvs.map (·.1)).Nodup → (k, v0) ∈ kvs → ((kvs.map fun kv => if kv.1 = k then (kv.1, v) else kv).map fun kv => F kv.2).sum = (kvs.map fun kv => F kv.2).sum - F v0 + F v
  | [], _, h => by simp at h
  | a :: r, nd, h => by
    rw [List.map_cons, List.nodup_cons] at nd
    rw [List.map_cons, List.map_cons, List.map_cons, List.sum_cons, List.sum_cons]
    by_cases e : a.1 = k
    · have hr : ∀ kv ∈ r, kv.1 ≠ k := fun kv hk z => nd.1 (by rw [e, ← z]; exact List.mem_map_of_mem hk)
      have e1 : r.map (fun kv => if kv.1 = k then (kv.1, v) else kv) = r := by
        conv => rhs; rw [← List.map_id r]
        exact List.map_congr_left fun kv hk => by rw [if_neg (hr kv hk)]; rfl
      have ea : a = (k, v0) := by
        rcases List.mem_cons.mp h with h | h
        · exact h.symm
        · exact absurd rfl (hr _ h)
      rw [if_pos e, e1, ea]
      simp only []
      omega
    · have hr : (k, v0) ∈ r := by
        rcases List.mem_cons.mp h with h | h
        · exact absurd (by rw [← h]) e
        · exact h
      rw [if_neg e, sum_put nd.2 hr]
      omega
theorem map_mul_add (w : List Int) (μ γ : Int) : addV (w.map (μ * ·)) (w.map (γ * ·)) = w.map ((μ + γ) * ·) := by
  unfold addV
  induction w with
  | nil => rfl
  | cons a b ih =>
    rw [List.map_cons, List.map_cons, List.zip_cons_cons, List.map_cons, ih, List.map_cons]
    congr 1
    grind
theorem dir_mul {c : List Int} (h : 0 < gcdL c) : (dirL c).map (gcdL c * ·) = c := map_div h fun x hx => gcdL_dvd hx
theorem zero_mul {n : Nat} {w : List Int} (h : w.length = n) : List.replicate n 0 = w.map ((0 : Int) * ·) := by
  subst h
  induction w with
  | nil => rfl
  | cons a b ih => rw [List.length_cons, List.replicate_succ, ih, List.map_cons, Int.zero_mul]
theorem addWay_ok {n : Nat} {kvs : KN} {c : List Int} (ok : WayS kvs) (hl : c.length = n) (hn : ∀ x ∈ c, 0 ≤ x) : WayS (addWay n kvs c) ∧ ∀ F, Hom F → sumF F (addWay n kvs c) = sumF F kvs + F c := by
  unfold addWay
  by_cases hg : 0 < gcdL c
  · rw [if_pos hg]
    have hd : (dirL c).length = n := by rw [dirL, List.length_map, hl]
    have hc := dir_mul hg
    have hdn : ∀ x ∈ dirL c, 0 ≤ x := fun x hx => by
      obtain ⟨y, hy, rfl⟩ := List.mem_map.mp hx
      exact Int.ediv_nonneg (hn y hy) (by omega)
    -- the value known so far
    obtain ⟨μ, hμ, hv⟩ : ∃ μ : Int, 0 ≤ μ ∧ (lookN kvs (dirL c)).getD (List.replicate n 0) = (dirL c).map (μ * ·) := by
      cases e : lookN kvs (dirL c) with
      | none => exact ⟨0, Int.le_refl 0, zero_mul hd⟩
      | some v => exact ok.mul _ (lookN_mem e)
    have hnew : addV ((lookN kvs (dirL c)).getD (List.replicate n 0)) c = (dirL c).map ((μ + gcdL c) * ·) := by
      rw [hv]
      conv => lhs; arg 2; rw [← hc]
      exact map_mul_add ..
    rw [hnew]
    have hF : ∀ F, Hom F → F ((dirL c).map ((μ + gcdL c) * ·)) = F ((dirL c).map (μ * ·)) + F c := fun F h => by
      rw [h _ _ (by omega), h _ _ hμ]
      conv => rhs; arg 2; rw [← hc]
      rw [h _ _ (by omega), Int.add_mul]
    by_cases hk : dirL c ∈ kvs.map (·.1)
    · obtain ⟨kv, hkv, ek⟩ := List.mem_map.mp hk
      have hl0 : lookN kvs (dirL c) = some kv.2 := by rw [← ek]; exact lookN_of ok.nd hkv
      rw [hl0] at hv
      have hv : kv.2 = (dirL c).map (μ * ·) := hv
      have hmem : (dirL c, (dirL c).map (μ * ·)) ∈ kvs := by rw [← hv, ← ek]; exact hkv
      unfold putN
      rw [if_pos (any_key.mpr hk)]
      refine ⟨⟨?_, fun kv' h' => ?_, fun kv' h' => ?_⟩, fun F h => ?_⟩
      · have : (kvs.map fun kv => if kv.1 = dirL c then (kv.1, (dirL c).map ((μ + gcdL c) * ·)) else kv).map (·.1) = kvs.map (·.1) := by
          rw [List.map_map]
          refine List.map_congr_left fun kv _ => ?_
          simp only [Function.comp]
          split <;> rfl
        rw [this]; exact ok.nd
      · obtain ⟨a, ha, rfl⟩ := List.mem_map.mp h'
        by_cases e : a.1 = dirL c
        · rw [if_pos e]; exact ⟨μ + gcdL c, by omega, by rw [e]⟩
        · rw [if_neg e]; exact ok.mul a ha
      · obtain ⟨a, ha, rfl⟩ := List.mem_map.mp h'
        by_cases e : a.1 = dirL c
        · rw [if_pos e]; exact ok.kn a ha
        · rw [if_neg e]; exact ok.kn a ha
      · unfold sumF
        rw [sum_put ok.nd hmem, hF F h]
        omega
    · unfold putN
      rw [if_neg (fun z => hk (any_key.mp z))]
      refine ⟨⟨?_, fun kv' h' => ?_, fun kv' h' => ?_⟩, fun F h => ?_⟩
      · rw [List.map_append, List.nodup_append]
        refine ⟨ok.nd, by simp, fun x hx y hy => ?_⟩
        simp at hy
        subst hy
        exact fun z => hk (by rw [← z]; exact hx)
      · rcases List.mem_append.mp h' with h' | h'
        · exact ok.mul kv' h'
        · simp at h'; subst h'; exact ⟨_, by omega, rfl⟩
      · rcases List.mem_append.mp h' with h' | h'
        · exact ok.kn kv' h'
        · simp at h'; subst h'; exact hdn
      · have h0 : μ = 0 ∨ F ((dirL c).map (μ * ·)) = 0 := by
          rw [lookN_none hk] at hv
          right
          have : List.replicate n (0 : Int) = (dirL c).map (μ * ·) := hv
          rw [← this, zero_mul hd, h _ _ (Int.le_refl 0), Int.zero_mul]
        unfold sumF
        rw [List.map_append, List.sum_append]
        simp only [List.map_cons, List.map_nil, List.sum_cons, List.sum_nil]
        rw [hF F h]
        rcases h0 with h0 | h0
        · subst h0
          rw [h _ _ (Int.le_refl 0), Int.zero_mul]; omega
        · rw [h0]; omega
  · rw [if_neg hg]
    refine ⟨ok, fun F h => ?_⟩
    have hz : c = c.map ((0 : Int) * ·) := by
      conv => lhs; rw [← List.map_id c]
      refine List.map_congr_left fun x hx => ?_
      rw [Int.zero_mul]; exact gcdL_zero_iff hg x hx
    rw [hz, h _ _ (Int.le_refl 0), Int.zero_mul]; omega
theorem wayD_sum {n : Nat} {cs : List (List Int)} (hl : ∀ c ∈ cs, c.length = n) (hn : ∀ c ∈ cs, ∀ x ∈ c, 0 ≤ x) : WayS (wayD n cs) ∧ ∀ F, Hom F → sumF F (wayD n cs) = (cs.map F).sum := by
  have key : ∀ (cs : List (List Int)) (kvs : KN), (∀ c ∈ cs, c.length = n) → (∀ c ∈ cs, ∀ x ∈ c, 0 ≤ x) → WayS kvs → WayS (cs.foldl (addWay n) kvs) ∧ ∀ F, Hom F → sumF F (cs.foldl (addWay n) kvs) = sumF F kvs + (cs.map F).sum := by
    intro cs
    induction cs with
    | nil => intro kvs _ _ ok; exact ⟨ok, fun F _ => by simp⟩
    | cons c r ih =>
      intro kvs h1 h2 ok
      obtain ⟨ok1, e1⟩ := addWay_ok (n := n) (kvs := kvs) ok (h1 c List.mem_cons_self) (h2 c List.mem_cons_self)
      obtain ⟨ok2, e2⟩ := ih (addWay n kvs c) (fun x hx => h1 x (List.mem_cons_of_mem _ hx)) (fun x hx => h2 x (List.mem_cons_of_mem _ hx)) ok1
      refine ⟨ok2, fun F h => ?_⟩
      rw [List.foldl_cons, e2 F h, e1 F h, List.map_cons, List.sum_cons]
      omega
  obtain ⟨a, b⟩ := key cs [] hl hn ⟨by simp, by simp, by simp⟩
  refine ⟨a, fun F h => ?_⟩
  unfold wayD
  rw [b F h]
  simp [sumF]
theorem perm_sum {l m : List Int} (h : l.Perm m) : l.sum = m.sum := by
  induction h with
  | nil => rfl
  | cons x h ih => rw [List.sum_cons, List.sum_cons, ih]
  | swap x y l => rw [List.sum_cons, List.sum_cons, List.sum_cons, List.sum_cons]; omega
  | trans _ _ a b => rw [a, b]
/-- what a sorted row of the keys gives -/
theorem ways_sum {n : Nat} {cs ys : List (List Int)} (hl : ∀ c ∈ cs, c.length = n) (hn : ∀ c ∈ cs, ∀ x ∈ c, 0 ≤ x) (hy : ys.Perm ((wayD n cs).map (·.1))) {F : List Int → Int} (h : Hom F) :
    ((ys.map fun y => (lookN (wayD n cs) y).getD []).map F).sum = (cs.map F).sum := by
  obtain ⟨ok, e⟩ := wayD_sum hl hn
  rw [← e F h, List.map_map]
  have hp := hy.map (F ∘ fun y => (lookN (wayD n cs) y).getD [])
  rw [perm_sum hp, List.map_map]
  unfold sumF
  refine sum_congr fun kv hkv => ?_
  simp only [Function.comp]
  rw [lookN_of ok.nd hkv]
  rfl
theorem cols_tran {n : Nat} {cs : List (List Int)} (h : 1 ≤ n) (hl : ∀ c ∈ cs, c.length = n) : cols (tran n cs) = cs := by
  unfold cols
  rw [tran_wid h]
  apply List.ext_getElem?
  intro i
  rw [List.getElem?_map]
  by_cases hi : i < cs.length
  · rw [List.getElem?_range hi, List.getElem?_eq_getElem hi]
    simp only [Option.map_some, tran, List.map_map]
    congr 1
    have hc := hl _ (List.getElem_mem hi)
    conv => rhs; rw [← range_getD cs[i], hc]
    refine List.map_congr_left fun x _ => ?_
    simp [List.getD_eq_getElem?_getD, hi]
  · rw [List.getElem?_eq_none (by simp; omega), List.getElem?_eq_none (by omega)]
    rfl
theorem cols_at {rows : List (List Int)} {x : Nat} (hx : x < rows.length) (hl : ∀ r ∈ rows, r.length = wid rows) : ((cols rows).map fun c => c.getD x 0).sum = (rows.getD x []).sum := by
  have hm := getD_row (m := rows) hx
  rw [← sum_getD (hl _ hm), cols, List.map_map]
  refine sum_congr fun y _ => ?_
  simp [List.getD_eq_getElem?_getD, hx]
/-- the plain form of a teller is a teller of the same worths -/
theorem plain_ok {d : Int} {rows ys : List (List Int)} (ht : IsTel d rows) (hy : ys.Perm ((wayD rows.length (cols rows)).map (·.1))) :
    ∃ d' rows', plainOut d rows.length (ys.map fun y => (lookN (wayD rows.length (cols rows)) y).getD []) = dTel d' rows' ∧ IsTel d' rows' ∧ rows'.length = rows.length ∧ ∀ s, ratN (worthN rows' s) d' = ratN (worthN rows s) d := by
  have ok := tel_cols ht
  have d1 := ht.d1
  have hws := fun (F : List Int → Int) (h : Hom F) => ways_sum (n := rows.length) ok.len ok.nn hy h
  obtain ⟨wk, wl⟩ := wayD_ok ok (cols rows).length
  rw [List.take_length] at wk wl
  obtain ⟨ws, _⟩ := wayD_sum (n := rows.length) ok.len ok.nn
  have hyl : ys.length = (wayD rows.length (cols rows)).length := by rw [hy.length_eq, List.length_map]
  have hval : ∀ c ∈ ys.map (fun y => (lookN (wayD rows.length (cols rows)) y).getD []), c.length = rows.length ∧ ∀ x ∈ c, 0 ≤ x := fun c hc => by
    obtain ⟨y, hyy, rfl⟩ := List.mem_map.mp hc
    obtain ⟨v, h1, h2⟩ := lookN_key (hy.mem_iff.mp hyy)
    rw [h1]
    refine ⟨wk.vl _ h2, fun x hx => ?_⟩
    obtain ⟨μ, hμ, e⟩ := ws.mul _ h2
    have e : v = y.map (μ * ·) := e
    have hx : x ∈ v := hx
    rw [e] at hx
    obtain ⟨z, hz, rfl⟩ := List.mem_map.mp hx
    exact Int.mul_nonneg hμ (ws.kn _ h2 z hz)
  have hne : wayD rows.length (cols rows) ≠ [] := wayD_ne ok.ex
  generalize hcs : ys.map (fun y => (lookN (wayD rows.length (cols rows)) y).getD []) = cs at *
  have hcl : cs.length = (wayD rows.length (cols rows)).length := by rw [← hcs, List.length_map, hyl]
  have hc1 : 1 ≤ cs.length := by
    rw [hcl]
    exact List.length_pos_iff.mpr hne
  have hc2 : cs.length ≤ 12 := by have := ok.l; omega
  have ro : RowsOk (tran rows.length cs) d 6 12 := by
    refine ⟨by rw [tran_len]; exact ok.n1, by rw [tran_len]; exact ok.n2, by rw [tran_wid ok.n1]; exact hc1, by rw [tran_wid ok.n1]; exact hc2, fun r hr => by rw [tran_wid ok.n1]; exact tran_row hr, fun r hr x hx => ?_, fun r hr => ?_⟩
    · obtain ⟨i, _, rfl⟩ := List.mem_map.mp hr
      obtain ⟨c, hc, rfl⟩ := List.mem_map.mp hx
      exact getD_nn (hval c hc).2 i
    · obtain ⟨i, hi, rfl⟩ := List.mem_map.mp hr
      have hi := List.mem_range.mp hi
      have := hws _ (hom_at i)
      rw [this, cols_at hi ht.ok.len, ht.ok.sum _ (getD_row hi)]
  have hle : d / gcdL (d :: (tran rows.length cs).flatten) ≤ 10 ^ 30 := Int.le_trans (Int.ediv_le_self _ (by omega)) ht.d2
  refine ⟨_, _, rfl, tel_low d1 ro hle, by rw [lowR, List.length_map, tran_len], fun s => ?_⟩
  rw [low_rat d1 ro, worthN_eq, worthN_eq, cols_tran ok.n1 fun c hc => (hval c hc).1]
  congr 1
  exact hws _ (hom_max s)
end J

set_option Elab.async false
set_option linter.all false
set_option maxRecDepth 100000
set_option maxHeartbeats 4000000
/-! J16: a script, the making of a draw, a law. -/
namespace J
open PySem PySem.Spec L2 RZ
def wScr {T : Type} (w : W T) : WL T := fun ρ Φ => w ρ fun d t => ∃ ns, d = .scr ns ∧ Φ (ns.map .int) t
section
variable {T : Type} {X : Cx} {R : Rg T} {pos : Pos}
theorem EI_scr {tg l : Expr} {w : W T} (hl : PE X l (E R w)) (hK : X.K = R.K := by rfl) : PI X tg l (EI R (wScr w)) := PI_imp (pi_seq hl) fun σ H Q ⟨ρ, t, Φ, ok, q, k⟩ =>
  ⟨ρ, _, _, ok, q, fun H1 t1 v d g hD ⟨ns, e, hq⟩ => by
    rw [hK]
    subst e
    cases hD with
    | scr ha =>
      refine .inl ⟨_, rfl, ⟨_, ha.sq⟩, k H1 _ _ _ g ?_ hq⟩
      unfold WD
      rw [List.length_map, ← List.length_map (f := V.int)]
      refine walk_list.mono (fun H2 g => (g.1.lk ha).sq) fun i H2 x H3 hi g y => ?_
      obtain ⟨rfl, y⟩ := y
      obtain ⟨d, e, hd⟩ := (dens_ints ns).getV y
      exact ⟨fun t gd => .refl gd, d, e, hd⟩⟩
end
theorem fm_ints (p : Int → Prop) [DecidablePred p] (g : Int → Int) : ∀ ns : List Int, (ns.flatMap fun x => if p x then [D.int (g x)] else []) = (ns.flatMap fun x => if p x then [g x] else []).map D.int
  | [] => rfl
  | a :: ns => by
    rw [List.flatMap_cons, List.flatMap_cons, List.map_append, fm_ints p g ns]
    split <;> rfl
def spB (K : PySem.W.Frag) : Sp := fun vs H Q _ => ∃ (a : Addr) (ns : List Int), vs = [.ref a] ∧ LK K H a (ns.map V.int) ∧ ns.length ≤ 63 ∧ ∀ H' d l c t, Same H H' → DrawAt K d l c t H' → Dr 0 t → Q (.ref d) H'
def spL (K : PySem.W.Frag) : Sp := fun vs H Q _ => ∃ (a : Addr) (ns : List Int), vs = [.ref a] ∧ LK K H a (ns.map V.int) ∧ ns.length ≤ 63 ∧ ∀ H', Q (.bl true) H'
def tAny (K : PySem.W.Frag) (ww : Addr → WS DS) : TS := fun D σ H => ∃ H0 d l c t0, S (drawR K H0 d l c t0) (ww d) D σ H
theorem pss_any {X : Cx} {K : PySem.W.Frag} {rest : List Stmt} {ww : Addr → WS DS} (h : ∀ H0 d l c t0, PSs X rest (S (drawR K H0 d l c t0) (ww d))) : PSs X rest (tAny K ww) :=
  ⟨fun pins s σ H D I ⟨H0, d, l, c, t0, q⟩ => (h H0 d l c t0).run pins s σ H D I q⟩
section
variable {P : Program} {w : World} {K : PySem.W.Frag} {mg : Str → Option Value} {base : Heap}
/-- draw = _law_begun(script), and all behind it under the draw -/
def tBegin (K : PySem.W.Frag) (E0 : XK) (ww : Addr → WS DS) : TS := fun D σ H => tAsg (tCall (spB K) [] E0 (tCons (tVar 0) tNil)) (gName 1) { D with nx := fun σ' H' => tAny K ww D σ' H' } σ H
theorem begin_ok {N : List Str} {E0 : XK} {ww : Addr → WS DS} {a : Addr} {ns : List Int} {H : Hp} {D : Ends} (hN : 2 ≤ N.length) (hl : LK K H a (ns.map V.int)) (h63 : ns.length ≤ 63) (hrt : ∀ v H', v = .bl true → D.rt v H')
    (vc : ∀ d t, Dr 0 t → ww d ((startE N [.scr ns]).set 1 (.val (.hdl d))) { nx := fun _ _ => False, rt := fun v _ => v = .bl true } t) : tBegin K E0 ww D (L2.start N [.ref a]) H := by
  refine ⟨.ref a, ?_, a, ns, rfl, hl, h63, fun H' d l c t sm da dr => ?_⟩
  · unfold L2.start
    rw [List.getElem?_append_left (by simp)]
    rfl
  refine ⟨H', d, l, c, t, (startE N [.scr ns]).set 1 (.val (.hdl d)), t, _, ?_, vc d t dr, ?_⟩
  · have ok : EnvOk (drawR K H' d l c t) t H' (L2.start N [.ref a]) (startE N [.scr ns]) := start_ok (R := drawR K H' d l c t) (t := t) da rfl rfl (.cons (.scr ?_) .nil)
    · exact ok.set 1 (.hdl d)
    · rcases hl with ⟨o, h⟩ | h
      · exact .inl ⟨o, sm _ _ h⟩
      · exact .inr h
  · exact ⟨fun _ _ _ _ _ _ z => z.elim, fun v H' d' t' _ _ hd e => by subst e; cases hd; exact hrt _ _ rfl, fun _ _ _ _ _ _ z => z.elim, fun _ _ _ _ _ _ z => z.elim⟩
end
end J

set_option Elab.async false
set_option linter.all false
set_option maxRecDepth 100000
set_option maxHeartbeats 4000000
/-! J17: data that can be compared; slices; bounds. -/
namespace J
open PySem PySem.Spec L2 RZ
/-! ### comparable data -/
structure ShpN (n : Nat) (d : D) : Prop where
  lay : d.toP.canLay0 = true
  dep : d.toP.depth ≤ n
theorem ShpN.shp {n : Nat} {d : D} (h : ShpN n d) (hn : n ≤ 64) : d.shp := by
  unfold D.shp SeqAt.shaped
  rw [h.lay, Bool.true_and]
  exact decide_eq_true (Nat.le_trans h.dep hn)
theorem ShpN.mono {n m : Nat} {d : D} (h : ShpN n d) (hn : n ≤ m) : ShpN m d := ⟨h.lay, Nat.le_trans h.dep hn⟩
theorem shp_lays {n : Nat} : ∀ {ds : List D}, (∀ d ∈ ds, ShpN n d) → PyData.canLayAll0 (toPs ds) = true ∧ PyData.depthAll (toPs ds) ≤ n
  | [], _ => ⟨rfl, Nat.zero_le _⟩
  | d :: ds, h => by
    obtain ⟨a, b⟩ := shp_lays (ds := ds) fun e he => h e (List.mem_cons_of_mem _ he)
    have h1 := h d List.mem_cons_self
    rw [toPs, PyData.canLayAll0, PyData.depthAll, h1.lay, a]
    exact ⟨rfl, Nat.max_le.mpr ⟨h1.dep, b⟩⟩
theorem ShpN.tup {n : Nat} {ds : List D} (h : ∀ d ∈ ds, ShpN n d) : ShpN (n + 1) (.tup ds) := by
  obtain ⟨a, b⟩ := shp_lays h
  exact ⟨by rw [D.toP, PyData.canLay0]; exact a, by rw [D.toP, PyData.depth]; omega⟩
theorem ShpN.lst {n : Nat} {ds : List D} (h : ∀ d ∈ ds, ShpN n d) : ShpN (n + 1) (.lst ds) := by
  obtain ⟨a, b⟩ := shp_lays h
  exact ⟨by rw [D.toP, PyData.canLay0]; exact a, by rw [D.toP, PyData.depth]; omega⟩
theorem ShpN.int (i : Int) : ShpN 0 (.int i) := ⟨rfl, Nat.le_refl 0⟩
theorem ShpN.str {x : Str} (h : (D.str x).toP.canLay0 = true) : ShpN 0 (.str x) := ⟨h, Nat.le_refl 0⟩
theorem shpN_stakes : ShpN 0 (.str "stakes") := .str (by decide +kernel)
theorem shpN_dI (r : List Int) : ShpN 1 (dI r) := .tup fun d hd => by
  obtain ⟨i, _, rfl⟩ := List.mem_map.mp hd
  exact .int i
theorem shpN_rows (g : List (List Int)) : ShpN 2 (dRows g) := .tup fun d hd => by
  obtain ⟨r, _, rfl⟩ := List.mem_map.mp hd
  exact shpN_dI r
theorem shpN_sta (g : List (List Int)) : ShpN 3 (dSta g) := .tup fun d hd => by
  rcases List.mem_cons.mp hd with rfl | hd
  · exact shpN_stakes.mono (by decide)
  · rw [List.mem_singleton.mp hd]; exact shpN_rows g
theorem shpN_rat (q : Int × Int) : ShpN 1 (dRat q) := .tup fun d hd => by
  rcases List.mem_cons.mp hd with rfl | hd
  · exact .int _
  · rw [List.mem_singleton.mp hd]; exact .int _
theorem shp_sta (g : List (List Int)) : (dSta g).shp := (shpN_sta g).shp (by decide)
theorem shp_rat (q : Int × Int) : (dRat q).shp := (shpN_rat q).shp (by decide)
theorem shp_dI (r : List Int) : (dI r).shp := (shpN_dI r).shp (by decide)
theorem D.eq_self {n : Nat} {d : D} (h : ShpN n d) : d.eq d = true := SeqAt.eqv_refl d.toP h.lay
theorem sta_eq (g : List (List Int)) : (dSta g).eq (dSta g) = true := D.eq_self (shpN_sta g)
theorem rat_eq (q : Int × Int) : (dRat q).eq (dRat q) = true := D.eq_self (shpN_rat q)
theorem dI_eq (r : List Int) : (dI r).eq (dI r) = true := D.eq_self (shpN_dI r)
/-! ### slices -/
theorem cut_take (xs : List D) (k : Nat) : cutD xs none (some (k : Int)) = xs.take k := by
  unfold cutD
  rw [HT.sIx_none, HT.sIx_nat, List.drop_zero, Nat.sub_zero]
  by_cases h : k ≤ xs.length
  · rw [Nat.min_eq_left h]
  · rw [Nat.min_eq_right (by omega), List.take_of_length_le (Nat.le_refl _), List.take_of_length_le (by omega)]
theorem cut_drop (xs : List D) (k : Nat) : cutD xs (some (k : Int)) none = xs.drop k := by
  unfold cutD
  rw [HT.sIx_none, HT.sIx_nat]
  by_cases h : k ≤ xs.length
  · rw [Nat.min_eq_left h, List.take_of_length_le (by rw [List.length_drop]; omega)]
  · rw [Nat.min_eq_right (by omega), List.drop_eq_nil_of_le (by omega), List.drop_eq_nil_of_le (by omega)]; simp
/-! ### a statement, what is behind it out of sight -/
theorem sq_abs {T : Type} {w1 w2 : WS T} {ρ : Env} {Φ : DE T} {t : T} (h : ∀ N : Env → T → Prop, (∀ ρ' t', w2 ρ' Φ t' → N ρ' t') → w1 ρ { Φ with nx := N } t) : wSq w1 w2 ρ Φ t := h _ fun _ _ z => z
def forI {T : Type} (p : Pat) (wb : WS T) (ρ : Env) (Φ : DE T) (ds : List D) (t : T) : Prop := ∃ I : Nat → Env → T → Prop, I 0 ρ t ∧ (∀ k ρ1 t1 d, I k ρ1 t1 → ds[k]? = some d → ∃ ρ2, bindP p d ρ1 = some ρ2 ∧ wb ρ2 { Φ with nx := I (k + 1), ct := I (k + 1), bk := Φ.nx } t1) ∧ ∀ ρ1 t1, I ds.length ρ1 t1 → Φ.nx ρ1 t1
theorem for_abs {T : Type} {wi : WL T} {p : Pat} {wb : WS T} {ρ : Env} {Φ : DE T} {t : T} (h : ∀ WB, WB = wb → wi ρ (forI p WB ρ Φ) t) : wFor wi p wb ρ Φ t := h wb rfl
theorem forI_mk {T : Type} {p : Pat} {wb : WS T} {ρ : Env} {Φ : DE T} {ds : List D} {t : T} (I : Nat → Env → T → Prop) (h0 : I 0 ρ t)
    (hs : ∀ k ρ1 t1 d, I k ρ1 t1 → ds[k]? = some d → ∃ ρ2, bindP p d ρ1 = some ρ2 ∧ ∀ N : Env → T → Prop, (∀ ρ' t', I (k + 1) ρ' t' → N ρ' t') → wb ρ2 { Φ with nx := N, ct := N, bk := Φ.nx } t1) (he : ∀ ρ1 t1, I ds.length ρ1 t1 → Φ.nx ρ1 t1) : forI p wb ρ Φ ds t :=
  ⟨I, h0, fun k ρ1 t1 d i e => by
    obtain ⟨ρ2, a, b⟩ := hs k ρ1 t1 d i e
    exact ⟨ρ2, a, b _ fun _ _ z => z⟩, he⟩
/-! ### bounds -/
/-- stakes of small gains -/
structure Sg (n : Nat) (B : Int) (g : List (List Int)) : Prop where
  l1 : 1 ≤ g.length
  len : ∀ r ∈ g, r.length = n
  bd : ∀ r ∈ g, ∀ x ∈ r, -B ≤ x ∧ x ≤ B
theorem wid_of {g : List (List Int)} {n : Nat} (h1 : 1 ≤ g.length) (h : ∀ r ∈ g, r.length = n) : wid g = n := by
  obtain ⟨r, rs, hr, hw⟩ := head_wid h1
  rw [hw]; exact h r (by rw [hr]; exact List.mem_cons_self)
theorem Sg.wid {n : Nat} {B : Int} {g : List (List Int)} (h : Sg n B g) : wid g = n := wid_of h.l1 h.len
theorem sm_of {B x : Int} (h : -B ≤ x ∧ x ≤ B) (hB : B ≤ 1000) : Sm 20 x := by
  unfold Sm
  have : (1000 : Nat) < 2 ^ 20 := by decide
  omega
theorem Sg.sta {n : Nat} {B : Int} {g : List (List Int)} (h : Sg n B g) (l2 : g.length ≤ 12) (n1 : 1 ≤ n) (n2 : n ≤ 6) (hB : B ≤ 1000) : IsSta g :=
  ⟨h.l1, l2, by rw [h.wid]; exact n1, by rw [h.wid]; exact n2, fun r hr => by rw [h.wid]; exact h.len r hr, fun r hr x hx => (sm_of (h.bd r hr x hx) hB).mono (by decide)⟩
theorem Sg.mono {n : Nat} {B C : Int} {g : List (List Int)} (h : Sg n B g) (hBC : B ≤ C) : Sg n C g := ⟨h.l1, h.len, fun r hr x hx => by have := h.bd r hr x hx; omega⟩
theorem Sg.take {n k : Nat} {B : Int} {g : List (List Int)} (h : Sg n B g) (hk : 1 ≤ k) : Sg n B (g.take k) :=
  ⟨by rw [List.length_take]; have := h.l1; omega, fun r hr => h.len r (List.mem_of_mem_take hr), fun r hr => h.bd r (List.mem_of_mem_take hr)⟩
theorem Sg.app {n : Nat} {B : Int} {g k : List (List Int)} (h : Sg n B g) (h' : ∀ r ∈ k, r.length = n ∧ ∀ x ∈ r, -B ≤ x ∧ x ≤ B) : Sg n B (g ++ k) :=
  ⟨by rw [List.length_append]; have := h.l1; omega, fun r hr => by
    rcases List.mem_append.mp hr with hr | hr
    · exact h.len r hr
    · exact (h' r hr).1, fun r hr => by
    rcases List.mem_append.mp hr with hr | hr
    · exact h.bd r hr
    · exact (h' r hr).2⟩
theorem sumG_len (h : List (List Int)) : ∀ l : List (List Int), (sumG l h).length = l.length * h.length
  | [] => by simp [sumG]
  | a :: b => by
    have ih := sumG_len h b
    rw [sumG] at ih
    rw [sumG, List.flatMap_cons, List.length_append, List.length_map, List.length_cons, Nat.add_mul, Nat.one_mul, Nat.add_comm, ih]
theorem mem_zip_get {a b : List Int} {p : Int × Int} (h : p ∈ a.zip b) : p.1 ∈ a ∧ p.2 ∈ b := List.of_mem_zip h
theorem Sg.sum {n : Nat} {B C : Int} {g h : List (List Int)} (hg : Sg n B g) (hh : Sg n C h) : Sg n (B + C) (sumG g h) := by
  refine ⟨?_, fun r hr => ?_, fun r hr x hx => ?_⟩
  · rw [sumG_len]
    exact Nat.mul_pos hg.l1 hh.l1
  · obtain ⟨a, ha, b, hb, rfl⟩ := mem_sumG.mp hr
    rw [List.length_map, List.length_zip, hg.len a ha, hh.len b hb]; omega
  · obtain ⟨a, ha, b, hb, rfl⟩ := mem_sumG.mp hr
    obtain ⟨p, hp, rfl⟩ := List.mem_map.mp hx
    obtain ⟨h1, h2⟩ := mem_zip_get hp
    have b1 := hg.bd a ha p.1 h1
    have b2 := hh.bd b hb p.2 h2
    omega
theorem mvd_len {s : Nat} {k : Int} {a : List Int} (h : s < a.length) : (mvd s k a).length = a.length := by
  unfold mvd
  rw [List.length_append, List.length_take, List.length_cons, List.length_drop]; omega
theorem Sg.mv {n s : Nat} {B k : Int} {g : List (List Int)} (h : Sg n B g) (hs : s < n) (hk : -4 ≤ k ∧ k ≤ 4) : Sg n (B + 4) (g.map (mvd s k)) := by
  refine ⟨by rw [List.length_map]; exact h.l1, fun r hr => ?_, fun r hr x hx => ?_⟩
  · obtain ⟨a, ha, rfl⟩ := List.mem_map.mp hr
    rw [mvd_len (by rw [h.len a ha]; exact hs)]; exact h.len a ha
  · obtain ⟨a, ha, rfl⟩ := List.mem_map.mp hr
    unfold mvd at hx
    rcases List.mem_append.mp hx with hx | hx
    · have := h.bd a ha x (List.mem_of_mem_take hx); omega
    · rcases List.mem_cons.mp hx with rfl | hx
      · have := h.bd a ha _ (getD_mem (by rw [h.len a ha]; exact hs)); omega
      · have := h.bd a ha x (List.mem_of_mem_drop hx); omega
theorem dot_bd {B : Int} (hB : 0 ≤ B) : ∀ (a c : List Int), (∀ x ∈ a, -B ≤ x ∧ x ≤ B) → (∀ x ∈ c, 0 ≤ x) → dot a c ≤ B * c.sum ∧ -(B * c.sum) ≤ dot a c
  | [], c, _, h => by
    rw [dot_nil]
    have := Int.mul_nonneg hB (sum_nn h)
    omega
  | _ :: _, [], _, _ => by rw [dot_nil']; simp
  | x :: a, y :: c, h, h' => by
    obtain ⟨i1, i2⟩ := dot_bd hB a c (fun z hz => h z (List.mem_cons_of_mem _ hz)) fun z hz => h' z (List.mem_cons_of_mem _ hz)
    obtain ⟨x1, x2⟩ := h x List.mem_cons_self
    have y0 := h' y List.mem_cons_self
    rw [dot_cons, List.sum_cons, Int.mul_add]
    have p1 : x * y ≤ B * y := Int.mul_le_mul_of_nonneg_right x2 y0
    have p2 : -B * y ≤ x * y := Int.mul_le_mul_of_nonneg_right x1 y0
    rw [Int.neg_mul] at p2
    omega
theorem cols_total {d : Int} {rows : List (List Int)} {a b : Nat} (h : RowsOk rows d a b) : ((cols rows).map List.sum).sum = rows.length * d := by
  rw [cols, List.map_map]
  have e : ((List.range (wid rows)).map (List.sum ∘ fun y => rows.map fun r => r.getD y 0)).sum = (rows.map fun r => ((List.range (wid rows)).map fun y => r.getD y 0).sum).sum := by
    rw [sum_swap]
    rfl
  rw [e, sum_congr (g := fun _ => d) fun r hr => by rw [sum_getD (h.len r hr), h.sum r hr], sum_const]
theorem W_bd {d B : Int} {rows s : List (List Int)} {a b n : Nat} (h : RowsOk rows d a b) (hs : Sg n B s) (hB : 0 ≤ B) : worthN rows s ≤ B * (rows.length * d) ∧ -(B * (rows.length * d)) ≤ worthN rows s := by
  have hc : ∀ c ∈ cols rows, ∀ x ∈ c, 0 ≤ x := fun c hc x hx => by
    obtain ⟨r, hr, hxr⟩ := cols_mem h.len hc hx
    exact h.nn r hr x hxr
  have key : ∀ c ∈ cols rows, maxL (sumsAt s c) ≤ B * c.sum ∧ -(B * c.sum) ≤ maxL (sumsAt s c) := fun c hcm => by
    obtain ⟨v, hv, e⟩ := mem_sumsAt.mp (maxL_ex (sumsAt_ne (c := c) hs.l1))
    rw [← e]
    exact dot_bd hB v c (hs.bd v hv) (hc c hcm)
  rw [← cols_total h, worthN, ← sum_mulL]
  refine ⟨sum_le fun c hcm => (key c hcm).1, ?_⟩
  have e : -((cols rows).map fun c => B * c.sum).sum = ((cols rows).map fun c => -(B * c.sum)).sum := by
    have := sum_mulL (-1) (fun c : List Int => B * c.sum) (cols rows)
    simp only [Int.neg_mul, Int.one_mul] at this
    exact this.symm
  rw [e]
  exact sum_le fun c hcm => (key c hcm).2
theorem W_sm {d B : Int} {rows s : List (List Int)} {n : Nat} (h : IsTel d rows) (hs : Sg n B s) (hB : 0 ≤ B) (hB2 : B ≤ 1000) : Sm 300 (worthN rows s) := by
  obtain ⟨h1, h2⟩ := W_bd h.ok hs hB
  have l2 := h.ok.l2
  have d1 := h.d1
  have d2 := h.d2
  have e1 : (rows.length : Int) * d ≤ 6 * 10 ^ 30 := Int.mul_le_mul (by omega) d2 (by omega) (by decide)
  have e0 : 0 ≤ (rows.length : Int) * d := Int.mul_nonneg (by omega) (by omega)
  have e2 : B * (rows.length * d) ≤ 1000 * (6 * 10 ^ 30) := Int.mul_le_mul hB2 e1 e0 (by decide)
  unfold Sm
  have e3 : (1000 : Int) * (6 * 10 ^ 30) < 2 ^ 300 := by decide
  have e4 : ((2 ^ 300 : Nat) : Int) = 2 ^ 300 := by decide
  omega
theorem rat_sm {d B : Int} {rows s : List (List Int)} {n : Nat} (h : IsTel d rows) (hs : Sg n B s) (hB : 0 ≤ B) (hB2 : B ≤ 1000) : Sm 300 (ratN (worthN rows s) d).1 ∧ Sm 300 (ratN (worthN rows s) d).2 ∧ 0 < (ratN (worthN rows s) d).2 :=
  ⟨(W_sm h hs hB hB2).div, ((small_d h).mono (by decide)).div, (ratN_spec _ (by have := h.d1; omega)).2.1⟩
theorem sums_bd {B : Int} {s : List (List Int)} {n : Nat} (hs : Sg n B s) (hB : 0 ≤ B) (hB2 : B ≤ 1000) (hn : n ≤ 6) : Sm 300 (maxL (s.map List.sum)) := by
  have hne : s.map List.sum ≠ [] := fun e => by
    have := congrArg List.length e
    rw [List.length_map] at this
    simp at this
    have l1 := hs.l1
    rw [this] at l1
    simp at l1
  obtain ⟨v, hv, e⟩ := List.mem_map.mp (maxL_ex hne)
  rw [← e]
  have hd := dot_bd hB v (List.replicate n 1) (hs.bd v hv) fun x hx => by rw [List.eq_of_mem_replicate hx]; decide
  have e1 : dot v (List.replicate n 1) = v.sum := by
    rw [dot_const 1 v _ (by rw [List.length_replicate]; exact hs.len v hv) fun x hx => List.eq_of_mem_replicate hx]; omega
  have e2 : (List.replicate n (1 : Int)).sum = n := by
    have : ∀ n : Nat, (List.replicate n (1 : Int)).sum = n := fun n => by
      induction n with
      | zero => rfl
      | succ k ih => rw [List.replicate_succ, List.sum_cons, ih]; omega
    exact this n
  rw [e1, e2] at hd
  have : B * n ≤ 1000 * 6 := Int.mul_le_mul hB2 (by omega) (by omega) (by decide)
  unfold Sm
  have e4 : ((2 ^ 300 : Nat) : Int) = 2 ^ 300 := by decide
  have e3 : (6000 : Int) < 2 ^ 300 := by decide
  omega
theorem best_fm (w : List Int) : ((List.range w.length).flatMap fun a => if w.getD a 0 = maxL w then [D.int (a : Nat)] else []) = (bestL w).map D.int := by
  unfold bestL
  rw [List.map_map]
  have e : ∀ l : List Nat, (l.flatMap fun i => if w.getD i 0 = maxL w then [D.int (i : Nat)] else []) = (l.filter fun a => decide (w.getD a 0 = maxL w)).map (D.int ∘ fun (a : Nat) => (a : Int)) := by
    intro l
    induction l with
    | nil => rfl
    | cons a b ih =>
      rw [List.flatMap_cons, ih, List.filter_cons]
      by_cases hh : w.getD a 0 = maxL w
      · rw [if_pos hh, if_pos (decide_eq_true hh)]; rfl
      · rw [if_neg hh, if_neg (by simpa using hh)]; rfl
  exact e _
theorem sm_one : Sm 400000 1 := Nat.one_lt_two_pow (by decide)
end J

set_option Elab.async false
set_option linter.all false
set_option maxRecDepth 100000
set_option maxHeartbeats 4000000
/-! J18: objects and lists that change, as a regime: the ghost state is a part of the heap, of data. -/
namespace J
open PySem PySem.Spec L2 RZ
/-- an object of a class with its fields, or a list; a field holds data, or the handle of a cell -/
inductive Cell where
  | ins (C : Addr) (fs : List (Str × D)) | lst (ds : List D)
abbrev Cs := Addr → Option Cell
inductive FsOk (K : PySem.W.Frag) (H : Hp) : List (Str × D) → List (Str × V) → Prop
  | nil : FsOk K H [] []
  | cons {f : Str} {d : D} {v : V} {t : List (Str × D)} {fs : List (Str × V)} : Den K H d v → FsOk K H t fs → FsOk K H ((f, d) :: t) ((f, v) :: fs)
inductive CellOk (K : PySem.W.Frag) (H : Hp) : Cell → HO → Prop
  | ins {C dx : Addr} {fs : List (Str × D)} {vs : List (Str × V)} : FsOk K H fs vs → CellOk K H (.ins C fs) (.ins C dx vs)
  | lst {ds : List D} {vs : List V} : Dens K H ds vs → CellOk K H (.lst ds) (.lst vs)
def putS (f : Str) (x : D) : List (Str × D) → List (Str × D)
  | [] => [(f, x)]
  | (g, y) :: r => if g = f then (g, x) :: r else (g, y) :: putS f x r
def setC (t : Cs) (a : Addr) (c : Option Cell) : Cs := fun b => if b = a then c else t b
theorem setC_same {t : Cs} {a : Addr} {c : Option Cell} : setC t a c a = c := by unfold setC; rw [if_pos rfl]
theorem setC_ne {t : Cs} {a b : Addr} {c : Option Cell} (h : b ≠ a) : setC t a c b = t b := by unfold setC; rw [if_neg h]
section
variable {K : PySem.W.Frag} {H H' : Hp}
theorem FsOk.len : ∀ {t : List (Str × D)} {fs : List (Str × V)}, FsOk K H t fs → t.length = fs.length
  | _, _, .nil => rfl
  | _, _, .cons _ h => by rw [List.length_cons, List.length_cons, h.len]
theorem FsOk.get {f : Str} : ∀ {t : List (Str × D)} {fs : List (Str × V)} {x : D}, FsOk K H t fs → t.lookup f = some x → ∃ v, fs.lookup f = some v ∧ Den K H x v
  | _, _, _, .nil, e => by simp at e
  | _, _, x, .cons (f := g) h hs, e => by
    rw [List.lookup_cons] at e ⊢
    by_cases hb : (f == g) = true
    · rw [hb] at e ⊢
      cases e
      exact ⟨_, rfl, h⟩
    · have hb : (f == g) = false := by simpa using hb
      rw [hb] at e ⊢
      exact FsOk.get hs e
theorem FsOk.no {f : Str} : ∀ {t : List (Str × D)} {fs : List (Str × V)}, FsOk K H t fs → t.lookup f = none → fs.lookup f = none
  | _, _, .nil, e => rfl
  | _, _, .cons (f := g) h hs, e => by
    rw [List.lookup_cons] at e ⊢
    by_cases hb : (f == g) = true
    · rw [hb] at e; cases e
    · have hb : (f == g) = false := by simpa using hb
      rw [hb] at e ⊢
      exact FsOk.no hs e
theorem FsOk.put {f : Str} {x : D} {v : V} (h : Den K H x v) : ∀ {t : List (Str × D)} {fs : List (Str × V)}, FsOk K H t fs → FsOk K H (putS f x t) (putF f v fs)
  | _, _, .nil => .cons h .nil
  | _, _, .cons (f := g) h' hs => by
    unfold putS putF
    by_cases e : g = f
    · rw [if_pos e, if_pos e]; exact .cons h hs
    · rw [if_neg e, if_neg e]; exact .cons h' (FsOk.put h hs)
theorem FsOk.ext (e : Ext H H') : ∀ {t : List (Str × D)} {fs : List (Str × V)}, FsOk K H t fs → FsOk K H' t fs
  | _, _, .nil => .nil
  | _, _, .cons h hs => .cons (h.ext e) (hs.ext e)
/-- a field's data become other data for the same value -/
theorem FsOk.turn {f : Str} {x y : D} {v : V} : ∀ {t : List (Str × D)} {fs : List (Str × V)}, FsOk K H t fs → t.lookup f = some x → fs.lookup f = some v → Den K H y v → FsOk K H (putS f y t) fs
  | _, _, .nil, e, _, _ => by simp at e
  | _, _, .cons (f := g) h hs, e, e2, hy => by
    rw [List.lookup_cons] at e e2
    unfold putS
    by_cases hb : f = g
    · subst hb
      rw [beq_self_eq_true] at e e2
      rw [if_pos rfl]
      cases e2
      exact .cons hy hs
    · have hb' : (f == g) = false := by simpa using hb
      rw [hb'] at e e2
      rw [if_neg (fun z => hb z.symm)]
      exact .cons h (FsOk.turn hs e e2 hy)
theorem CellOk.ext {c : Cell} {o : HO} (e : Ext H H') (h : CellOk K H c o) : CellOk K H' c o := by
  cases h with
  | ins h => exact .ins (h.ext e)
  | lst h => exact .lst (h.ext e)
end
def CsOk (K : PySem.W.Frag) (t : Cs) (H : Hp) : Prop := ∀ a c, t a = some c → ∃ o, H a = some o ∧ CellOk K H c o
def cellR (K : PySem.W.Frag) (H0 : Hp) (t0 : Cs) : Rg Cs where
  K := K
  H0 := H0
  t0 := t0
  Vol := fun t a => t a ≠ none
  Gd := fun t H => CsOk K t H
  kind := fun t H a g v => by
    cases e : t a with
    | none => exact absurd e v
    | some c =>
      obtain ⟨o, h, k⟩ := g a c e
      refine ⟨o, h, ?_⟩
      cases k <;> trivial
  dep := fun t H H' g x h a c e => by
    obtain ⟨o, h1, k⟩ := g a c e
    exact ⟨o, by rw [h a (by rw [e]; exact fun z => nomatch z)]; exact h1, k.ext x⟩
section
variable {K : PySem.W.Frag} {H0 H : Hp} {t0 t : Cs} {o p C dx : Addr} {fs : List (Str × D)} {vs : List (Str × V)} {ds : List D}
theorem CsOk.ins (g : CsOk K t H) (e : t o = some (.ins C fs)) : ∃ dx vs, H o = some (.ins C dx vs) ∧ FsOk K H fs vs := by
  obtain ⟨u, h, k⟩ := g o _ e
  cases k with
  | ins k => exact ⟨_, _, h, k⟩
theorem CsOk.lst (g : CsOk K t H) (e : t p = some (.lst ds)) : ∃ vs, H p = some (.lst vs) ∧ Dens K H ds vs := by
  obtain ⟨u, h, k⟩ := g p _ e
  cases k with
  | lst k => exact ⟨_, h, k⟩
/-- a cell is written -/
theorem CsOk.write (g : CsOk K t H) {a : Addr} {c : Cell} {u u' : HO} (h : H a = some u) (m : Mu u) (va : t a ≠ none ∨ False) (k : ∀ {H'}, Ext H H' → CellOk K H' c u') : (cellR K H0 t0).Go t H (setC t a (some c)) (upd H a u') := by
  have x : Ext H (upd H a u') := by
    refine ⟨fun b ys q => ?_, fun b ob w q => ?_⟩
    · rw [upd_ne (fun z => by rw [z, h] at q; cases q; exact m)]; exact q
    · rw [upd_ne (fun z => by rw [z, h] at q; cases q; exact m)]; exact q
  have va : t a ≠ none := va.elim id False.elim
  refine ⟨⟨fun b w hb nv => ?_, fun b vb => upd_some ?_, fun b vb => ?_⟩, fun b d e => ?_⟩
  · rw [upd_ne (fun z => nv (by rw [z]; exact va))]; exact hb
  · exact Rg.there (R := cellR K H0 t0) g vb
  · refine .inl fun z => vb ?_
    unfold setC
    split
    · rename_i e; rw [e] at z; exact absurd z va
    · exact z
  · unfold setC at e
    split at e
    · rename_i eb; subst eb; cases e
      exact ⟨_, upd_same, k x⟩
    · rename_i eb
      obtain ⟨w, h1, h2⟩ := g b d e
      exact ⟨w, by rw [upd_ne eb]; exact h1, h2.ext x⟩
/-- a new list comes under the cells -/
theorem CsOk.adopt (g : CsOk K t H) {vs : List V} (h : H p = some (.lst vs)) (hD : Dens K H ds vs) : CsOk K (setC t p (some (.lst ds))) H := fun b d e => by
  unfold setC at e
  split at e
  · rename_i eb; subst eb; cases e
    exact ⟨_, h, .lst hD⟩
  · exact g b d e
/-- a cell is forgotten -/
theorem CsOk.drop (g : CsOk K t H) : CsOk K (setC t p none) H := fun b d e => by
  unfold setC at e
  split at e
  · cases e
  · exact g b d e
end
end J

set_option Elab.async false
set_option linter.all false
set_option maxRecDepth 100000
set_option maxHeartbeats 4000000
/-! LP1: determinants of integer columns. -/
namespace LP
/-- the sum of f over 0 .. n-1 -/
def sg (n : Nat) (f : Nat → Int) : Int := match n with
  | 0 => 0
  | n + 1 => sg n f + f n
theorem sg_congr {n : Nat} {f g : Nat → Int} (h : ∀ i, i < n → f i = g i) : sg n f = sg n g := by
  induction n with
  | zero => rfl
  | succ n ih => unfold sg; rw [ih fun i hi => h i (by omega), h n (by omega)]
theorem sg_add (n : Nat) (f g : Nat → Int) : sg n (fun i => f i + g i) = sg n f + sg n g := by
  induction n with
  | zero => rfl
  | succ n ih => unfold sg; rw [ih]; omega
theorem sg_mul (n : Nat) (k : Int) (f : Nat → Int) : sg n (fun i => k * f i) = k * sg n f := by
  induction n with
  | zero => simp [sg]
  | succ n ih => unfold sg; rw [ih, Int.mul_add]
theorem sg_zero {n : Nat} {f : Nat → Int} (h : ∀ i, i < n → f i = 0) : sg n f = 0 := by
  rw [sg_congr (g := fun _ => 0) h]
  induction n with
  | zero => rfl
  | succ n ih => unfold sg; rw [ih fun i hi => h i (by omega)]; rfl
theorem sg_one {n : Nat} {f : Nat → Int} {k : Nat} (hk : k < n) (h : ∀ i, i < n → i ≠ k → f i = 0) : sg n f = f k := by
  induction n with
  | zero => omega
  | succ n ih =>
    unfold sg
    by_cases e : k = n
    · subst e
      rw [sg_zero fun i hi => h i (by omega) (by omega)]; omega
    · rw [ih (by omega) fun i hi hn => h i (by omega) hn, h n (by omega) (by omega)]; omega
theorem sg_two {n : Nat} {f : Nat → Int} {k l : Nat} (hk : k < n) (hl : l < n) (hkl : k ≠ l) (h : ∀ i, i < n → i ≠ k → i ≠ l → f i = 0) : sg n f = f k + f l := by
  have e : sg n f = sg n (fun i => (if i = k then f i else 0) + if i = k then 0 else f i) := sg_congr fun i hi => by
    by_cases hik : i = k
    · simp [hik]
    · simp [hik]
  rw [e, sg_add, sg_one hk (fun i hi hn => by simp [hn]), sg_one hl (fun i hi hn => by
    by_cases hik : i = k
    · simp [hik]
    · simp [hik]; exact h i hi hik hn)]
  simp [Ne.symm hkl]
theorem sg_swap (n m : Nat) (f : Nat → Nat → Int) : sg n (fun i => sg m fun j => f i j) = sg m (fun j => sg n fun i => f i j) := by
  induction n with
  | zero => exact (sg_zero fun i _ => rfl).symm
  | succ n ih =>
    show sg n (fun i => sg m fun j => f i j) + sg m (fun j => f n j) = sg m fun j => sg n (fun i => f i j) + f n j
    rw [sg_add, ih]
abbrev Mx := Nat → Nat → Int
/-- column k replaced -/
def up (B : Mx) (k : Nat) (c : Nat → Int) : Mx := fun q => if q = k then c else B q
theorem up_same (B : Mx) (k : Nat) (c : Nat → Int) : up B k c k = c := by simp [up]
theorem up_ne (B : Mx) {k q : Nat} (c : Nat → Int) (h : q ≠ k) : up B k c q = B q := by simp [up, h]
theorem up_up (B : Mx) (k : Nat) (c e : Nat → Int) : up (up B k c) k e = up B k e := by
  funext q; by_cases h : q = k <;> simp [up, h]
theorem up_comm (B : Mx) {k l : Nat} (c e : Nat → Int) (h : k ≠ l) : up (up B k c) l e = up (up B l e) k c := by
  funext q
  by_cases h1 : q = k
  · subst h1; simp [up, h]
  · by_cases h2 : q = l
    · subst h2; simp [up, h1]
    · simp [up, h1, h2]
theorem up_self (B : Mx) (k : Nat) : up B k (B k) = B := by
  funext q; by_cases h : q = k
  · subst h; simp [up]
  · simp [up, h]
/-- place k of what is left when q is taken out -/
def sk (q k : Nat) : Nat := if k < q then k else k + 1
/-- the minor: column q and the first coordinate taken out -/
def mi (B : Mx) (q : Nat) : Mx := fun k x => B (sk q k) (x + 1)
def sgn (q : Nat) : Int := if q % 2 = 0 then 1 else -1
theorem sgn_succ (q : Nat) : sgn (q + 1) = -sgn q := by
  unfold sgn
  by_cases h : q % 2 = 0
  · rw [if_pos h, if_neg (by omega)]
  · rw [if_neg h, if_pos (by omega)]; rfl
def det : Nat → Mx → Int
  | 0, _ => 1
  | m + 1, B => sg (m + 1) fun q => sgn q * B q 0 * det m (mi B q)
theorem det_congr : ∀ (m : Nat) {B D : Mx}, (∀ q, q < m → ∀ x, x < m → B q x = D q x) → det m B = det m D
  | 0, _, _, _ => rfl
  | m + 1, B, D, h => by
    unfold det
    refine sg_congr fun q hq => ?_
    rw [h q hq 0 (by omega), det_congr m (B := mi B q) (D := mi D q) fun k hk x hx => ?_]
    unfold mi sk
    exact h _ (by split <;> omega) _ (by omega)
theorem mi_up_ne (B : Mx) {k q : Nat} (c : Nat → Int) (h : q ≠ k) : mi (up B k c) q = up (mi B q) (if k < q then k else k - 1) (fun x => c (x + 1)) := by
  funext p x
  unfold mi
  by_cases e : sk q p = k
  · have : p = if k < q then k else k - 1 := by unfold sk at e; split at e <;> split <;> omega
    rw [e, up_same, this, up_same]
  · have : p ≠ if k < q then k else k - 1 := by unfold sk at e; split at e <;> split <;> omega
    rw [up_ne _ _ e, up_ne _ _ this]
theorem mi_up_same (B : Mx) (q : Nat) (c : Nat → Int) : mi (up B q c) q = mi B q := by
  funext p x
  unfold mi
  rw [up_ne _ _ (by unfold sk; split <;> omega)]
/-- linear in each column -/
theorem det_lin : ∀ (m : Nat) (B : Mx) (k : Nat) (a b : Int) (c e : Nat → Int), k < m → det m (up B k fun x => a * c x + b * e x) = a * det m (up B k c) + b * det m (up B k e)
  | 0, _, _, _, _, _, _, h => by omega
  | m + 1, B, k, a, b, c, e, h => by
    unfold det
    rw [← sg_mul, ← sg_mul, ← sg_add]
    refine sg_congr fun q hq => ?_
    by_cases hqk : q = k
    · subst hqk
      rw [up_same, up_same, up_same, mi_up_same, mi_up_same, mi_up_same]
      grind
    · rw [up_ne _ _ hqk, up_ne _ _ hqk, up_ne _ _ hqk, mi_up_ne _ _ hqk, mi_up_ne _ _ hqk, mi_up_ne _ _ hqk]
      rw [det_lin m (mi B q) _ a b (fun x => c (x + 1)) (fun x => e (x + 1)) (by split <;> omega)]
      grind
theorem det_adj : ∀ (m : Nat) (B : Mx) (k : Nat), k + 1 < m → B k = B (k + 1) → det m B = 0
  | 0, _, _, h, _ => by omega
  | m + 1, B, k, h, e => by
    unfold det
    rw [sg_two (k := k) (l := k + 1) (by omega) (by omega) (by omega) fun q hq h1 h2 => ?_]
    · have em : mi B k = mi B (k + 1) := by
        funext p x
        unfold mi sk
        by_cases h1 : p < k
        · rw [if_pos h1, if_pos (by omega)]
        · rw [if_neg h1]
          by_cases h2 : p = k
          · subst h2; rw [if_pos (by omega), e]
          · rw [if_neg (by omega)]
      rw [em, sgn_succ, e]
      grind
    · have : det m (mi B q) = 0 := by
        by_cases h3 : q < k
        · refine det_adj m (mi B q) (k - 1) (by omega) ?_
          funext x
          unfold mi sk
          rw [if_neg (by omega), if_neg (by omega)]
          rw [show k - 1 + 1 = k by omega, e]
        · refine det_adj m (mi B q) k (by omega) ?_
          funext x
          unfold mi sk
          rw [if_pos (by omega), if_pos (by omega), e]
      rw [this, Int.mul_zero]
theorem det_swapA (m : Nat) (B : Mx) (k : Nat) (h : k + 1 < m) (c e : Nat → Int) : det m (up (up B k c) (k + 1) e) = -det m (up (up B k e) (k + 1) c) := by
  have hk : k ≠ k + 1 := by omega
  have z : ∀ f : Nat → Int, det m (up (up B k f) (k + 1) f) = 0 := fun f => det_adj m _ k h (by rw [up_ne _ _ hk, up_same, up_same])
  have h1 := z fun x => 1 * c x + 1 * e x
  rw [det_lin m _ (k + 1) 1 1 c e h] at h1
  rw [up_comm _ _ _ hk, up_comm _ _ _ hk, det_lin m _ k 1 1 c e (by omega), det_lin m _ k 1 1 c e (by omega)] at h1
  rw [← up_comm _ _ _ hk, ← up_comm _ _ _ hk, ← up_comm _ _ _ hk, ← up_comm _ _ _ hk] at h1
  have z1 := z c
  have z2 := z e
  omega
/-- two equal columns -/
theorem det_alt (m : Nat) : ∀ (n : Nat) (B : Mx) (i k : Nat), k = i + 1 + n → k < m → B i = B k → det m B = 0
  | 0, B, i, k, hk, hm, e => by subst hk; exact det_adj m B i hm e
  | n + 1, B, i, k, hk, hm, e => by
    subst hk
    -- swap the columns ahead of k and k
    have e1 : B = up (up B (i + 1 + n) (B (i + 1 + n))) (i + 1 + n + 1) (B (i + 1 + n + 1)) := by rw [up_self, up_self]
    rw [show i + 1 + (n + 1) = i + 1 + n + 1 by omega] at e hm
    rw [e1, det_swapA m B (i + 1 + n) hm, det_alt m n _ i (i + 1 + n) rfl (by omega)]
    · rfl
    · rw [up_ne _ _ (by omega), up_ne _ _ (by omega), up_ne _ _ (by omega), up_same, e]
theorem det_eq0 {m : Nat} {B : Mx} {i k : Nat} (hi : i < m) (hk : k < m) (h : i ≠ k) (e : B i = B k) : det m B = 0 := by
  by_cases hlt : i < k
  · exact det_alt m (k - i - 1) B i k (by omega) hk e
  · exact det_alt m (i - k - 1) B k i (by omega) hi e.symm
theorem det_swap {m : Nat} {B : Mx} {i k : Nat} (hi : i < m) (hk : k < m) (h : i ≠ k) (c e : Nat → Int) : det m (up (up B i c) k e) = -det m (up (up B i e) k c) := by
  have z : ∀ f : Nat → Int, det m (up (up B i f) k f) = 0 := fun f => det_eq0 hi hk h (by rw [up_ne _ _ h, up_same, up_same])
  have h1 := z fun x => 1 * c x + 1 * e x
  rw [det_lin m _ k 1 1 c e hk] at h1
  rw [up_comm _ _ _ h, up_comm _ _ _ h, det_lin m _ i 1 1 c e hi, det_lin m _ i 1 1 c e hi] at h1
  rw [← up_comm _ _ _ h, ← up_comm _ _ _ h, ← up_comm _ _ _ h, ← up_comm _ _ _ h] at h1
  have z1 := z c
  have z2 := z e
  omega
/-- a column that is a sum -/
theorem det_sum (m : Nat) (B : Mx) (k : Nat) (hk : k < m) : ∀ (n : Nat) (a : Nat → Int) (E : Mx), det m (up B k fun x => sg n fun q => a q * E q x) = sg n fun q => a q * det m (up B k (E q))
  | 0, a, E => by
    have := det_lin m B k 0 0 (fun _ => 0) (fun _ => 0) hk
    simp at this
    simpa [sg] using this
  | n + 1, a, E => by
    have := det_lin m B k 1 (a n) (fun x => sg n fun q => a q * E q x) (E n) hk
    simp only [Int.one_mul] at this
    show det m (up B k fun x => sg n (fun q => a q * E q x) + a n * E n x) = sg n (fun q => a q * det m (up B k (E q))) + a n * det m (up B k (E n))
    rw [this, det_sum m B k hk n a E]
/-- the identity -/
def idM : Mx := fun q x => if q = x then 1 else 0
theorem det_id : ∀ m : Nat, det m idM = 1
  | 0 => rfl
  | m + 1 => by
    unfold det
    rw [sg_one (k := 0) (by omega) fun q hq hn => by unfold idM; rw [if_neg hn]; simp]
    have : det m (mi idM 0) = det m idM := det_congr m fun q hq x hx => by
      unfold mi sk idM
      simp
    rw [this, det_id m]
    rfl
end LP

set_option Elab.async false
set_option linter.all false
set_option maxRecDepth 100000
set_option maxHeartbeats 4000000
/-! LP2: the tableau, what one exchange keeps. -/
namespace LP
/-- what is asked: C's columns below n are the matrix, then m unit columns, then the right side; d the costs -/
structure Pr where
  m : Nat
  n : Nat
  C : Mx
  d : Nat → Int
def Pr.w (P : Pr) : Nat := P.n + P.m + 1
structure Tb where
  T : Nat → Nat → Int
  c : Nat → Int
  s : Int
  β : Nat → Nat
def bas (P : Pr) (β : Nat → Nat) : Mx := fun q => P.C (β q)
structure Inv (P : Pr) (t : Tb) : Prop where
  sp : 0 < t.s
  sd : t.s = det P.m (bas P t.β)
  td : ∀ k, k < P.m → ∀ l, l < P.w → t.T k l = det P.m (up (bas P t.β) k (P.C l))
  cr : ∀ l, l < P.w → ∀ x, x < P.m → sg P.m (fun q => t.T q l * bas P t.β q x) = t.s * P.C l x
  co : ∀ l, l < P.w → t.c l = t.s * P.d l - sg P.m (fun q => P.d (t.β q) * t.T q l)
  rh : ∀ q, q < P.m → 0 ≤ t.T q (P.n + P.m)
  bl : ∀ q, q < P.m → t.β q < P.n + P.m
def setB (β : Nat → Nat) (i j : Nat) : Nat → Nat := fun q => if q = i then j else β q
def ex (t : Tb) (i j : Nat) : Tb where
  T := fun k l => if k = i then t.T i l else (t.T i j * t.T k l - t.T k j * t.T i l) / t.s
  c := fun l => (t.T i j * t.c l - t.c j * t.T i l) / t.s
  s := t.T i j
  β := setB t.β i j
theorem bas_set (P : Pr) (β : Nat → Nat) (i j : Nat) : bas P (setB β i j) = up (bas P β) i (P.C j) := by
  funext q
  unfold bas setB up
  split <;> rfl
section
variable {P : Pr} {t : Tb}
/-- the division is exact -/
theorem exact_T (h : Inv P t) {i k j l : Nat} (hi : i < P.m) (hk : k < P.m) (hki : k ≠ i) (hj : j < P.w) (hl : l < P.w) :
    t.T i j * t.T k l - t.T k j * t.T i l = t.s * det P.m (up (up (bas P t.β) i (P.C j)) k (P.C l)) := by
  have e1 : t.s * det P.m (up (up (bas P t.β) i (P.C j)) k (P.C l)) = det P.m (up (up (bas P t.β) k (P.C l)) i fun x => sg P.m fun q => t.T q j * bas P t.β q x) := by
    rw [up_comm _ _ _ (Ne.symm hki)]
    have := det_lin P.m (up (bas P t.β) k (P.C l)) i t.s 0 (P.C j) (P.C j) hi
    simp only [Int.zero_mul, Int.add_zero] at this
    rw [← this]
    refine det_congr _ fun q hq x hx => ?_
    by_cases hqi : q = i
    · subst hqi; rw [up_same, up_same, h.cr j hj x hx]
    · rw [up_ne _ _ hqi, up_ne _ _ hqi]
  rw [e1, det_sum _ _ _ hi]
  rw [sg_two (k := i) (l := k) hi hk (Ne.symm hki) fun q hq h1 h2 => ?_]
  · have a1 : up (up (bas P t.β) k (P.C l)) i (bas P t.β i) = up (bas P t.β) k (P.C l) := by
      rw [up_comm _ _ _ hki, up_self]
    have a2 : det P.m (up (up (bas P t.β) k (P.C l)) i (bas P t.β k)) = -det P.m (up (bas P t.β) i (P.C l)) := by
      rw [det_swap hk hi hki, up_self]
    rw [a1, a2, ← h.td k hk l hl, ← h.td i hi l hl]
    grind
  · have : det P.m (up (up (bas P t.β) k (P.C l)) i (bas P t.β q)) = 0 := det_eq0 hi hq (Ne.symm h1) (by rw [up_same, up_ne _ _ h1, up_ne _ _ h2])
    rw [this, Int.mul_zero]
theorem div_of {a s b : Int} (hs : 0 < s) (h : a = s * b) : a / s = b := by rw [h]; exact Int.mul_ediv_cancel_left b (by omega)
theorem ex_T (h : Inv P t) {i k j l : Nat} (hi : i < P.m) (hk : k < P.m) (hki : k ≠ i) (hj : j < P.w) (hl : l < P.w) :
    (ex t i j).T k l = det P.m (up (up (bas P t.β) i (P.C j)) k (P.C l)) ∧ t.s * (ex t i j).T k l = t.T i j * t.T k l - t.T k j * t.T i l := by
  have e := exact_T h hi hk hki hj hl
  have e2 : (ex t i j).T k l = det P.m (up (up (bas P t.β) i (P.C j)) k (P.C l)) := by
    show (if k = i then t.T i l else (t.T i j * t.T k l - t.T k j * t.T i l) / t.s) = _
    rw [if_neg hki]
    exact div_of h.sp e
  exact ⟨e2, by rw [e2, e]⟩
theorem ex_Ti (i j l : Nat) : (ex t i j).T i l = t.T i l := by
  show (if i = i then _ else _) = _
  rw [if_pos rfl]
/-- sums over all rows but one -/
theorem sg_split {n i : Nat} (hi : i < n) (f : Nat → Int) : sg n f = f i + sg n (fun q => if q = i then 0 else f q) := by
  have e : sg n f = sg n (fun q => (if q = i then f q else 0) + if q = i then 0 else f q) := sg_congr fun q _ => by split <;> simp
  rw [e, sg_add, sg_one hi fun q _ hn => by rw [if_neg hn], if_pos rfl]
theorem T_base (h : Inv P t) {i k : Nat} (hi : i < P.m) (hk : k < P.m) : t.T i (t.β k) = if i = k then t.s else 0 := by
  have hw : t.β k < P.w := by have := h.bl k hk; unfold Pr.w; omega
  rw [h.td i hi _ hw]
  by_cases e : i = k
  · subst e
    rw [if_pos rfl, h.sd]
    show det P.m (up (bas P t.β) i (bas P t.β i)) = _
    rw [up_self]
  · rw [if_neg e]
    exact det_eq0 hi hk e (by rw [up_same, up_ne _ _ (Ne.symm e)]; rfl)
theorem c_base (h : Inv P t) {k : Nat} (hk : k < P.m) : t.c (t.β k) = 0 := by
  have hw : t.β k < P.w := by have := h.bl k hk; unfold Pr.w; omega
  rw [h.co _ hw, sg_one hk fun q hq hn => by rw [T_base h hq hk, if_neg hn, Int.mul_zero], T_base h hk hk, if_pos rfl]
  grind
/-- the costs after an exchange -/
theorem ex_c (h : Inv P t) {i j l : Nat} (hi : i < P.m) (hj : j < P.w) (hl : l < P.w) :
    (ex t i j).c l = (ex t i j).s * P.d l - sg P.m (fun q => P.d ((ex t i j).β q) * (ex t i j).T q l) ∧ t.s * (ex t i j).c l = t.T i j * t.c l - t.c j * t.T i l := by
  have key : t.T i j * t.c l - t.c j * t.T i l = t.s * (t.T i j * P.d l - sg P.m (fun q => P.d ((ex t i j).β q) * (ex t i j).T q l)) := by
    rw [h.co l hl, h.co j hj]
    rw [sg_split hi fun q => P.d (t.β q) * t.T q l, sg_split hi fun q => P.d (t.β q) * t.T q j, sg_split hi fun q => P.d ((ex t i j).β q) * (ex t i j).T q l]
    rw [ex_Ti, show (ex t i j).β i = j by show (if i = i then j else _) = j; rw [if_pos rfl]]
    have e1 : t.s * sg P.m (fun q => if q = i then 0 else P.d ((ex t i j).β q) * (ex t i j).T q l) = t.T i j * sg P.m (fun q => if q = i then 0 else P.d (t.β q) * t.T q l) + (-t.T i l) * sg P.m (fun q => if q = i then 0 else P.d (t.β q) * t.T q j) := by
      rw [← sg_mul, ← sg_mul, ← sg_mul, ← sg_add]
      refine sg_congr fun q hq => ?_
      by_cases hqi : q = i
      · rw [if_pos hqi, if_pos hqi, if_pos hqi]; simp
      · rw [if_neg hqi, if_neg hqi, if_neg hqi]
        have e2 := (ex_T h hi hq hqi hj hl).2
        have e3 : (ex t i j).β q = t.β q := by show (if q = i then j else t.β q) = _; rw [if_neg hqi]
        rw [e3]
        have : t.s * (P.d (t.β q) * (ex t i j).T q l) = P.d (t.β q) * (t.s * (ex t i j).T q l) := by grind
        rw [this, e2]
        grind
    generalize sg P.m (fun q => if q = i then 0 else P.d ((ex t i j).β q) * (ex t i j).T q l) = A at *
    generalize sg P.m (fun q => if q = i then 0 else P.d (t.β q) * t.T q l) = B at *
    generalize sg P.m (fun q => if q = i then 0 else P.d (t.β q) * t.T q j) = D at *
    grind
  have e2 : (ex t i j).c l = t.T i j * P.d l - sg P.m (fun q => P.d ((ex t i j).β q) * (ex t i j).T q l) := div_of h.sp key
  exact ⟨e2, by rw [e2, key]⟩
/-- Cramer's rule after an exchange -/
theorem ex_cr (h : Inv P t) {i j l : Nat} (hi : i < P.m) (hj : j < P.w) (hl : l < P.w) {x : Nat} (hx : x < P.m) :
    sg P.m (fun q => (ex t i j).T q l * bas P (ex t i j).β q x) = (ex t i j).s * P.C l x := by
  have e0 : bas P (ex t i j).β = up (bas P t.β) i (P.C j) := bas_set P t.β i j
  have c1 := h.cr l hl x hx
  have c2 := h.cr j hj x hx
  rw [sg_split hi] at c1 c2
  rw [sg_split hi, ex_Ti, e0, up_same]
  have e1 : t.s * sg P.m (fun q => if q = i then 0 else (ex t i j).T q l * up (bas P t.β) i (P.C j) q x) = t.T i j * sg P.m (fun q => if q = i then 0 else t.T q l * bas P t.β q x) + (-t.T i l) * sg P.m (fun q => if q = i then 0 else t.T q j * bas P t.β q x) := by
    rw [← sg_mul, ← sg_mul, ← sg_mul, ← sg_add]
    refine sg_congr fun q hq => ?_
    by_cases hqi : q = i
    · rw [if_pos hqi, if_pos hqi, if_pos hqi]; simp
    · rw [if_neg hqi, if_neg hqi, if_neg hqi, up_ne _ _ hqi]
      have e2 := (ex_T h hi hq hqi hj hl).2
      have : t.s * ((ex t i j).T q l * bas P t.β q x) = (t.s * (ex t i j).T q l) * bas P t.β q x := by grind
      rw [this, e2]
      grind
  have hs := h.sp
  refine Int.eq_of_mul_eq_mul_left (a := t.s) (by omega) ?_
  show t.s * (t.T i l * P.C j x + _) = t.s * (t.T i j * P.C l x)
  rw [Int.mul_add, e1]
  generalize sg P.m (fun q => if q = i then 0 else t.T q l * bas P t.β q x) = A at *
  generalize sg P.m (fun q => if q = i then 0 else t.T q j * bas P t.β q x) = B at *
  grind
/-- one exchange keeps all -/
theorem inv_ex (h : Inv P t) {i j : Nat} (hi : i < P.m) (hj : j < P.n + P.m) (hp : 0 < t.T i j) (hr : ∀ k, k < P.m → 0 < t.T k j → t.T i (P.n + P.m) * t.T k j ≤ t.T k (P.n + P.m) * t.T i j) : Inv P (ex t i j) := by
  have hjw : j < P.w := by unfold Pr.w; omega
  have hrw : P.n + P.m < P.w := by unfold Pr.w; omega
  refine ⟨hp, ?_, fun k hk l hl => ?_, fun l hl x hx => ex_cr h hi hjw hl hx, fun l hl => (ex_c h hi hjw hl).1, fun q hq => ?_, fun q hq => ?_⟩
  · show t.T i j = _
    rw [h.td i hi j hjw]
    show _ = det P.m (bas P (setB t.β i j))
    rw [bas_set]
  · show _ = det P.m (up (bas P (setB t.β i j)) k (P.C l))
    rw [bas_set]
    by_cases hki : k = i
    · subst hki
      rw [ex_Ti, up_up, h.td k hk l hl]
    · exact (ex_T h hi hk hki hjw hl).1
  · by_cases hqi : q = i
    · subst hqi; rw [ex_Ti]; exact h.rh q hq
    · have e2 := (ex_T h hi hq hqi hjw hrw).2
      have hs := h.sp
      have h0 : 0 ≤ t.T i j * t.T q (P.n + P.m) - t.T q j * t.T i (P.n + P.m) := by
        by_cases hqj : 0 < t.T q j
        · have := hr q hq hqj
          have c1 : t.T i (P.n + P.m) * t.T q j = t.T q j * t.T i (P.n + P.m) := Int.mul_comm _ _
          have c2 : t.T q (P.n + P.m) * t.T i j = t.T i j * t.T q (P.n + P.m) := Int.mul_comm _ _
          omega
        · have h1 : 0 ≤ t.T i j * t.T q (P.n + P.m) := Int.mul_nonneg (by omega) (h.rh q hq)
          have h2 : t.T q j * t.T i (P.n + P.m) ≤ 0 := Int.mul_nonpos_of_nonpos_of_nonneg (by omega) (h.rh i hi)
          omega
      rw [← e2] at h0
      exact Int.nonneg_of_mul_nonneg_right h0 hs
  · show (if q = i then j else t.β q) < _
    split
    · exact hj
    · exact h.bl q hq
end
end LP

set_option Elab.async false
set_option linter.all false
set_option maxRecDepth 100000
set_option maxHeartbeats 4000000
/-! LP3: Bland's rule comes to an end. -/
namespace LP
section
variable {P : Pr}
/-- the entry as a linear form of its column -/
theorem T_lin {t : Tb} (h : Inv P t) {k l : Nat} (hk : k < P.m) (hl : l < P.w) : t.T k l = sg P.m fun x => P.C l x * det P.m (up (bas P t.β) k (idM x)) := by
  rw [h.td k hk l hl, ← det_sum _ _ _ hk]
  refine det_congr _ fun q hq x hx => ?_
  by_cases hqk : q = k
  · subst hqk
    rw [up_same, up_same, sg_one hx fun i hi hn => by unfold idM; rw [if_neg hn]; simp]
    unfold idM
    rw [if_pos rfl]; simp
  · rw [up_ne _ _ hqk, up_ne _ _ hqk]
def piv (P : Pr) (t : Tb) (x : Nat) : Int := sg P.m fun q => P.d (t.β q) * det P.m (up (bas P t.β) q (idM x))
theorem c_lin {t : Tb} (h : Inv P t) {l : Nat} (hl : l < P.w) : t.c l = t.s * P.d l - sg P.m fun x => P.C l x * piv P t x := by
  rw [h.co l hl]
  congr 1
  have e1 : sg P.m (fun q => P.d (t.β q) * t.T q l) = sg P.m fun q => sg P.m fun x => P.d (t.β q) * (P.C l x * det P.m (up (bas P t.β) q (idM x))) := sg_congr fun q hq => by
    rw [T_lin h hq hl, sg_mul]
  rw [e1, sg_swap]
  refine sg_congr fun x hx => ?_
  unfold piv
  rw [← sg_mul]
  exact sg_congr fun q hq => by grind
/-- the costs of one table by the columns of another -/
theorem cost_id {t u : Tb} (h : Inv P t) (hu : Inv P u) {l : Nat} (hl : l < P.w) : t.s * u.c l = u.s * t.c l + sg P.m fun q => t.T q l * u.c (t.β q) := by
  have e1 : sg P.m (fun q => t.T q l * u.c (t.β q)) = u.s * sg P.m (fun q => P.d (t.β q) * t.T q l) + (-1) * sg P.m fun x => piv P u x * (t.s * P.C l x) := by
    have a1 : sg P.m (fun x => piv P u x * (t.s * P.C l x)) = sg P.m fun q => sg P.m fun x => t.T q l * (P.C (t.β q) x * piv P u x) := by
      rw [sg_swap]
      refine sg_congr fun x hx => ?_
      rw [← h.cr l hl x hx, ← sg_mul]
      exact sg_congr fun q hq => by show piv P u x * (t.T q l * P.C (t.β q) x) = _; grind
    rw [a1, ← sg_mul, ← sg_mul, ← sg_add]
    refine sg_congr fun q hq => ?_
    have hw : t.β q < P.w := by have := h.bl q hq; unfold Pr.w; omega
    rw [c_lin hu hw, sg_mul]
    grind
  have e2 : sg P.m (fun x => piv P u x * (t.s * P.C l x)) = t.s * sg P.m fun x => P.C l x * piv P u x := by
    rw [← sg_mul]
    exact sg_congr fun x hx => by grind
  rw [e1, e2, c_lin hu hl, h.co l hl]
  generalize sg P.m (fun x => P.C l x * piv P u x) = A
  generalize sg P.m (fun q => P.d (t.β q) * t.T q l) = B
  grind
theorem sg_pos {n : Nat} {f : Nat → Int} (h : 0 < sg n f) : ∃ i, i < n ∧ 0 < f i := by
  induction n with
  | zero => exact absurd h (by simp [sg])
  | succ n ih =>
    by_cases hn : 0 < f n
    · exact ⟨n, by omega, hn⟩
    · have : 0 < sg n f := by unfold sg at h; omega
      obtain ⟨i, hi, h⟩ := ih this
      exact ⟨i, by omega, h⟩
theorem b_inj {t : Tb} (h : Inv P t) {i k : Nat} (hi : i < P.m) (hk : k < P.m) (e : t.β i = t.β k) : i = k := by
  apply Classical.byContradiction
  intro hn
  have h1 := T_base h hi hk
  have h2 := T_base h hi hi
  rw [if_neg hn] at h1
  rw [if_pos rfl, e, h1] at h2
  have := h.sp
  omega
/-- one step of Bland's rule -/
structure Stp (P : Pr) (t : Tb) (i j : Nat) : Prop where
  jn : j < P.n
  cj : t.c j < 0
  fst : ∀ l, l < j → 0 ≤ t.c l
  im : i < P.m
  pos : 0 < t.T i j
  rat : ∀ k, k < P.m → 0 < t.T k j → t.T i (P.n + P.m) * t.T k j ≤ t.T k (P.n + P.m) * t.T i j
  tie : ∀ k, k < P.m → 0 < t.T k j → t.T i (P.n + P.m) * t.T k j = t.T k (P.n + P.m) * t.T i j → t.β i ≤ t.β k
theorem Stp.inv {t : Tb} {i j : Nat} (h : Inv P t) (s : Stp P t i j) : Inv P (ex t i j) := inv_ex h s.im (by have := s.jn; omega) s.pos s.rat
def inB (P : Pr) (t : Tb) (v : Nat) : Prop := ∃ q, q < P.m ∧ t.β q = v
/-- a row of steps without an end -/
structure Run (P : Pr) where
  t : Nat → Tb
  i : Nat → Nat
  j : Nat → Nat
  h0 : Inv P (t 0)
  st : ∀ r, Stp P (t r) (i r) (j r)
  nx : ∀ r, t (r + 1) = ex (t r) (i r) (j r)
variable (R : Run P)
theorem Run.inv (R : Run P) : ∀ r, Inv P (R.t r)
  | 0 => R.h0
  | r + 1 => by rw [R.nx]; exact (R.st r).inv (Run.inv R r)
theorem Run.beta (r q : Nat) : (R.t (r + 1)).β q = if q = R.i r then R.j r else (R.t r).β q := by rw [R.nx]; rfl
theorem rhs_lt : P.n + P.m < P.w := by unfold Pr.w; omega
theorem Run.j_lt (r : Nat) : R.j r < P.w := by have := (R.st r).jn; unfold Pr.w; omega
/-- the worth never falls -/
theorem Run.up1 (r : Nat) : (R.t (r + 1)).c (P.n + P.m) * (R.t r).s = (R.t r).c (P.n + P.m) * (R.t (r + 1)).s + (-(R.t r).c (R.j r)) * (R.t r).T (R.i r) (P.n + P.m) := by
  have e := (ex_c (R.inv r) (R.st r).im (R.j_lt r) rhs_lt).2
  have es : (R.t (r + 1)).s = (R.t r).T (R.i r) (R.j r) := by rw [R.nx]; rfl
  rw [es]
  rw [← R.nx r] at e
  grind
theorem Run.upr (r : Nat) : (R.t r).c (P.n + P.m) * (R.t (r + 1)).s ≤ (R.t (r + 1)).c (P.n + P.m) * (R.t r).s := by
  rw [R.up1 r]
  have h1 := (R.st r).cj
  have h2 := (R.inv r).rh _ (R.st r).im
  have := Int.mul_nonneg (show 0 ≤ -(R.t r).c (R.j r) by omega) h2
  omega
theorem Run.ups (R : Run P) (a : Nat) : ∀ k, (R.t a).c (P.n + P.m) * (R.t (a + k)).s ≤ (R.t (a + k)).c (P.n + P.m) * (R.t a).s
  | 0 => Int.le_refl _
  | k + 1 => by
    have ih := Run.ups R a k
    have h1 := R.upr (a + k)
    have p0 := (R.inv a).sp
    have p1 := (R.inv (a + k)).sp
    have p2 := (R.inv (a + k + 1)).sp
    show (R.t a).c (P.n + P.m) * (R.t (a + k + 1)).s ≤ (R.t (a + k + 1)).c (P.n + P.m) * (R.t a).s
    have m1 := Int.mul_le_mul_of_nonneg_right ih (Int.le_of_lt p2)
    have m2 := Int.mul_le_mul_of_nonneg_right h1 (Int.le_of_lt p0)
    refine Int.le_of_mul_le_mul_right (a := (R.t (a + k)).s) ?_ p1
    generalize (R.t a).c (P.n + P.m) = A at *
    generalize (R.t (a + k)).c (P.n + P.m) = B at *
    generalize (R.t (a + k + 1)).c (P.n + P.m) = D at *
    generalize (R.t a).s = x at *
    generalize (R.t (a + k)).s = y at *
    generalize (R.t (a + k + 1)).s = z at *
    have e1 : A * z * y = A * y * z := by grind
    have e2 : D * x * y = D * y * x := by grind
    have e3 : B * x * z = B * z * x := by grind
    omega
/-- a table is told by its base -/
theorem same_base {t u : Tb} (h : Inv P t) (hu : Inv P u) (e : ∀ q, q < P.m → t.β q = u.β q) : t.s = u.s ∧ (∀ k, k < P.m → ∀ l, l < P.w → t.T k l = u.T k l) ∧ ∀ l, l < P.w → t.c l = u.c l := by
  have hs : t.s = u.s := by
    rw [h.sd, hu.sd]
    exact det_congr _ fun q hq x _ => by unfold bas; rw [e q hq]
  have hT : ∀ k, k < P.m → ∀ l, l < P.w → t.T k l = u.T k l := fun k hk l hl => by
    rw [h.td k hk l hl, hu.td k hk l hl]
    refine det_congr _ fun q hq x _ => ?_
    by_cases hqk : q = k
    · subst hqk; rw [up_same, up_same]
    · rw [up_ne _ _ hqk, up_ne _ _ hqk]; unfold bas; rw [e q hq]
  refine ⟨hs, hT, fun l hl => ?_⟩
  rw [h.co l hl, hu.co l hl, hs]
  congr 1
  exact sg_congr fun q hq => by rw [e q hq, hT q hq l hl]
theorem Run.stay {r v : Nat} (h : inB P (R.t r) v) (hn : (R.t r).β (R.i r) ≠ v) : inB P (R.t (r + 1)) v := by
  obtain ⟨q, hq, e⟩ := h
  refine ⟨q, hq, ?_⟩
  rw [R.beta, if_neg fun z => hn (by rw [← z]; exact e)]
  exact e
theorem Run.out {r v : Nat} (h : ¬ inB P (R.t r) v) (hn : R.j r ≠ v) : ¬ inB P (R.t (r + 1)) v := fun ⟨q, hq, e⟩ => by
  rw [R.beta] at e
  split at e
  · exact hn e
  · exact h ⟨q, hq, e⟩
theorem Run.no_cycle {a k : Nat} (hk : 0 < k) (e : ∀ q, q < P.m → (R.t a).β q = (R.t (a + k)).β q) : False := by
  have sb := same_base (R.inv a) (R.inv (a + k)) e
  have inBe : ∀ v, inB P (R.t a) v ↔ inB P (R.t (a + k)) v := fun v => ⟨fun ⟨q, hq, h⟩ => ⟨q, hq, by rw [← e q hq]; exact h⟩, fun ⟨q, hq, h⟩ => ⟨q, hq, by rw [e q hq]; exact h⟩⟩
  -- every exchanged row has right side 0
  have zero : ∀ x, x < k → (R.t (a + x)).T (R.i (a + x)) (P.n + P.m) = 0 := fun x hx => by
    apply Classical.byContradiction
    intro hne
    have p0 := (R.inv a).sp
    have px := (R.inv (a + x)).sp
    have px1 := (R.inv (a + x + 1)).sp
    have pk := (R.inv (a + k)).sp
    have h1 := R.ups a x
    have h2 := R.up1 (a + x)
    have h3 := R.ups (a + x + 1) (k - x - 1)
    rw [show a + x + 1 + (k - x - 1) = a + k by omega] at h3
    have h4 : 0 < (-(R.t (a + x)).c (R.j (a + x))) * (R.t (a + x)).T (R.i (a + x)) (P.n + P.m) := Int.mul_pos (by have := (R.st (a + x)).cj; omega) (by have := (R.inv (a + x)).rh _ (R.st (a + x)).im; omega)
    have h5 : (R.t a).c (P.n + P.m) * (R.t (a + k)).s = (R.t (a + k)).c (P.n + P.m) * (R.t a).s := by rw [sb.2.2 _ rhs_lt, sb.1]
    generalize (-(R.t (a + x)).c (R.j (a + x))) * (R.t (a + x)).T (R.i (a + x)) (P.n + P.m) = G at *
    generalize (R.t a).c (P.n + P.m) = c0 at *
    generalize (R.t (a + x)).c (P.n + P.m) = c1 at *
    generalize (R.t (a + x + 1)).c (P.n + P.m) = c2 at *
    generalize (R.t (a + k)).c (P.n + P.m) = c3 at *
    generalize (R.t a).s = s0 at *
    generalize (R.t (a + x)).s = s1 at *
    generalize (R.t (a + x + 1)).s = s2 at *
    generalize (R.t (a + k)).s = s3 at *
    -- c0 s1 ≤ c1 s0, c2 s1 = c1 s2 + G, c2 s3 ≤ c3 s2, c0 s3 = c3 s0
    have m1 := Int.mul_le_mul_of_nonneg_right h1 (Int.le_of_lt (Int.mul_pos px1 pk))
    have m3 := Int.mul_le_mul_of_nonneg_right h3 (Int.le_of_lt (Int.mul_pos p0 px))
    have m4 : 0 < G * (s0 * s3) := Int.mul_pos h4 (Int.mul_pos p0 pk)
    have e1 : c0 * s1 * (s2 * s3) = (c0 * s3) * (s1 * s2) := by grind
    have e2 : c1 * s0 * (s2 * s3) = (c1 * s2) * (s0 * s3) := by grind
    have e3 : c2 * s3 * (s0 * s1) = (c2 * s1) * (s0 * s3) := by grind
    have e4 : c3 * s2 * (s0 * s1) = (c3 * s0) * (s1 * s2) := by grind
    have e5 : (c2 * s1) * (s0 * s3) = (c1 * s2) * (s0 * s3) + G * (s0 * s3) := by rw [h2]; grind
    rw [← h5] at e4
    omega
  -- a row whose right side is 0 keeps it
  have keep : ∀ q, q < P.m → ∀ x, x ≤ k → ((R.t (a + x)).T q (P.n + P.m) = 0 ↔ (R.t a).T q (P.n + P.m) = 0) := fun q hq x => by
    induction x with
    | zero => intro _; exact Iff.rfl
    | succ x ih =>
      intro hx
      rw [← ih (by omega)]
      show (R.t (a + x + 1)).T q (P.n + P.m) = 0 ↔ _
      by_cases hqi : q = R.i (a + x)
      · rw [R.nx, hqi, ex_Ti]
      · have e2 := (ex_T (R.inv (a + x)) (R.st (a + x)).im hq hqi (R.j_lt (a + x)) rhs_lt).2
        rw [← R.nx, zero x (by omega), Int.mul_zero, Int.sub_zero] at e2
        have p1 := (R.inv (a + x)).sp
        have p2 := (R.st (a + x)).pos
        constructor
        · intro h
          rw [h, Int.mul_zero] at e2
          rcases Int.mul_eq_zero.mp e2.symm with z | z
          · omega
          · exact z
        · intro h
          rw [h, Int.mul_zero] at e2
          rcases Int.mul_eq_zero.mp e2 with z | z
          · omega
          · exact z
  have moved : ∀ x, x < k → ∀ y, y ≤ k → (R.t (a + y)).T (R.i (a + x)) (P.n + P.m) = 0 := fun x hx y hy => by
    rw [keep _ (R.st (a + x)).im y hy, ← keep _ (R.st (a + x)).im x (by omega)]
    exact zero x hx
  -- the greatest that enters
  obtain ⟨y, hy, hmax⟩ : ∃ y, y < k ∧ ∀ x, x < k → R.j (a + x) ≤ R.j (a + y) := by
    have : ∀ n, 0 < n → ∃ y, y < n ∧ ∀ x, x < n → R.j (a + x) ≤ R.j (a + y) := by
      intro n
      induction n with
      | zero => omega
      | succ n ih =>
        intro _
        by_cases hn : n = 0
        · subst hn; exact ⟨0, by omega, fun x hx => by rw [show x = 0 by omega]; exact Nat.le_refl _⟩
        · obtain ⟨y, hy, h⟩ := ih (by omega)
          by_cases hc : R.j (a + y) ≤ R.j (a + n)
          · exact ⟨n, by omega, fun x hx => by
              by_cases hx' : x = n
              · subst hx'; exact Nat.le_refl _
              · exact Nat.le_trans (h x (by omega)) hc⟩
          · exact ⟨y, by omega, fun x hx => by
              by_cases hx' : x = n
              · subst hx'; omega
              · exact h x (by omega)⟩
    exact this k hk
  have nb : ¬ inB P (R.t (a + y)) (R.j (a + y)) := fun ⟨q, hq, h⟩ => by
    have h1 := c_base (R.inv (a + y)) hq
    rw [h] at h1
    have h2 := (R.st (a + y)).cj
    omega
  -- it leaves somewhere
  obtain ⟨x, hx, hleave⟩ : ∃ x, x < k ∧ (R.t (a + x)).β (R.i (a + x)) = R.j (a + y) := by
    apply Classical.byContradiction
    intro hno
    have hno : ∀ x, x < k → (R.t (a + x)).β (R.i (a + x)) ≠ R.j (a + y) := fun x hx z => hno ⟨x, hx, z⟩
    have f1 : ∀ z, y + 1 + z ≤ k → inB P (R.t (a + (y + 1 + z))) (R.j (a + y)) := fun z => by
      induction z with
      | zero =>
        intro _
        exact ⟨R.i (a + y), (R.st (a + y)).im, by show (R.t (a + y + 1)).β _ = _; rw [R.beta, if_pos rfl]⟩
      | succ z ih =>
        intro hz
        exact R.stay (ih (by omega)) (hno (y + 1 + z) (by omega))
    have f2 := (inBe _).mpr (by have := f1 (k - y - 1) (by omega); rw [show y + 1 + (k - y - 1) = k by omega] at this; exact this)
    have f3 : ∀ z, z ≤ k → inB P (R.t (a + z)) (R.j (a + y)) := fun z => by
      induction z with
      | zero => intro _; exact f2
      | succ z ih => intro hz; exact R.stay (ih (by omega)) (hno z (by omega))
    exact nb (f3 y (by omega))
  have Ix := R.inv (a + x)
  have Iy := R.inv (a + y)
  have Sx := R.st (a + x)
  have Sy := R.st (a + y)
  have hsne : R.j (a + x) ≠ R.j (a + y) := fun z => by
    have h1 := c_base Ix Sx.im
    rw [hleave, ← z] at h1
    have := Sx.cj
    omega
  have hslt : R.j (a + x) < R.j (a + y) := by have := hmax x hx; omega
  have hcs : 0 ≤ (R.t (a + y)).c (R.j (a + x)) := Sy.fst _ hslt
  have id1 := cost_id Ix Iy (R.j_lt (a + x))
  have hpos : 0 < sg P.m fun q => (R.t (a + x)).T q (R.j (a + x)) * (R.t (a + y)).c ((R.t (a + x)).β q) := by
    have q1 := Int.mul_nonneg (Int.le_of_lt Ix.sp) hcs
    have q2 := Int.mul_neg_of_pos_of_neg Iy.sp Sx.cj
    omega
  obtain ⟨r, hr, hrp⟩ := sg_pos hpos
  have hcv : (R.t (a + y)).c ((R.t (a + x)).β r) ≠ 0 := fun z => by rw [z, Int.mul_zero] at hrp; omega
  have nbv : ¬ inB P (R.t (a + y)) ((R.t (a + x)).β r) := fun ⟨q, hq, h⟩ => hcv (by rw [← h]; exact c_base Iy hq)
  -- its row is exchanged somewhere
  obtain ⟨z, hz, hzr⟩ : ∃ z, z < k ∧ R.i (a + z) = r := by
    apply Classical.byContradiction
    intro hno
    have con : ∀ z, z ≤ k → (R.t (a + z)).β r = (R.t a).β r := fun z => by
      induction z with
      | zero => intro _; rfl
      | succ z ih =>
        intro hz
        show (R.t (a + z + 1)).β r = _
        rw [R.beta, if_neg fun w => hno ⟨z, by omega, w.symm⟩, ih (by omega)]
    exact nbv ⟨r, hr, by rw [con y (by omega), con x (by omega)]⟩
  have rz : (R.t (a + x)).T r (P.n + P.m) = 0 := by rw [← hzr]; exact moved z hz x (by omega)
  have iz := zero x hx
  -- it enters somewhere
  obtain ⟨u, hu, huv⟩ : ∃ u, u < k ∧ R.j (a + u) = (R.t (a + x)).β r := by
    apply Classical.byContradiction
    intro hno
    have hno : ∀ u, u < k → R.j (a + u) ≠ (R.t (a + x)).β r := fun u hu z => hno ⟨u, hu, z⟩
    have f1 : ∀ z, y + z ≤ k → ¬ inB P (R.t (a + (y + z))) ((R.t (a + x)).β r) := fun z => by
      induction z with
      | zero => intro _; exact nbv
      | succ z ih => intro hz; exact R.out (ih (by omega)) (hno (y + z) (by omega))
    have f2 : ¬ inB P (R.t a) ((R.t (a + x)).β r) := fun w => by
      have := f1 (k - y) (by omega)
      rw [show y + (k - y) = k by omega] at this
      exact this ((inBe _).mp w)
    have f3 : ∀ z, z ≤ k → ¬ inB P (R.t (a + z)) ((R.t (a + x)).β r) := fun z => by
      induction z with
      | zero => intro _; exact f2
      | succ z ih => intro hz; exact R.out (ih (by omega)) (hno z (by omega))
    exact f3 x (by omega) ⟨r, hr, rfl⟩
  have hvle : (R.t (a + x)).β r ≤ R.j (a + y) := by rw [← huv]; exact hmax u hu
  have hvne : (R.t (a + x)).β r ≠ R.j (a + y) := fun w => by
    have : r = R.i (a + x) := b_inj Ix hr Sx.im (by rw [w, hleave])
    rw [w, this] at hrp
    have h1 := Sx.pos
    have h2 := Sy.cj
    have := Int.mul_neg_of_pos_of_neg h1 h2
    omega
  have hcv0 : 0 ≤ (R.t (a + y)).c ((R.t (a + x)).β r) := Sy.fst _ (by omega)
  have hTr : 0 < (R.t (a + x)).T r (R.j (a + x)) := by
    apply Classical.byContradiction
    intro hn
    have := Int.mul_nonpos_of_nonpos_of_nonneg (show (R.t (a + x)).T r (R.j (a + x)) ≤ 0 by omega) hcv0
    omega
  have := Sx.tie r hr hTr (by rw [iz, rz]; simp)
  rw [hleave] at this
  omega
end
end LP

set_option Elab.async false
set_option linter.all false
set_option maxRecDepth 100000
set_option maxHeartbeats 4000000
/-! LP4: an end is reached; what the end tells. -/
namespace LP
/-- a base as one number -/
def cod (W : Nat) : Nat → (Nat → Nat) → Nat
  | 0, _ => 0
  | m + 1, f => cod W m f * W + f m
theorem cod_lt {W : Nat} : ∀ {m : Nat} {f : Nat → Nat}, (∀ q, q < m → f q < W) → cod W m f < W ^ m
  | 0, _, _ => by simp [cod]
  | m + 1, f, h => by
    have h1 := cod_lt (W := W) (m := m) (f := f) fun q hq => h q (by omega)
    have h2 := h m (by omega)
    unfold cod
    rw [Nat.pow_succ]
    have : cod W m f * W + W ≤ W ^ m * W := by
      have : (cod W m f + 1) * W ≤ W ^ m * W := Nat.mul_le_mul_right W h1
      rw [Nat.add_mul, Nat.one_mul] at this
      exact this
    omega
theorem cod_inj {W : Nat} : ∀ {m : Nat} {f g : Nat → Nat}, (∀ q, q < m → f q < W) → (∀ q, q < m → g q < W) → cod W m f = cod W m g → ∀ q, q < m → f q = g q
  | 0, _, _, _, _, _, q, hq => by omega
  | m + 1, f, g, hf, hg, e, q, hq => by
    have a1 := hf m (by omega)
    have a2 := hg m (by omega)
    unfold cod at e
    have hW : 0 < W := by omega
    have e1 : f m = g m := by
      have := congrArg (· % W) e
      simp only [Nat.mul_add_mod_self_right, Nat.mod_eq_of_lt a1, Nat.mod_eq_of_lt a2] at this
      exact this
    have e2 : cod W m f = cod W m g := by
      rw [e1] at e
      exact Nat.eq_of_mul_eq_mul_right hW (by omega)
    by_cases hqm : q = m
    · rw [hqm]; exact e1
    · exact cod_inj (fun q hq => hf q (by omega)) (fun q hq => hg q (by omega)) e2 q (by omega)
theorem pigeon {N : Nat} (f : Nat → Nat) (h : ∀ r, r ≤ N → f r < N) : ∃ a b, a < b ∧ b ≤ N ∧ f a = f b := by
  apply Classical.byContradiction
  intro hno
  have nd : ((List.range (N + 1)).map f).Nodup := by
    rw [List.Nodup, List.pairwise_map]
    refine List.Pairwise.imp_of_mem (fun {a b} ha hb hab e => ?_) List.pairwise_lt_range
    exact hno ⟨a, b, hab, by have := List.mem_range.mp hb; omega, e⟩
  have := L2.nat_nodup_len _ (List.range N) nd fun x hx => by
    obtain ⟨r, hr, rfl⟩ := List.mem_map.mp hx
    exact List.mem_range.mpr (h r (by have := List.mem_range.mp hr; omega))
  rw [List.length_map, List.length_range, List.length_range] at this
  omega
theorem Run.absurd {P : Pr} (R : Run P) : False := by
  obtain ⟨a, b, hab, _, e⟩ := pigeon (N := (P.n + P.m) ^ P.m) (fun r => cod (P.n + P.m) P.m (R.t r).β) fun r _ => cod_lt (R.inv r).bl
  have e2 := cod_inj (R.inv a).bl (R.inv b).bl e
  refine R.no_cycle (a := a) (k := b - a) (by omega) ?_
  rw [show a + (b - a) = b by omega]
  exact e2
/-- a step is one only -/
theorem Stp.one {P : Pr} {t : Tb} (h : Inv P t) {i j i' j' : Nat} (s : Stp P t i j) (s' : Stp P t i' j') : i = i' ∧ j = j' := by
  have hj : j = j' := by
    rcases Nat.lt_trichotomy j j' with h1 | h1 | h1
    · have := s'.fst j h1; have := s.cj; omega
    · exact h1
    · have := s.fst j' h1; have := s'.cj; omega
  subst hj
  have r1 := s.rat i' s'.im s'.pos
  have r2 := s'.rat i s.im s.pos
  have e := Int.le_antisymm r1 r2
  have b1 := s.tie i' s'.im s'.pos e
  have b2 := s'.tie i s.im s.pos e.symm
  exact ⟨b_inj h s.im s'.im (by omega), rfl⟩
/-- no more than N steps from here -/
def Lim (P : Pr) : Nat → Tb → Prop
  | 0, t => ∀ i j, ¬ Stp P t i j
  | N + 1, t => ∀ i j, Stp P t i j → Lim P N (ex t i j)
theorem Lim.step {P : Pr} {N : Nat} {t : Tb} (h : ∀ i j, ¬ Stp P t i j) : Lim P N t := by
  cases N with
  | zero => exact h
  | succ N => exact fun i j s => absurd s (h i j)
theorem ends {P : Pr} {t : Tb} (h : Inv P t) : ∃ N, Lim P N t := by
  apply Classical.byContradiction
  intro hno
  -- a table without a bound goes on to one without a bound
  have go : ∀ u : {u : Tb // Inv P u ∧ ∀ N, ¬ Lim P N u}, ∃ ij : Nat × Nat, Stp P u.1 ij.1 ij.2 ∧ ∀ N, ¬ Lim P N (ex u.1 ij.1 ij.2) := by
    rintro ⟨u, hu, hn⟩
    have h0 := hn 0
    obtain ⟨i, j, s⟩ : ∃ i j, Stp P u i j := by
      apply Classical.byContradiction
      intro z
      exact h0 fun i j s => z ⟨i, j, s⟩
    refine ⟨(i, j), s, fun N hN => hn (N + 1) fun i' j' s' => ?_⟩
    obtain ⟨rfl, rfl⟩ := s.one hu s'
    exact hN
  let nx : {u : Tb // Inv P u ∧ ∀ N, ¬ Lim P N u} → {u : Tb // Inv P u ∧ ∀ N, ¬ Lim P N u} := fun u =>
    ⟨ex u.1 (Classical.choose (go u)).1 (Classical.choose (go u)).2, (Classical.choose_spec (go u)).1.inv u.2.1, (Classical.choose_spec (go u)).2⟩
  let seq : Nat → {u : Tb // Inv P u ∧ ∀ N, ¬ Lim P N u} := fun r => Nat.rec ⟨t, h, fun N hN => hno ⟨N, hN⟩⟩ (fun _ u => nx u) r
  exact Run.absurd (P := P) ⟨fun r => (seq r).1, fun r => (Classical.choose (go (seq r))).1, fun r => (Classical.choose (go (seq r))).2, h, fun r => (Classical.choose_spec (go (seq r))).1, fun r => rfl⟩
/-! ### what is told at the end -/
/-- the costs of the first phase: nothing for the matrix, one for each help, nothing for the right side -/
structure Ph (P : Pr) : Prop where
  d0 : ∀ l, l < P.n → P.d l = 0
  d1 : ∀ k, k < P.m → P.d (P.n + k) = 1
  dr : P.d (P.n + P.m) = 0
  un : ∀ k, k < P.m → ∀ x, x < P.m → P.C (P.n + k) x = if k = x then 1 else 0
variable {P : Pr} {t : Tb}
/-- where a cost is below nothing, some entry is above -/
theorem some_pos (ph : Ph P) (h : Inv P t) {j : Nat} (hj : j < P.n) (hc : t.c j < 0) : ∃ i, i < P.m ∧ 0 < t.T i j := by
  have hw : j < P.w := by unfold Pr.w; omega
  rw [h.co j hw, ph.d0 j hj] at hc
  have hp : 0 < sg P.m fun q => P.d (t.β q) * t.T q j := by omega
  obtain ⟨i, hi, h1⟩ := sg_pos hp
  refine ⟨i, hi, ?_⟩
  have hb := h.bl i hi
  by_cases hbn : t.β i < P.n
  · rw [ph.d0 _ hbn] at h1; simp at h1
  · have : t.β i = P.n + (t.β i - P.n) := by omega
    rw [this, ph.d1 _ (by omega)] at h1
    simpa using h1
theorem sg_nn0 {n : Nat} {f : Nat → Int} (h : ∀ i, i < n → 0 ≤ f i) (hs : sg n f = 0) : ∀ i, i < n → f i = 0 := by
  induction n with
  | zero => intro i hi; omega
  | succ n ih =>
    have nn : ∀ n : Nat, (∀ i, i < n → 0 ≤ f i) → 0 ≤ sg n f := fun n => by
      induction n with
      | zero => intro _; exact Int.le_refl 0
      | succ n ih2 => intro h; unfold sg; have := ih2 fun i hi => h i (by omega); have := h n (by omega); omega
    have h1 := nn n fun i hi => h i (by omega)
    have h2 := h n (by omega)
    unfold sg at hs
    intro i hi
    by_cases hin : i = n
    · subst hin; omega
    · exact ih (fun i hi => h i (by omega)) (by omega) i (by omega)
/-- found: the rows with bases of the matrix make the right side -/
theorem found (ph : Ph P) (h : Inv P t) (hc : t.c (P.n + P.m) = 0) : (∀ q, q < P.m → P.n ≤ t.β q → t.T q (P.n + P.m) = 0) ∧ ∀ x, x < P.m → sg P.m (fun q => t.T q (P.n + P.m) * P.C (t.β q) x) = t.s * P.C (P.n + P.m) x := by
  refine ⟨fun q hq hb => ?_, fun x hx => h.cr _ rhs_lt x hx⟩
  rw [h.co _ rhs_lt, ph.dr] at hc
  have hs : sg P.m (fun q => P.d (t.β q) * t.T q (P.n + P.m)) = 0 := by omega
  have := sg_nn0 (fun i hi => ?_) hs q hq
  · have hbl := h.bl q hq
    have e : t.β q = P.n + (t.β q - P.n) := by omega
    rw [e, ph.d1 _ (by omega)] at this
    simpa using this
  · have hbl := h.bl i hi
    have := h.rh i hi
    by_cases hbn : t.β i < P.n
    · rw [ph.d0 _ hbn]; simp
    · have e : t.β i = P.n + (t.β i - P.n) := by omega
      rw [e, ph.d1 _ (by omega)]; omega
/-- the costs by what is told: y k = s - c (n + k) -/
theorem told (ph : Ph P) (h : Inv P t) {l : Nat} (hl : l < P.w) : t.c l = t.s * P.d l - sg P.m fun x => (t.s - t.c (P.n + x)) * P.C l x := by
  rw [c_lin h hl]
  congr 1
  refine sg_congr fun x hx => ?_
  have hw : P.n + x < P.w := by unfold Pr.w; omega
  have : piv P t x = t.s - t.c (P.n + x) := by
    rw [c_lin h hw, ph.d1 x hx, sg_one hx fun i hi hn => by rw [ph.un x hx i hi, if_neg (Ne.symm hn)]; simp, ph.un x hx x hx, if_pos rfl]
    omega
  rw [this, Int.mul_comm]
/-- the worth is never above nothing -/
theorem worth_le (ph : Ph P) (h : Inv P t) : t.c (P.n + P.m) ≤ 0 := by
  rw [h.co _ rhs_lt, ph.dr]
  have nn : ∀ n : Nat, n ≤ P.m → 0 ≤ sg n (fun q => P.d (t.β q) * t.T q (P.n + P.m)) := fun n => by
    induction n with
    | zero => intro _; exact Int.le_refl 0
    | succ n ih =>
      intro hn
      have h1 := ih (by omega)
      have hbl := h.bl n (by omega)
      have hr := h.rh n (by omega)
      unfold sg
      have h2 : 0 ≤ P.d (t.β n) * t.T n (P.n + P.m) := by
        by_cases hbn : t.β n < P.n
        · rw [ph.d0 _ hbn]; simp
        · have e : t.β n = P.n + (t.β n - P.n) := by omega
          rw [e, ph.d1 _ (by omega)]; omega
      omega
  have := nn P.m (Nat.le_refl _)
  omega
end LP

set_option Elab.async false
set_option linter.all false
set_option maxRecDepth 100000
set_option maxHeartbeats 4000000
/-! LP5: the first table. -/
namespace LP
/-- the problem of a matrix (by columns) and a right side -/
def prob (m n : Nat) (A : Mx) (b : Nat → Int) : Pr where
  m := m
  n := n
  C := fun l x => if l < n then A l x else if l < n + m then (if l - n = x then 1 else 0) else b x
  d := fun l => if l < n then 0 else if l < n + m then 1 else 0
theorem prob_ph (m n : Nat) (A : Mx) (b : Nat → Int) : Ph (prob m n A b) := by
  refine ⟨fun l hl => ?_, fun k hk => ?_, ?_, fun k hk x hx => ?_⟩
  · have hl : l < n := hl
    show (if l < n then (0 : Int) else if l < n + m then 1 else 0) = 0
    rw [if_pos hl]
  · show (if n + k < n then (0 : Int) else if n + k < n + m then 1 else 0) = 1
    have hk : k < m := hk
    rw [if_neg (by omega), if_pos (by omega)]
  · show (if n + m < n then (0 : Int) else if n + m < n + m then 1 else 0) = 0
    rw [if_neg (by omega), if_neg (by omega)]
  · show (if n + k < n then A (n + k) x else if n + k < n + m then (if n + k - n = x then 1 else 0) else b x) = _
    have hk : k < m := hk
    rw [if_neg (by omega), if_pos (by omega), Nat.add_sub_cancel_left]
def first (P : Pr) : Tb where
  T := fun k l => P.C l k
  c := fun l => P.d l - sg P.m fun q => P.C l q
  s := 1
  β := fun q => P.n + q
theorem first_inv {P : Pr} (ph : Ph P) (hb : ∀ q, q < P.m → 0 ≤ P.C (P.n + P.m) q) : Inv P (first P) := by
  have hbas : ∀ q, q < P.m → ∀ x, x < P.m → bas P (first P).β q x = idM q x := fun q hq x hx => by
    show P.C (P.n + q) x = _
    rw [ph.un q hq x hx]; rfl
  have hT : ∀ k, k < P.m → ∀ c : Nat → Int, det P.m (up (bas P (first P).β) k c) = c k := fun k hk c => by
    have e1 : det P.m (up (bas P (first P).β) k c) = det P.m (up idM k fun x => sg P.m fun q => c q * idM q x) := by
      refine det_congr _ fun q hq x hx => ?_
      by_cases hqk : q = k
      · subst hqk
        rw [up_same, up_same, sg_one hx fun i hi hn => by unfold idM; rw [if_neg hn]; simp]
        unfold idM; rw [if_pos rfl]; simp
      · rw [up_ne _ _ hqk, up_ne _ _ hqk]; exact hbas q hq x hx
    rw [e1, det_sum _ _ _ hk, sg_one hk fun i hi hn => ?_]
    · rw [up_self, det_id]; simp
    · rw [det_eq0 hk hi (Ne.symm hn) (by rw [up_same, up_ne _ _ hn]), Int.mul_zero]
  refine ⟨by show (0 : Int) < 1; decide, ?_, fun k hk l hl => (hT k hk _).symm, fun l hl x hx => ?_, fun l hl => ?_, fun q hq => hb q hq, fun q hq => ?_⟩
  · show (1 : Int) = _
    rw [det_congr P.m (D := idM) hbas, det_id]
  · show sg P.m (fun q => P.C l q * bas P (first P).β q x) = 1 * P.C l x
    rw [sg_one hx fun i hi hn => by rw [hbas i hi x hx]; unfold idM; rw [if_neg hn]; simp, hbas x hx x hx]
    unfold idM; rw [if_pos rfl]; simp
  · show P.d l - sg P.m (fun q => P.C l q) = 1 * P.d l - sg P.m (fun q => P.d (P.n + q) * P.C l q)
    rw [Int.one_mul]
    congr 1
    exact sg_congr fun q hq => by rw [ph.d1 q hq, Int.one_mul]
  · show P.n + q < P.n + P.m
    omega
end LP

set_option Elab.async false
set_option linter.all false
set_option maxRecDepth 100000
set_option maxHeartbeats 4000000
/-! LP6: how great the numbers become; what the end of the search tells. -/
namespace LP
theorem sg_abs {n : Nat} {f : Nat → Int} {B : Nat} (h : ∀ i, i < n → (f i).natAbs ≤ B) : (sg n f).natAbs ≤ n * B := by
  induction n with
  | zero => unfold sg; simp
  | succ n ih =>
    unfold sg
    have h1 := ih fun i hi => h i (by omega)
    have h2 := h n (by omega)
    have h3 := Int.natAbs_add_le (sg n f) (f n)
    rw [Nat.add_mul, Nat.one_mul]
    omega
def dbd : Nat → Nat → Nat
  | 0, _ => 1
  | m + 1, a => (m + 1) * (a * dbd m a)
theorem det_bd : ∀ (m : Nat) {B : Mx} {a : Nat}, (∀ q, q < m → ∀ x, x < m → (B q x).natAbs ≤ a) → (det m B).natAbs ≤ dbd m a
  | 0, _, _, _ => by unfold det dbd; decide
  | m + 1, B, a, h => by
    unfold det dbd
    refine sg_abs fun q hq => ?_
    have ih := det_bd m (B := mi B q) (a := a) fun k hk x hx => by
      unfold mi sk
      exact h _ (by split <;> omega) _ (by omega)
    have h0 := h q hq 0 (by omega)
    rw [Int.natAbs_mul, Int.natAbs_mul]
    have hs : (sgn q).natAbs = 1 := by unfold sgn; split <;> rfl
    rw [hs, Nat.one_mul]
    exact Nat.mul_le_mul h0 ih
theorem dbd_le {a M : Nat} : ∀ m : Nat, m ≤ M → dbd m a ≤ (M * a) ^ m
  | 0, _ => by unfold dbd; simp
  | m + 1, h => by
    unfold dbd
    have ih := dbd_le (a := a) (M := M) m (by omega)
    rw [Nat.pow_succ, ← Nat.mul_assoc, Nat.mul_comm ((M * a) ^ m)]
    exact Nat.mul_le_mul (Nat.mul_le_mul h (Nat.le_refl a)) ih
theorem dbd_pos {a : Nat} (ha : 0 < a) : ∀ m : Nat, 0 < dbd m a
  | 0 => by unfold dbd; decide
  | m + 1 => by
    unfold dbd
    exact Nat.mul_pos (by omega) (Nat.mul_pos ha (dbd_pos ha m))
section
variable {P : Pr} {t : Tb}
structure Bdd (P : Pr) (a : Nat) : Prop where
  a0 : 0 < a
  C : ∀ l, l < P.w → ∀ x, x < P.m → (P.C l x).natAbs ≤ a
  d : ∀ l, l < P.w → 0 ≤ P.d l ∧ P.d l ≤ 1
theorem Inv.bs (h : Inv P t) {a : Nat} (b : Bdd P a) : t.s.natAbs ≤ dbd P.m a := by
  rw [h.sd]
  refine det_bd P.m fun q hq x hx => ?_
  exact b.C _ (by have := h.bl q hq; unfold Pr.w; omega) x hx
theorem Inv.bT (h : Inv P t) {a : Nat} (b : Bdd P a) {k l : Nat} (hk : k < P.m) (hl : l < P.w) : (t.T k l).natAbs ≤ dbd P.m a := by
  rw [h.td k hk l hl]
  refine det_bd P.m fun q hq x hx => ?_
  by_cases hqk : q = k
  · subst hqk; rw [up_same]; exact b.C l hl x hx
  · rw [up_ne _ _ hqk]; exact b.C _ (by have := h.bl q hq; unfold Pr.w; omega) x hx
theorem Inv.bc (h : Inv P t) {a : Nat} (b : Bdd P a) {l : Nat} (hl : l < P.w) : (t.c l).natAbs ≤ (P.m + 1) * dbd P.m a := by
  rw [h.co l hl]
  have h1 := h.bs b
  have key : ∀ (x d : Int), 0 ≤ d → d ≤ 1 → (d * x).natAbs ≤ x.natAbs := fun x d h0 h1 => by
    have : d = 0 ∨ d = 1 := by omega
    rcases this with rfl | rfl <;> simp
  have h2 : (sg P.m fun q => P.d (t.β q) * t.T q l).natAbs ≤ P.m * dbd P.m a := by
    refine sg_abs fun q hq => ?_
    have hb : t.β q < P.w := by have := h.bl q hq; unfold Pr.w; omega
    exact Nat.le_trans (key _ _ (b.d _ hb).1 (b.d _ hb).2) (h.bT b hq hl)
  have h3 := key t.s (P.d l) (b.d l hl).1 (b.d l hl).2
  rw [Int.mul_comm (P.d l)] at h3
  have h4 : (t.s * P.d l - sg P.m fun q => P.d (t.β q) * t.T q l).natAbs ≤ (t.s * P.d l).natAbs + (sg P.m fun q => P.d (t.β q) * t.T q l).natAbs := by omega
  rw [Nat.add_mul, Nat.one_mul]
  omega
theorem prob_bdd {m n : Nat} {A : Mx} {b : Nat → Int} {a : Nat} (a0 : 0 < a) (hA : ∀ l, l < n → ∀ x, x < m → (A l x).natAbs ≤ a) (hb : ∀ x, x < m → (b x).natAbs ≤ a) : Bdd (prob m n A b) a := by
  refine ⟨a0, fun l hl x hx => ?_, fun l hl => ?_⟩
  · show (if l < n then A l x else if l < n + m then (if l - n = x then (1 : Int) else 0) else b x).natAbs ≤ a
    have hx : x < m := hx
    by_cases h1 : l < n
    · rw [if_pos h1]; exact hA l h1 x hx
    · rw [if_neg h1]
      by_cases h2 : l < n + m
      · rw [if_pos h2]
        split
        · exact a0
        · exact Nat.zero_le _
      · rw [if_neg h2]; exact hb x hx
  · show 0 ≤ (if l < n then (0 : Int) else if l < n + m then 1 else 0) ∧ (if l < n then (0 : Int) else if l < n + m then 1 else 0) ≤ 1
    split
    · exact ⟨by decide, by decide⟩
    · split <;> exact ⟨by decide, by decide⟩
end
/-! the end -/
/-- the numbers that are told: x l, out of s -/
def sol (m n : Nat) (t : Tb) (l : Nat) : Int := sg m fun q => if t.β q = l then t.T q (n + m) else 0
theorem end_found {m n : Nat} {A : Mx} {b : Nat → Int} {t : Tb} (h : Inv (prob m n A b) t) (hc : t.c (n + m) = 0) : ∀ x, x < m → sg n (fun l => sol m n t l * A l x) = t.s * b x := by
  intro x hx
  have f := found (prob_ph m n A b) h hc
  have e := f.2 x hx
  have eb : (prob m n A b).C ((prob m n A b).n + (prob m n A b).m) x = b x := by
    show (if n + m < n then A (n + m) x else if n + m < n + m then (if n + m - n = x then (1 : Int) else 0) else b x) = b x
    rw [if_neg (by omega), if_neg (by omega)]
  rw [eb] at e
  rw [← e]
  show sg n (fun l => (sg m fun q => if t.β q = l then t.T q (n + m) else 0) * A l x) = sg m fun q => t.T q (n + m) * (prob m n A b).C (t.β q) x
  have e1 : ∀ l, (sg m fun q => if t.β q = l then t.T q (n + m) else 0) * A l x = sg m fun q => (if t.β q = l then t.T q (n + m) else 0) * A l x := fun l => by
    rw [Int.mul_comm, ← sg_mul]
    exact sg_congr fun q _ => Int.mul_comm _ _
  rw [sg_congr fun l _ => e1 l, sg_swap]
  refine sg_congr fun q hq => ?_
  have hbl : t.β q < n + m := h.bl q hq
  by_cases hn : t.β q < n
  · rw [sg_one hn fun i hi hne => by rw [if_neg (fun z => hne z.symm)]; simp, if_pos rfl]
    congr 1
    show A (t.β q) x = if t.β q < n then A (t.β q) x else _
    rw [if_pos hn]
  · have := f.1 q hq (by show n ≤ t.β q; omega)
    have this : t.T q (n + m) = 0 := this
    rw [this, Int.zero_mul]
    exact sg_zero fun i hi => by rw [if_neg (by omega)]; simp
theorem sol_nn {m n : Nat} {A : Mx} {b : Nat → Int} {t : Tb} (h : Inv (prob m n A b) t) (l : Nat) : 0 ≤ sol m n t l := by
  unfold sol
  have nn : ∀ k : Nat, k ≤ m → 0 ≤ sg k (fun q => if t.β q = l then t.T q (n + m) else 0) := fun k => by
    induction k with
    | zero => intro _; exact Int.le_refl 0
    | succ k ih =>
      intro hk
      unfold sg
      have h1 := ih (by omega)
      have h2 : 0 ≤ t.T k (n + m) := h.rh k (by show k < m; omega)
      split <;> omega
  exact nn m (Nat.le_refl m)
/-- y shows that there are none -/
theorem end_none {m n : Nat} {A : Mx} {b : Nat → Int} {t : Tb} (h : Inv (prob m n A b) t) (hc : t.c (n + m) ≠ 0) (hj : ∀ l, l < n → 0 ≤ t.c l) :
    (∀ l, l < n → sg m (fun x => (t.s - t.c (n + x)) * A l x) ≤ 0) ∧ 0 < sg m (fun x => (t.s - t.c (n + x)) * b x) := by
  have ph := prob_ph m n A b
  refine ⟨fun l hl => ?_, ?_⟩
  · have e := told ph h (l := l) (by show l < n + m + 1; omega)
    have e0 := ph.d0 l hl
    rw [e0, Int.mul_zero] at e
    have e2 : sg (prob m n A b).m (fun x => (t.s - t.c ((prob m n A b).n + x)) * (prob m n A b).C l x) = sg m fun x => (t.s - t.c (n + x)) * A l x := by
      refine sg_congr fun x hx => ?_
      show (t.s - t.c (n + x)) * (if l < n then A l x else _) = _
      rw [if_pos hl]
    rw [e2] at e
    have := hj l hl
    omega
  · have e := told ph h (l := n + m) (by show n + m < n + m + 1; omega)
    have er : (prob m n A b).d (n + m) = 0 := ph.dr
    rw [er, Int.mul_zero] at e
    have e2 : sg (prob m n A b).m (fun x => (t.s - t.c ((prob m n A b).n + x)) * (prob m n A b).C (n + m) x) = sg m fun x => (t.s - t.c (n + x)) * b x := by
      refine sg_congr fun x hx => ?_
      show (t.s - t.c (n + x)) * (if n + m < n then A (n + m) x else if n + m < n + m then (if n + m - n = x then (1 : Int) else 0) else b x) = _
      rw [if_neg (by omega), if_neg (by omega)]
    rw [e2] at e
    have hw : t.c (n + m) ≤ 0 := worth_le ph h
    omega
end LP

set_option Elab.async false
set_option linter.all false
set_option maxRecDepth 100000
set_option maxHeartbeats 4000000
/-! LP7: the equations of garblers. -/
namespace LP
theorem sg_app (a b : Nat) (f : Nat → Int) : sg (a + b) f = sg a f + sg b fun k => f (a + k) := by
  induction b with
  | zero => show sg a f = sg a f + 0; omega
  | succ b ih =>
    show sg (a + b) f + f (a + b) = sg a f + (sg b (fun k => f (a + k)) + f (a + b))
    rw [ih]; omega
theorem sg_blk (a s : Nat) (f : Nat → Int) : sg (a * s) f = sg a fun y => sg s fun k => f (y * s + k) := by
  induction a with
  | zero => rw [Nat.zero_mul]; rfl
  | succ a ih =>
    rw [Nat.succ_mul, sg_app, ih]
    rfl
theorem blk_div {y s k : Nat} (h : k < s) : (y * s + k) / s = y := by
  rw [Nat.add_comm, Nat.add_mul_div_right _ _ (by omega), Nat.div_eq_of_lt h, Nat.zero_add]
theorem blk_mod {y s k : Nat} (h : k < s) : (y * s + k) % s = k := by
  rw [Nat.add_comm, Nat.add_mul_mod_self_right, Nat.mod_eq_of_lt h]
theorem blk_lt {y s k n : Nat} (hy : y < n) (h : k < s) : y * s + k < n * s := by
  have : (y + 1) * s ≤ n * s := Nat.mul_le_mul_right s hy
  rw [Nat.succ_mul] at this
  omega
def eqA (n s : Nat) (R : Nat → Nat → Int) : Mx := fun l r => if r < n * s then (if l % s = r % s then R (r / s) (l / s) else 0) else if l / s = r - n * s then 1 else 0
def eqB (n s : Nat) (G : Nat → Nat → Int) : Nat → Int := fun r => if r < n * s then G (r / s) (r % s) else 1
section
variable {n h s : Nat} {R G : Nat → Nat → Int}
theorem eqA_xz {x z y k : Nat} (hx : x < n) (hz : z < s) (hk : k < s) : eqA n s R (y * s + k) (x * s + z) = if k = z then R x y else 0 := by
  unfold eqA
  rw [if_pos (blk_lt hx hz), blk_mod hk, blk_mod hz, blk_div hz, blk_div hk]
theorem eqA_y {y k q : Nat} (hk : k < s) : eqA n s R (y * s + k) (n * s + q) = if y = q then 1 else 0 := by
  unfold eqA
  rw [if_neg (by omega), blk_div hk, Nat.add_sub_cancel_left]
theorem eqB_xz {x z : Nat} (hx : x < n) (hz : z < s) : eqB n s G (x * s + z) = G x z := by
  unfold eqB
  rw [if_pos (blk_lt hx hz), blk_div hz, blk_mod hz]
theorem eqB_y {q : Nat} : eqB n s G (n * s + q) = 1 := by
  unfold eqB
  rw [if_neg (by omega)]
theorem row_xz {x z : Nat} (f : Nat → Int) (hx : x < n) (hz : z < s) : sg (h * s) (fun l => f l * eqA n s R l (x * s + z)) = sg h fun y => f (y * s + z) * R x y := by
  rw [sg_blk]
  refine sg_congr fun y hy => ?_
  rw [sg_one hz fun k hk hn => by rw [eqA_xz hx hz hk, if_neg hn, Int.mul_zero], eqA_xz hx hz hz, if_pos rfl]
theorem row_y {q : Nat} (f : Nat → Int) (hq : q < h) : sg (h * s) (fun l => f l * eqA n s R l (n * s + q)) = sg s fun z => f (q * s + z) := by
  rw [sg_blk, sg_one hq fun y hy hn => sg_zero fun k hk => by rw [eqA_y hk, if_neg hn, Int.mul_zero]]
  exact sg_congr fun k hk => by rw [eqA_y hk, if_pos rfl, Int.mul_one]
theorem col_yz {y z : Nat} (Y : Nat → Int) (hy : y < h) (hz : z < s) : sg (n * s + h) (fun r => Y r * eqA n s R (y * s + z) r) = sg n (fun x => Y (x * s + z) * R x y) + Y (n * s + y) := by
  rw [sg_app, sg_blk]
  congr 1
  · refine sg_congr fun x hx => ?_
    rw [sg_one hz fun k hk hn => by rw [eqA_xz hx hk hz, if_neg (Ne.symm hn), Int.mul_zero], eqA_xz hx hz hz, if_pos rfl]
  · rw [sg_one hy fun q hq hn => by rw [eqA_y hz, if_neg (Ne.symm hn), Int.mul_zero], eqA_y hz, if_pos rfl, Int.mul_one]
theorem rhs_sum (Y : Nat → Int) : sg (n * s + h) (fun r => Y r * eqB n s G r) = sg n (fun x => sg s fun z => Y (x * s + z) * G x z) + sg h fun y => Y (n * s + y) := by
  rw [sg_app, sg_blk]
  congr 1
  · exact sg_congr fun x hx => sg_congr fun z hz => by rw [eqB_xz hx hz]
  · exact sg_congr fun q hq => by rw [eqB_y, Int.mul_one]
theorem eq_found {f : Nat → Int} {w : Int} (e : ∀ r, r < n * s + h → sg (h * s) (fun l => f l * eqA n s R l r) = w * eqB n s G r) :
    (∀ x, x < n → ∀ z, z < s → sg h (fun y => f (y * s + z) * R x y) = w * G x z) ∧ ∀ y, y < h → sg s (fun z => f (y * s + z)) = w := by
  refine ⟨fun x hx z hz => ?_, fun y hy => ?_⟩
  · have := e (x * s + z) (by have := blk_lt (n := n) hx hz; omega)
    rw [row_xz f hx hz, eqB_xz hx hz] at this
    exact this
  · have := e (n * s + y) (by omega)
    rw [row_y f hy, eqB_y, Int.mul_one] at this
    exact this
theorem eq_none {Y : Nat → Int} (a : ∀ l, l < h * s → sg (n * s + h) (fun r => Y r * eqA n s R l r) ≤ 0) (b : 0 < sg (n * s + h) fun r => Y r * eqB n s G r) :
    (∀ y, y < h → ∀ z, z < s → sg n (fun x => Y (x * s + z) * R x y) ≤ -Y (n * s + y)) ∧ sg h (fun y => -Y (n * s + y)) < sg n (fun x => sg s fun z => Y (x * s + z) * G x z) := by
  refine ⟨fun y hy z hz => ?_, ?_⟩
  · have := a (y * s + z) (blk_lt hy hz)
    rw [col_yz Y hy hz] at this
    omega
  · rw [rhs_sum] at b
    have e : sg h (fun y => -Y (n * s + y)) = -sg h fun y => Y (n * s + y) := by
      have := sg_mul h (-1) fun y => Y (n * s + y)
      rw [sg_congr (g := fun y => -Y (n * s + y)) fun i _ => by omega] at this
      omega
    omega
theorem eqA_bd {a : Nat} (a0 : 0 < a) (hR : ∀ x, x < n → ∀ y, y < h → (R x y).natAbs ≤ a) {l r : Nat} (hl : l < h * s) (hr : r < n * s + h) : (eqA n s R l r).natAbs ≤ a := by
  unfold eqA
  have hs : 0 < s := by
    rcases Nat.eq_zero_or_pos s with z | z
    · rw [z, Nat.mul_zero] at hl; omega
    · exact z
  by_cases h1 : r < n * s
  · rw [if_pos h1]
    split
    · exact hR _ ((Nat.div_lt_iff_lt_mul hs).mpr h1) _ ((Nat.div_lt_iff_lt_mul hs).mpr hl)
    · exact Nat.zero_le _
  · rw [if_neg h1]
    split
    · exact a0
    · exact Nat.zero_le _
theorem eqB_bd {a : Nat} (a0 : 0 < a) (hs : 0 < s) (hG : ∀ x, x < n → ∀ z, z < s → 0 ≤ G x z ∧ (G x z).natAbs ≤ a) (r : Nat) : 0 ≤ eqB n s G r ∧ (eqB n s G r).natAbs ≤ a := by
  unfold eqB
  split
  · exact hG _ ((Nat.div_lt_iff_lt_mul hs).mpr (by assumption)) _ (Nat.mod_lt _ hs)
  · exact ⟨by decide, a0⟩
end
end LP

set_option Elab.async false
set_option linter.all false
set_option maxRecDepth 100000
set_option maxHeartbeats 4000000
/-! J19: fields and lists of objects, methods, making. -/
namespace J
open PySem PySem.Spec L2 RZ
section
variable {X : Cx} {K : PySem.W.Frag} {H0 : Hp} {t0 : Cs} {pos pos' apos p2 p : Pos} {C : Addr} {f m : Str} {e o a b v : Expr} {es : List Expr} {st : Stmt} {we wo wa wb : W Cs} {wl : WL Cs} {wr : WA Cs}
theorem vol_of {t : Cs} {a : Addr} {c : Cell} (h : t a = some c) : (cellR K H0 t0).Vol t a := by
  show t a ≠ none
  rw [h]; exact fun z => nomatch z
theorem nvol_none {t : Cs} {a : Addr} (h : ¬ (cellR K H0 t0).Vol t a) : t a = none := Classical.byContradiction h
/-! e.f -/
def wFld (C : Addr) (f : Str) (w : W Cs) : W Cs := fun ρ Φ => w ρ fun d t => ∃ o fs x, d = .hdl o ∧ t o = some (.ins C fs) ∧ fs.lookup f = some x ∧ Φ x t
theorem E_fld (cl : Cls K C) (na : NoAttr K C f) (h : PE X e (E (cellR K H0 t0) we)) (hb : attributeBase e f X.env (eval e X.env) = eval e X.env := by rfl) (hK : X.K = K := by rfl) : PE X (.Attribute e f pos) (E (cellR K H0 t0) (wFld C f we)) :=
  PE_imp (pe_fld h hb) fun σ H Q ⟨ρ, t, Φ, ok, q, k⟩ => ⟨ρ, t, _, ok, q, fun H1 t1 v d g hD ⟨o, fs, x, ed, et, el, hq⟩ => by
    subst ed
    cases hD
    obtain ⟨dx, vs, h1, h2⟩ := CsOk.ins g.gd et
    obtain ⟨u, h3, h4⟩ := h2.get el
    exact ⟨o, C, dx, vs, u, rfl, h1, by rw [hK]; exact cl, by rw [hK]; exact na, h3, k H1 _ u x g h4 hq⟩⟩
/-! o.f = e -/
def wSetF (C : Addr) (f : Str) (wo we : W Cs) : WS Cs := fun ρ Φ => we ρ fun d => wo ρ fun x t => ∃ o fs, x = .hdl o ∧ t o = some (.ins C fs) ∧ fs.length < 1000 ∧ Φ.nx ρ (setC t o (some (.ins C (putS f d fs))))
theorem S_setF (cl : Cls K C) (na : NoAttr K C f) (ho : PE X o (E (cellR K H0 t0) wo)) (hv : PE X v (E (cellR K H0 t0) we)) (hs : swapsWith v (some (.Attribute o f pos')) pos.line X.env = pure false := by rfl) (hK : X.K = K := by rfl) :
    PS X (.Assign [.Attribute o f pos'] v pos) (S (cellR K H0 t0) (wSetF C f wo we)) := PS_imp (ps_fld ho hv hs) fun D σ H ⟨ρ, t, Φ, ok, q, fi⟩ =>
  ⟨ρ, t, _, ok, q, fun H1 t1 y d g1 hd q1 => ⟨ρ, t1, _, ok.go g1, q1, fun H2 t2 xv xd g2 hx ⟨o, fs, ex, et, hl, q2⟩ => by
    subst ex
    cases hx
    have ok2 := (ok.go g1).go g2
    have hd2 := hd.ext (g2.ext g1.gd)
    obtain ⟨dx, vs, h1, h2⟩ := CsOk.ins g2.gd et
    refine ⟨o, C, dx, vs, rfl, h1, by rw [hK]; exact cl, by rw [hK]; exact na, by rw [← h2.len]; exact hl, ?_⟩
    have gg : (cellR K H0 t0).Go t2 H2 (setC t2 o (some (.ins C (putS f d fs)))) (upd H2 o (.ins C dx (putF f y vs))) := CsOk.write g2.gd h1 trivial (.inl (by rw [et]; exact fun z => nomatch z)) fun x => .ins (FsOk.put (hd2.ext x) (h2.ext x))
    exact fi.nx σ _ ρ _ (((g1.trans g2).trans gg).ext ok.gd) (ok2.go gg) q2⟩⟩
/-! o.f = e, a new list that may change -/
theorem go_adopt {t t1 : Cs} {H H1 : Hp} {p : Addr} {us : List V} {ds : List D} (g : (cellR K H0 t0).Go t H t1 H1) (n : H p = none) (e : H1 p = some (.lst us)) (hD : Dens K H1 ds us) : (cellR K H0 t0).Go t H (setC t1 p (some (.lst ds))) H1 :=
  ⟨⟨g.st.st, g.st.up, fun a v => by
    by_cases ha : a = p
    · subst ha; exact .inr n
    · exact g.st.dn a (fun z => v (by rw [setC_ne ha]; exact z))⟩, CsOk.adopt g.gd e hD⟩
def wSetFL (C : Addr) (f : Str) (i : Nat) (wl : WL Cs) : WS Cs := fun ρ Φ => wl ρ fun ds t => ∃ o fs, ρ[i]? = some (.val (.hdl o)) ∧ t o = some (.ins C fs) ∧ fs.length < 1000 ∧ ∀ p, t p = none → p ≠ o → Φ.nx ρ (setC (setC t p (some (.lst ds))) o (some (.ins C (putS f (.hdl p) fs))))
theorem S_setFL {i : Nat} (cl : Cls K C) (na : NoAttr K C f) (ho : PE X o (tVar i)) (hv : PE X v (EL (cellR K H0 t0) wl)) (hs : swapsWith v (some (.Attribute o f pos')) pos.line X.env = pure false := by rfl) (hK : X.K = K := by rfl) :
    PS X (.Assign [.Attribute o f pos'] v pos) (S (cellR K H0 t0) (wSetFL C f i wl)) := PS_imp (ps_fld ho hv hs) fun D σ H ⟨ρ, t, Φ, ok, q, fi⟩ =>
  ⟨ρ, t, _, ok, q, fun H1 t1 p us ds g1 n ep nv hD ⟨o, fs, eρ, et, hl, q1⟩ => by
    have ok1 := ok.go g1
    obtain ⟨v0, a1, a2⟩ := ok1.val i _ eρ
    cases a2
    obtain ⟨dx, vs, h1, h2⟩ := CsOk.ins g1.gd et
    refine ⟨_, a1, o, C, dx, vs, rfl, h1, by rw [hK]; exact cl, by rw [hK]; exact na, by rw [← h2.len]; exact hl, ?_⟩
    have tp : t1 p = none := nvol_none (H0 := H0) (t0 := t0) (K := K) nv
    have po : p ≠ o := fun z => by rw [z, et] at tp; cases tp
    have ga := go_adopt (H0 := H0) (t0 := t0) g1 n ep hD
    have et' : setC t1 p (some (.lst ds)) o = some (.ins C fs) := by rw [setC_ne (Ne.symm po)]; exact et
    have gg : (cellR K H0 t0).Go (setC t1 p (some (.lst ds))) H1 (setC (setC t1 p (some (.lst ds))) o (some (.ins C (putS f (.hdl p) fs)))) (upd H1 o (.ins C dx (putF f (.ref p) vs))) :=
      CsOk.write ga.gd h1 trivial (.inl (by rw [et']; exact fun z => nomatch z)) fun x => .ins (FsOk.put (.hdl p) (h2.ext x))
    have g := ga.trans gg
    exact fi.nx σ _ ρ _ (g.ext ok.gd) (ok.go g) (q1 p tp po)⟩
/-! a list of an object: a[b], a.append(e), a[b] = e -/
def wCIx (wa wb : W Cs) : W Cs := fun ρ Φ => wa ρ fun x => wb ρ fun y t => ∃ p ds n d, x = .hdl p ∧ t p = some (.lst ds) ∧ y = .int n ∧ atI ds n = some d ∧ Φ d t
theorem E_cIx (ha : PE X a (E (cellR K H0 t0) wa)) (hb : PE X b (E (cellR K H0 t0) wb)) (hs : PlainIx b := by intro _ _; rfl) (hK : X.K = K := by rfl) : PE X (.Subscript a b pos) (E (cellR K H0 t0) (wCIx wa wb)) :=
  PE_imp (pe_ix ix_list ha hb hs) fun σ H Q ⟨ρ, t, Φ, ok, q, k⟩ => ⟨ρ, t, _, ok, q, fun H1 t1 x dx g1 hx q1 => ⟨ρ, t1, _, ok.go g1, q1, fun H2 t2 y dy g2 hy ⟨p, ds, n, d, e1, et, e2, ea, hq⟩ => by
    subst e1 e2
    cases hx
    cases hy
    obtain ⟨vs, h1, h2⟩ := CsOk.lst g2.gd et
    obtain ⟨u, a1, a2⟩ := h2.atI ea
    exact ⟨p, vs, n, u, rfl, rfl, by rw [hK]; exact .inl (.inl h1), a1, k H2 _ u d (g1.trans g2) a2 hq⟩⟩⟩
def wCApp (wa we : W Cs) : WS Cs := fun ρ Φ => wa ρ fun x t => ∃ p cs, x = .hdl p ∧ t p = some (.lst cs) ∧ we ρ (fun d t => ∃ ds, t p = some (.lst ds) ∧ ds.length < sizeLine ∧ Φ.nx ρ (setC t p (some (.lst (ds ++ [d]))))) t
theorem S_cApp (h : PS X st (tDrop (tBM X.K "list" rAppend (E (cellR K H0 t0) wa) (tCons (E (cellR K H0 t0) we) tNil)))) : PS X st (S (cellR K H0 t0) (wCApp wa we)) := PS_imp h fun D σ H ⟨ρ, t, Φ, ok, q, f⟩ => by
  refine ⟨ρ, t, _, ok, q, fun H1 t1 x dx g1 hx ⟨p, cs, e1, et, q1⟩ => ?_⟩
  subst e1
  cases hx
  obtain ⟨vs, h1, h2⟩ := CsOk.lst g1.gd et
  refine ⟨.inl ⟨rfl, vs, .inl (.inl h1)⟩, ρ, t1, _, ok.go g1, q1, fun H2 t2 v d g2 hD ⟨ds, et2, hl, hq⟩ => ?_⟩
  obtain ⟨us, k1, k2⟩ := CsOk.lst g2.gd et2
  have gg : (cellR K H0 t0).Go t2 H2 (setC t2 p (some (.lst (ds ++ [d])))) (upd H2 p (.lst (us ++ [v]))) := CsOk.write g2.gd k1 trivial (.inl (by rw [et2]; exact fun z => nomatch z)) fun x => .lst ((k2.ext x).app (.cons (hD.ext x) .nil))
  have g := (g1.trans g2).trans gg
  exact ⟨p, us, v, rfl, rfl, k1, by rw [← k2.len]; exact hl, f.nx σ _ _ _ (g.ext ok.gd) (ok.go g) hq⟩
def wCSet (we wa wb : W Cs) : WS Cs := fun ρ Φ => we ρ fun d => wa ρ fun x => wb ρ fun y t => ∃ p ds n j, x = .hdl p ∧ t p = some (.lst ds) ∧ y = .int n ∧ ixN ds.length n = some j ∧ Φ.nx ρ (setC t p (some (.lst (ds.set j d))))
theorem S_cSet (h : PS X st (tAsg (E (cellR K H0 t0) we) (gSub (E (cellR K H0 t0) wa) (E (cellR K H0 t0) wb) rSetL))) : PS X st (S (cellR K H0 t0) (wCSet we wa wb)) := PS_imp h fun D σ H ⟨ρ, t, Φ, ok, q, f⟩ => by
  refine ⟨ρ, t, _, ok, q, fun H1 t1 v d g1 hD q1 => ⟨ρ, t1, _, ok.go g1, q1, fun H2 t2 x dx g2 hx q2 => ⟨ρ, t2, _, (ok.go g1).go g2, q2, fun H3 t3 y dy g3 hy ⟨p, ds, n, j, e1, et, e2, ej, hq⟩ => ?_⟩⟩⟩
  subst e1 e2
  cases hx
  cases hy
  obtain ⟨us, k1, k2⟩ := CsOk.lst g3.gd et
  have hD3 := (hD.ext (g2.ext g1.gd)).ext (g3.ext g2.gd)
  have gg : (cellR K H0 t0).Go t3 H3 (setC t3 p (some (.lst (ds.set j d)))) (upd H3 p (.lst (us.set j v))) := CsOk.write g3.gd k1 trivial (.inl (by rw [et]; exact fun z => nomatch z)) fun x => .lst ((k2.ext x).setD j (hD3.ext x))
  have g := ((g1.trans g2).trans g3).trans gg
  exact ⟨p, us, n, j, rfl, rfl, k1, by rw [← k2.len]; exact ej, f.nx σ _ _ _ (g.ext ok.gd) (ok.go g) hq⟩
/-! an object's list becomes data, ahead of a statement -/
def tFrzP (t : TS) : TS := fun D σ H => ∃ p vs, H p = some (.lst vs) ∧ ∀ o, t D σ (upd H p (.frz o (.lst vs)))
theorem ps_frzP {t : TS} (h : PS X st t) : PS X st (tFrzP t) := ⟨fun pins s σ H D I ⟨p, vs, e2, k⟩ => by
  obtain ⟨o, I2⟩ := inv_freeze I e2
  exact h.run pins s σ _ D I2 (k o)⟩
def wCFrz (C : Addr) (i : Nat) (f : Str) (w : WS Cs) : WS Cs := fun ρ Φ t => ∃ o fs p ds, ρ[i]? = some (.val (.hdl o)) ∧ t o = some (.ins C fs) ∧ fs.lookup f = some (.hdl p) ∧ t p = some (.lst ds) ∧ p ≠ o ∧ w ρ Φ (setC (setC t p none) o (some (.ins C (putS f (.lst ds) fs))))
theorem S_cFrz {i : Nat} {w : WS Cs} (h : PS X st (S (cellR K H0 t0) w)) : PS X st (S (cellR K H0 t0) (wCFrz C i f w)) := PS_imp (ps_frzP h) fun D σ H ⟨ρ, t, Φ, ok, ⟨o, fs, p, ds, _, et, el, ep, po, q⟩, fi⟩ => by
  obtain ⟨dx, vs, h1, h2⟩ := CsOk.ins ok.gd et
  obtain ⟨us, h3, h4⟩ := CsOk.lst ok.gd ep
  obtain ⟨u, a1, a2⟩ := h2.get el
  cases a2
  refine ⟨p, us, h3, fun ob => ?_⟩
  have x : Ext H (upd H p (.frz ob (.lst us))) := by
    refine ⟨fun b ys q => ?_, fun b w z q => ?_⟩
    · rw [upd_ne (fun z => by rw [z, h3] at q; cases q)]; exact q
    · rw [upd_ne (fun z => by rw [z, h3] at q; cases q)]; exact q
  have g : (cellR K H0 t0).Go t H (setC (setC t p none) o (some (.ins C (putS f (.lst ds) fs)))) (upd H p (.frz ob (.lst us))) := by
    refine ⟨⟨fun b w hb nv => ?_, fun b vb => upd_some (Rg.there ok.gd vb), fun b vb => .inl fun z => vb ?_⟩, fun b c e => ?_⟩
    · rw [upd_ne (fun z => nv (by rw [z]; exact vol_of ep))]; exact hb
    · by_cases hb : b = o
      · rw [hb, et] at z; cases z
      · rw [setC_ne hb]
        by_cases hp : b = p
        · rw [hp, setC_same]
        · rw [setC_ne hp]; exact z
    · by_cases hb : b = o
      · subst hb
        rw [setC_same] at e
        cases e
        exact ⟨_, by rw [upd_ne (Ne.symm po)]; exact h1, .ins ((h2.ext x).turn el a1 (.lst ⟨ob, upd_same⟩ (h4.ext x)))⟩
      · rw [setC_ne hb] at e
        by_cases hp : b = p
        · rw [hp, setC_same] at e; cases e
        · rw [setC_ne hp] at e
          obtain ⟨w, k1, k2⟩ := (show CsOk K t H from ok.gd) b c e
          exact ⟨w, by rw [upd_ne hp]; exact k1, k2.ext x⟩
  exact ⟨ρ, _, Φ, ok.go g, q, fi.ext x⟩
end
/-! promises of defs that change cells -/
def spC (K : PySem.W.Frag) (n : Nat) (fs : FST Cs) : Sp := fun vs H Q _ => ∃ t ds Φ, ds.length = n ∧ CsOk K t H ∧ Dens K H ds vs ∧ fs ds Φ t ∧ ∀ H' t' v d, (cellR K H t).Go t H t' H' → Den K H' d v → Φ d t' → Q v H'
def fsC (n : Nat) (f : FST Cs) : FST Cs := fun ds Φ t => ds.length = n ∧ f ds Φ t
theorem tk_C {K : PySem.W.Frag} {H0 : Hp} {t0 : Cs} {n : Nat} {fs : FST Cs} : Tk (cellR K H0 t0) (spC K n fs) (fsC n fs) := fun t H vs ds Φ Q E gd hD ⟨hn, h⟩ k =>
  ⟨t, ds, Φ, hn, gd, hD, h, fun H' t' v d' g hd q => k H' t' v d' ⟨⟨g.st.st, g.st.up, g.st.dn⟩, g.gd⟩ hd q⟩
/-- a method, a class that is made -/
structure CalM (P : Program) (w : World) (K : PySem.W.Frag) (mg : Str → Option Value) (base : Heap) (k : Nat) (C : Addr) (m : Str) (ps : List Str) (sp : Sp) : Prop where
  ex : ∃ (f : Addr) (fd : FuncData), FnOk P w K mg base CX0 k f fd ps sp ∧ Meth K C m f ∧ Binds K fd ps []
structure CalK (P : Program) (w : World) (K : PySem.W.Frag) (mg : Str → Option Value) (base : Heap) (k : Nat) (C : Addr) (x : Str) (ps : List Str) (sp : Sp) : Prop where
  ex : ∃ (f : Addr) (fd : FuncData), FnOk P w K mg base CX0 k f fd ps sp ∧ Mk K C f ∧ mg x = some (.ref C) ∧ Binds K fd ps []
section
variable {X : Cx} {K : PySem.W.Frag} {H0 : Hp} {t0 : Cs} {pos apos p : Pos} {C : Addr} {m x : Str} {o e : Expr} {es : List Expr} {wo : W Cs} {wr : WA Cs} {kk n : Nat} {ps : List Str} {sp : Sp} {fs : FST Cs} {pl : Sem Bool}
def wMeth (C : Addr) (m : Str) (f : FST Cs) (wo : W Cs) (w : WA Cs) : W Cs := fun ρ Φ => wo ρ fun x t => ∃ o fs, x = .hdl o ∧ t o = some (.ins C fs) ∧ fs.lookup m = none ∧ w ρ (fun ds t => f (x :: ds) Φ t) t
theorem tMeth_E {E0 : XK} (tk : Tk (cellR K H0 t0) sp fs) {w' : TA} (hw : ∀ σ H Q, EA (cellR K H0 t0) wr σ H Q → w' σ H Q) : ∀ σ H Q, E (cellR K H0 t0) (wMeth C m fs wo wr) σ H Q → tMeth C m sp [] E0 (E (cellR K H0 t0) wo) w' σ H Q := fun σ H Q ⟨ρ, t, Φ, ok, q, k⟩ =>
  ⟨ρ, t, _, ok, q, fun H1 t1 v d g hD ⟨o, fs, ex, et, el, q1⟩ => by
    subst ex
    cases hD
    obtain ⟨dx, vs, h1, h2⟩ := CsOk.ins g.gd et
    refine ⟨o, dx, vs, rfl, h1, h2.no el, hw σ H1 _ ⟨ρ, t1, _, ok.go g, q1, fun H2 t2 us ds g2 hDs q2 => ?_⟩⟩
    show sp (V.ref o :: (us ++ [])) H2 Q E0
    rw [List.append_nil]
    exact tk t2 H2 _ _ Φ Q E0 g2.gd (.cons (.hdl o) hDs) q2 fun H' t' v d g3 hd q => k H' t' v d ((g.trans g2).trans g3) hd q⟩
theorem E_meth (cl : Cls K C) (c : CalM X.prog X.w X.K X.mg X.base kk C m ps sp) (hr : Room kk X.A) (tk : Tk (cellR K H0 t0) sp fs) (ho : PE X o (E (cellR K H0 t0) wo)) (ha : PA X (e :: es) (EA (cellR K H0 t0) wr))
    (hst : starEach (e :: es) X.env = (false, eval e X.env) :: starEach es X.env := by rfl) (hpl : (backTo pos (starEach es X.env)).any (·.1) = false := by rfl)
    (ht : eval (.Call (.Attribute o m apos) (e :: es) [] pos) X.env = (do
      let ov ← eval o X.env
      standAt apos.atName
      let (f, first) ← holding [ov] (getMethod ov m pl)
      callWith pos f first (backTo pos (starEach (e :: es) X.env)) (backToKw pos (keywordEach [] X.env))) := by rfl) (hK : X.K = K := by rfl) :
    PE X (.Call (.Attribute o m apos) (e :: es) [] pos) (E (cellR K H0 t0) (wMeth C m fs wo wr)) := by
  obtain ⟨f, fd, F, hm, hb⟩ := c.ex
  exact PE_imp (pe_meth ho (by rw [hK]; exact cl) hm F hr hb .nil pass0 ha hst hpl ht) (tMeth_E (E0 := _) tk fun _ _ _ q => q)
theorem E_meth0 (cl : Cls K C) (c : CalM X.prog X.w X.K X.mg X.base kk C m ps sp) (hr : Room kk X.A) (tk : Tk (cellR K H0 t0) sp fs) (ho : PE X o (E (cellR K H0 t0) wo))
    (ht : eval (.Call (.Attribute o m apos) [] [] pos) X.env = (do
      let ov ← eval o X.env
      standAt apos.atName
      let (f, first) ← holding [ov] (getMethod ov m pl)
      callWith pos f first (backTo pos (starEach [] X.env)) (backToKw pos (keywordEach [] X.env))) := by rfl) (hK : X.K = K := by rfl) :
    PE X (.Call (.Attribute o m apos) [] [] pos) (E (cellR K H0 t0) (wMeth C m fs wo wNil)) := by
  obtain ⟨f, fd, F, hm, hb⟩ := c.ex
  exact PE_imp (pe_meth0 ho (by rw [hK]; exact cl) hm F hr hb .nil pass0 ht) (tMeth_E (E0 := _) tk fun σ H Q ⟨ρ, t, Φ, ok, q, k⟩ => k H t [] [] (.refl ok.gd) .nil q)
def wMake (C : Addr) (f : FST Cs) (w : WA Cs) : W Cs := fun ρ Φ => w ρ fun ds t => ∀ o, t o = none → f (.hdl o :: ds) (fun d t' => d = .non ∧ Φ (.hdl o) t') (setC t o (some (.ins C [])))
theorem go_make {t : Cs} {H : Hp} {x dx : Addr} (gd : CsOk K t H) (nx : H x = none) (nd : H dx = none) (ne : dx ≠ x) : (cellR K H0 t0).Go t H (setC t x (some (.ins C []))) (upd (upd H dx (.own x)) x (.ins C dx [])) := by
  have same : ∀ b w, H b = some w → upd (upd H dx (.own x)) x (.ins C dx []) b = some w := fun b w hb => by
    rw [upd_ne (ne_of_none hb nx), upd_ne (ne_of_none hb nd)]; exact hb
  refine ⟨⟨fun b w hb _ => same b w hb, fun b vb => ?_, fun b vb => ?_⟩, fun b c e => ?_⟩
  · exact upd_some (upd_some (Rg.there (R := cellR K H0 t0) gd vb))
  · by_cases hb : b = x
    · rw [hb]; exact .inr nx
    · exact .inl fun z => vb (by rw [setC_ne hb]; exact z)
  · by_cases hb : b = x
    · subst hb
      rw [setC_same] at e; cases e
      exact ⟨_, upd_same, .ins .nil⟩
    · rw [setC_ne hb] at e
      obtain ⟨w, k1, k2⟩ := gd b c e
      exact ⟨w, same b w k1, k2.ext ⟨fun a xs h => same a _ h, fun a o u h => same a _ h⟩⟩
theorem tMake_E {E0 : XK} (tk : Tk (cellR K H0 t0) sp fs) : ∀ σ H Q, E (cellR K H0 t0) (wMake C fs wr) σ H Q → tMake C sp [] E0 (EA (cellR K H0 t0) wr) σ H Q := fun σ H Q ⟨ρ, t, Φ, ok, q, k⟩ =>
  ⟨ρ, t, _, ok, q, fun H1 t1 vs ds g hD q1 x dx nx nd ne => by
    have gm := go_make (K := K) (H0 := H0) (t0 := t0) (C := C) (t := t1) g.gd nx nd ne
    have tx : t1 x = none := by
      cases h : t1 x with
      | none => rfl
      | some c => exact absurd nx (Rg.there (R := cellR K H0 t0) g.gd (vol_of h))
    rw [List.append_nil]
    refine tk _ _ _ _ _ _ E0 gm.gd (.cons (.hdl x) (hD.ext (gm.ext g.gd))) (q1 x tx) fun H' t' v d g3 hd ⟨e, q⟩ => ?_
    subst e
    cases hd
    exact ⟨rfl, k H' t' _ _ ((g.trans gm).trans g3) (.hdl x) q⟩⟩
theorem E_make (c : CalK X.prog X.w X.K X.mg X.base kk C x ps sp) (hr : Room (kk + 1) X.A) (hg : Gl X x) (tk : Tk (cellR K H0 t0) sp fs) (ha : PA X (e :: es) (EA (cellR K H0 t0) wr)) (hdb : (x == ("__debug__" : Str)) = false := by decide)
    (he : starEach (e :: es) X.env = (false, eval e X.env) :: starEach es X.env := by rfl) (hpl : (backTo pos (starEach es X.env)).any (·.1) = false := by rfl) : PE X (.Call (.Name x p) (e :: es) [] pos) (E (cellR K H0 t0) (wMake C fs wr)) := by
  obtain ⟨f, fd, F, hm, hx, hb⟩ := c.ex
  exact PE_imp (pe_make hm F hr hg hx hb .nil pass0 ha hdb he hpl) (tMake_E (E0 := _) tk)
end
section
variable {P : Program} {w : World} {K : PySem.W.Frag} {mg : Str → Option Value} {base : Heap}
theorem ok_C {x qual : Str} {st : Stmt} {f : Addr} {fd : FuncData} {N ps : List Str} {k n : Nat} {fs : FST Cs} {ww : WS Cs} (F : Fun K x qual st f fd) (sc : FnScope N ps (defScope st)) (hn : ps.length = n)
    (hb : ∀ (cdv : Value) (A : Around) (outer : List PySem.Env) (s : Shared) (H : Hp) (E : XK) (t : Cs), Room k (A.deeper (PyProof.Rows.envOfC qual (defScope st) s.heap.objs.size f cdv)) →
      PSs (cxOf CX0 P w K mg base N qual (defScope st) f cdv A outer s H E).nox (defBody st) (S (cellR K H t) ww))
    (hv : ∀ ds Φ t, ds.length = n → fs ds Φ t → ww (startE N ds) { nx := fun _ t' => Φ .non t', rt := Φ } t) : FnOk P w K mg base CX0 (k + 1) f fd ps (spC K n fs) := by
  refine F.ok sc (fun vs H Q E h => ?_) (fun cdv A outer s H vs Q E hr h => ?_)
  · obtain ⟨t, ds, Φ, hl, _, hD, _⟩ := h
    rw [← hD.len, hl, hn]
  · obtain ⟨t, ds, Φ, hl, gd, hD, hf, q⟩ := h
    refine ⟨_, hb cdv A outer s H E t hr, startE N ds, t, _, start_ok (R := cellR K H t) (t := t) gd rfl rfl hD, hv ds Φ t hl hf, ?_⟩
    exact ⟨fun σ' H' ρ' t' _ ok' hq => q H' t' .non .non ⟨ok'.st, ok'.gd⟩ .non hq, fun v H' d' t' st gd hd hq => q H' t' v d' ⟨st, gd⟩ hd hq, fun _ _ _ _ _ _ z => z.elim, fun _ _ _ _ _ _ z => z.elim⟩
/-- a def that changes nothing but what it has made -/
theorem ok_PC {x qual : Str} {st : Stmt} {f : Addr} {fd : FuncData} {N ps : List Str} {k n : Nat} {fs : FS} {ww : WS Cs} (F : Fun K x qual st f fd) (sc : FnScope N ps (defScope st)) (hn : ps.length = n)
    (hb : ∀ (cdv : Value) (A : Around) (outer : List PySem.Env) (s : Shared) (H : Hp) (E : XK), Room k (A.deeper (PyProof.Rows.envOfC qual (defScope st) s.heap.objs.size f cdv)) →
      PSs (cxOf CX0 P w K mg base N qual (defScope st) f cdv A outer s H E).nox (defBody st) (S (cellR K H fun _ => none) ww))
    (hv : ∀ ds Φ, ds.length = n → fs ds Φ → ww (startE N ds) { nx := fun _ _ => Φ .non, rt := fun d _ => Φ d } fun _ => none) : FnOk P w K mg base CX0 (k + 1) f fd ps (spP K n fs) := by
  refine F.ok sc (fun vs H Q E h => ?_) (fun cdv A outer s H vs Q E hr h => ?_)
  · obtain ⟨ds, Φ, hl, hD, _⟩ := h
    rw [← hD.len, hl, hn]
  · obtain ⟨ds, Φ, hl, hD, hf, q⟩ := h
    have sm : ∀ {t' : Cs} {H' : Hp}, (cellR K H fun _ => none).Step (fun _ => none) H t' H' → Same H H' := fun h a o e => h.st a o e fun z => z rfl
    have gd : CsOk K (fun _ => none) H := fun a c e => nomatch e
    refine ⟨_, hb cdv A outer s H E hr, startE N ds, fun _ => none, _, start_ok (R := cellR K H fun _ => none) (t := fun _ => none) gd rfl rfl hD, hv ds Φ hl hf, ?_⟩
    exact ⟨fun σ' H' ρ' t' _ ok' hq => q H' .non .non (sm ok'.st) .non hq, fun v H' d t' st _ hd hq => q H' v d (sm st) hd hq, fun _ _ _ _ _ _ z => z.elim, fun _ _ _ _ _ _ z => z.elim⟩
end
end J

set_option Elab.async false
set_option linter.all false
set_option maxRecDepth 100000
set_option maxHeartbeats 4000000
/-! J20: the table of a linear program, as an object; what its methods promise. -/
namespace J
open PySem PySem.Spec L2 RZ LP
/-- a list of data, by a function -/
def fnL (w : Nat) (f : Nat → Int) : List Int := (List.range w).map f
theorem fnL_len (w : Nat) (f : Nat → Int) : (fnL w f).length = w := by rw [fnL, List.length_map, List.length_range]
theorem fnL_at {w : Nat} {f : Nat → Int} {k : Nat} (h : k < w) : (fnL w f)[k]? = some (f k) := by
  rw [fnL, List.getElem?_map, List.getElem?_range h]; rfl
theorem atI_rng {α : Type} {w : Nat} {f : Nat → α} {k : Nat} (h : k < w) : atI ((List.range w).map f) (k : Int) = some (f k) :=
  atI_nat (by rw [List.getElem?_map, List.getElem?_range h]; rfl)
theorem atI_last {α : Type} {w : Nat} {f : Nat → α} : atI ((List.range (w + 1)).map f) (-1) = some (f w) := by
  have h : ixN ((List.range (w + 1)).map f).length (-1) = some w := by
    rw [List.length_map, List.length_range]
    unfold ixN
    simp
    omega
  unfold atI
  rw [h]
  simp
theorem fn_at {w : Nat} {f : Nat → Int} {k : Nat} (h : k < w) : atI ((fnL w f).map D.int) (k : Int) = some (.int (f k)) := by
  rw [fnL, List.map_map]
  exact atI_rng (f := D.int ∘ f) h
theorem fn_last {w : Nat} {f : Nat → Int} : atI ((fnL (w + 1) f).map D.int) (-1) = some (.int (f w)) := by
  rw [fnL, List.map_map]
  exact atI_last (f := D.int ∘ f)
theorem enum_len (ds : List D) : (enumD ds).length = ds.length := by unfold enumD; rw [List.length_map, List.length_range]
theorem enum_rng {m k : Nat} {F : Nat → D} {d : D} (h : (enumD ((List.range m).map F))[k]? = some d) : k < m ∧ d = .tup [.int (k : Nat), F k] := by
  have hk : k < m := by
    apply Classical.byContradiction
    intro hn
    rw [List.getElem?_eq_none (by rw [enum_len, List.length_map, List.length_range]; omega)] at h
    cases h
  refine ⟨hk, ?_⟩
  unfold enumD at h
  rw [List.getElem?_map, List.getElem?_range (by rw [List.length_map, List.length_range]; exact hk)] at h
  simp [hk] at h
  exact h.symm
theorem enumD_rng {m : Nat} {F : Nat → D} : enumD ((List.range m).map F) = (List.range m).map fun k => D.tup [.int (k : Nat), F k] := by
  unfold enumD
  rw [List.length_map, List.length_range]
  refine List.map_congr_left fun i hi => ?_
  have hi := List.mem_range.mp hi
  simp [hi]
theorem zipD_fn (w : Nat) (f g : Nat → Int) : zipD ((fnL w f).map .int) ((fnL w g).map .int) = (List.range w).map fun l => D.tup [.int (f l), .int (g l)] := by
  unfold zipD fnL
  rw [List.map_map, List.map_map, List.zip_map', List.map_map]
  rfl
theorem dLI_fn (w : Nat) (f : Nat → Int) : dLI (fnL w f) = .lst ((List.range w).map fun l => D.int (f l)) := by
  show D.lst ((fnL w f).map .int) = _
  unfold fnL; rw [List.map_map]; rfl
theorem if_abs {T : Type} {tt : WB T} {w1 w2 : WS T} {ρ : Env} {Φ : DE T} {t : T} (h : ∀ WA WB, WA = w1 → WB = w2 → tt ρ (fun b t => if b = true then WA ρ Φ t else WB ρ Φ t) t) : wIfS tt w1 w2 ρ Φ t := h w1 w2 rfl rfl
theorem lcRun_mapS {T : Type} {α : Type} {f : D → (List D → T → Prop) → T → Prop} (enc : α → D) (g : α → D) (xs : List α) {Φ : List D → T → Prop} {t : T} (h : ∀ x ∈ xs, ∀ K, K [g x] t → f (enc x) K t) (q : Φ (xs.map g) t) : lcRun f (xs.map enc) [] Φ t := by
  refine lcRun_inv (fun k acc t' => t' = t ∧ acc = (xs.take k).map g) _ ⟨rfl, rfl⟩ (fun k d acc K t' hd ⟨e1, e2⟩ hK => ?_) ?_
  · subst e1 e2
    obtain ⟨x, hx, rfl⟩ := map_at hd
    refine h x (List.mem_of_getElem? hx) K (hK _ t' ⟨rfl, ?_⟩)
    rw [take_succ_at hx, List.map_append]; rfl
  · rintro acc t' ⟨rfl, rfl⟩
    rw [List.length_map, List.take_length]
    exact q
theorem fnL_split (n m : Nat) (f : Nat → Int) : fnL (n + m + 1) f = fnL n f ++ fnL m (fun q => f (n + q)) ++ [f (n + m)] := by
  unfold fnL
  rw [List.range_succ, List.map_append, List.range_add, List.map_append, List.map_map]
  rfl
theorem fnL_congr {w : Nat} {f g : Nat → Int} (h : ∀ l, l < w → f l = g l) : fnL w f = fnL w g := List.map_congr_left fun l hl => h l (List.mem_range.mp hl)
theorem fnL_sum (w : Nat) (f : Nat → Int) : (fnL w f).sum = sg w f := by
  induction w with
  | zero => rfl
  | succ w ih =>
    unfold fnL at ih ⊢
    unfold sg
    rw [List.range_succ, List.map_append, List.sum_append, ih]
    simp
abbrev dMx (m w : Nat) (F : Nat → Nat → Int) : D := .lst ((List.range m).map fun k => dLI (fnL w (F k)))
def tf5 (a b c d e : D) : List (Str × D) := [("many", a), ("scale", b), ("rows", c), ("base", d), ("costs", e)]
section
variable (a b c d e x : D)
theorem lk_many : (tf5 a b c d e).lookup ("many" : Str) = some a := rfl
theorem lk_scale : (tf5 a b c d e).lookup ("scale" : Str) = some b := rfl
theorem lk_rows : (tf5 a b c d e).lookup ("rows" : Str) = some c := rfl
theorem lk_base : (tf5 a b c d e).lookup ("base" : Str) = some d := rfl
theorem lk_costs : (tf5 a b c d e).lookup ("costs" : Str) = some e := rfl
theorem lk_m1 : (tf5 a b c d e).lookup ("column" : Str) = none := rfl
theorem lk_m2 : (tf5 a b c d e).lookup ("row" : Str) = none := rfl
theorem lk_m3 : (tf5 a b c d e).lookup ("cleared" : Str) = none := rfl
theorem lk_m4 : (tf5 a b c d e).lookup ("exchange" : Str) = none := rfl
theorem lk_m5 : (tf5 a b c d e).lookup ("run" : Str) = none := rfl
theorem ne_s1 : (("many" : Str) = "scale") = False := eq_false (by decide +kernel)
theorem ne_s2 : (("many" : Str) = "rows") = False := eq_false (by decide +kernel)
theorem ne_s3 : (("many" : Str) = "base") = False := eq_false (by decide +kernel)
theorem ne_s4 : (("many" : Str) = "costs") = False := eq_false (by decide +kernel)
theorem ne_s5 : (("scale" : Str) = "rows") = False := eq_false (by decide +kernel)
theorem ne_s6 : (("scale" : Str) = "base") = False := eq_false (by decide +kernel)
theorem ne_s7 : (("scale" : Str) = "costs") = False := eq_false (by decide +kernel)
theorem ne_s8 : (("rows" : Str) = "base") = False := eq_false (by decide +kernel)
theorem ne_s9 : (("rows" : Str) = "costs") = False := eq_false (by decide +kernel)
theorem ne_s0 : (("base" : Str) = "costs") = False := eq_false (by decide +kernel)
theorem ln_5 : (tf5 a b c d e).length < 1000 := by show 5 < 1000; decide
def tf1 (a : D) : List (Str × D) := [("many", a)]
def tf2 (a b : D) : List (Str × D) := [("many", a), ("scale", b)]
def tf3 (a b c : D) : List (Str × D) := [("many", a), ("scale", b), ("rows", c)]
def tf4 (a b c d : D) : List (Str × D) := [("many", a), ("scale", b), ("rows", c), ("base", d)]
theorem ln_0 : ([] : List (Str × D)).length < 1000 := by decide
theorem ln_1 : (tf1 a).length < 1000 := by show 1 < 1000; decide
theorem ln_2 : (tf2 a b).length < 1000 := by show 2 < 1000; decide
theorem ln_3 : (tf3 a b c).length < 1000 := by show 3 < 1000; decide
theorem ln_4 : (tf4 a b c d).length < 1000 := by show 4 < 1000; decide
theorem pp_1 : putS "many" a [] = tf1 a := rfl
theorem pp_2 : putS "scale" b (tf1 a) = tf2 a b := by simp only [tf1, tf2, putS, ne_s1, if_false, if_true]
theorem pp_3 : putS "rows" c (tf2 a b) = tf3 a b c := by simp only [tf2, tf3, putS, ne_s2, ne_s5, if_false, if_true]
theorem pp_3' : putS "rows" x (tf3 a b c) = tf3 a b x := by simp only [tf3, putS, ne_s2, ne_s5, if_false, if_true]
theorem pp_4 : putS "base" d (tf3 a b c) = tf4 a b c d := by simp only [tf3, tf4, putS, ne_s3, ne_s6, ne_s8, if_false, if_true]
theorem pp_5 : putS "costs" e (tf4 a b c d) = tf5 a b c d e := by simp only [tf4, tf5, putS, ne_s4, ne_s7, ne_s9, ne_s0, if_false, if_true]
theorem lk3_rows : (tf3 a b c).lookup ("rows" : Str) = some c := rfl
theorem lk3_many : (tf3 a b c).lookup ("many" : Str) = some a := rfl
theorem lk4_many : (tf4 a b c d).lookup ("many" : Str) = some a := rfl
theorem pu_scale : putS "scale" x (tf5 a b c d e) = tf5 a x c d e := by simp only [tf5, putS, ne_s1, if_false, if_true]
theorem pu_rows : putS "rows" x (tf5 a b c d e) = tf5 a b x d e := by simp only [tf5, putS, ne_s2, ne_s5, if_false, if_true]
theorem pu_base : putS "base" x (tf5 a b c d e) = tf5 a b c x e := by simp only [tf5, putS, ne_s3, ne_s6, ne_s8, if_false, if_true]
theorem pu_costs : putS "costs" x (tf5 a b c d e) = tf5 a b c d x := by simp only [tf5, putS, ne_s4, ne_s7, ne_s9, ne_s0, if_false, if_true]
end
abbrev tfs (n m : Nat) (tb : Tb) (pb : Addr) : List (Str × D) := tf5 (.int n) (.int tb.s) (dMx m (n + m + 1) tb.T) (.hdl pb) (dLI (fnL (n + m + 1) tb.c))
structure TblAt (C o : Addr) (n m : Nat) (tb : Tb) (t : Cs) : Prop where
  ex : ∃ pb, t o = some (.ins C (tfs n m tb pb)) ∧ t pb = some (.lst ((List.range m).map fun k => D.int (tb.β k))) ∧ pb ≠ o
/-- all numbers of a table are small enough -/
structure Tsm (n m : Nat) (tb : Tb) : Prop where
  s : Sm 9000 tb.s
  T : ∀ k, k < m → ∀ l, l < n + m + 1 → Sm 9000 (tb.T k l)
  c : ∀ l, l < n + m + 1 → Sm 9000 (tb.c l)
  w : n + m + 1 ≤ 10000
def fs_Table_init (C : Addr) : FST Cs := fun ds Φ t => ∃ o m n, ∃ (A : Mx) (b : Nat → Int), ds = [.hdl o, dMx m n fun x l => A l x, dLI (fnL m b)] ∧ t o = some (.ins C []) ∧ 1 ≤ m ∧ n + m + 1 ≤ 10000 ∧ ∀ t', TblAt C o n m (first (prob m n A b)) t' → Φ .non t'
def ColIs (n : Nat) (tb : Tb) (d : D) : Prop := (∃ j : Nat, d = .int j ∧ j < n ∧ tb.c j < 0 ∧ ∀ l, l < j → 0 ≤ tb.c l) ∨ (d = .non ∧ ∀ l, l < n → 0 ≤ tb.c l)
def fs_Table_column (C : Addr) : FST Cs := fun ds Φ t => ∃ o n m tb, ds = [.hdl o] ∧ TblAt C o n m tb t ∧ n + m + 1 ≤ 10000 ∧ ∀ d, ColIs n tb d → Φ d t
def fs_Table_row (C : Addr) : FST Cs := fun ds Φ t => ∃ o n m tb j, ds = [.hdl o, .int (j : Nat)] ∧ TblAt C o n m tb t ∧ Tsm n m tb ∧ j < n ∧ (∃ i, i < m ∧ 0 < tb.T i j) ∧
  ∀ i, i < m → 0 < tb.T i j → (∀ k, k < m → 0 < tb.T k j → tb.T i (n + m) * tb.T k j ≤ tb.T k (n + m) * tb.T i j) → (∀ k, k < m → 0 < tb.T k j → tb.T i (n + m) * tb.T k j = tb.T k (n + m) * tb.T i j → tb.β i ≤ tb.β k) → Φ (.int i) t
def fs_Table_cleared (C : Addr) : FST Cs := fun ds Φ t => ∃ o n m tb w f g j, ds = [.hdl o, dLI (fnL w f), dLI (fnL w g), .int (j : Nat)] ∧ TblAt C o n m tb t ∧ Sm 9000 tb.s ∧ 0 < tb.s ∧ j < w ∧ w ≤ 10000 ∧ (∀ l, l < w → Sm 9000 (f l) ∧ Sm 9000 (g l)) ∧
  Φ (dLI (fnL w fun l => (g j * f l - f j * g l) / tb.s)) t
def fs_Table_exchange (C : Addr) : FST Cs := fun ds Φ t => ∃ o n m tb i j, ds = [.hdl o, .int (i : Nat), .int (j : Nat)] ∧ TblAt C o n m tb t ∧ Tsm n m tb ∧ 0 < tb.s ∧ i < m ∧ j < n ∧ ∀ t', TblAt C o n m (ex tb i j) t' → Φ .non t'
def fs_Table_run (C : Addr) : FST Cs := fun ds Φ t => ∃ o n m, ∃ (A : Mx) (b : Nat → Int), ∃ tb a, ds = [.hdl o] ∧ TblAt C o n m tb t ∧ Inv (prob m n A b) tb ∧ Bdd (prob m n A b) a ∧ (m + 2) * dbd m a < 2 ^ 9000 ∧ n + m + 1 ≤ 10000 ∧
  ∀ t' tb', TblAt C o n m tb' t' → Inv (prob m n A b) tb' → (∀ l, l < n → 0 ≤ tb'.c l) → Φ .non t'
def fs_solved : FS := fun ds Φ => ∃ m n, ∃ (A : Mx) (b : Nat → Int), ∃ a, ds = [dMx m n fun x l => A l x, dLI (fnL m b)] ∧ 1 ≤ m ∧ n + m + 1 ≤ 10000 ∧ 0 < a ∧ ∃ B, B ≤ 9000 ∧ (m + 2) * dbd m a < 2 ^ B ∧ (∀ l, l < n → ∀ x, x < m → (A l x).natAbs ≤ a) ∧ (∀ x, x < m → 0 ≤ b x ∧ (b x).natAbs ≤ a) ∧
  (∀ (f : Nat → Int) (s : Int), 0 < s → (∀ l, 0 ≤ f l) → (∀ x, x < m → sg n (fun l => f l * A l x) = s * b x) → Sm B s → (∀ l, l < n → Sm B (f l)) → Φ (.tup [.tup [dLI (fnL n f), .int s], .non])) ∧
  (∀ y : Nat → Int, (∀ l, l < n → sg m (fun x => y x * A l x) ≤ 0) → 0 < sg m (fun x => y x * b x) → (∀ x, x < m → Sm B (y x)) → Φ (.tup [.non, dLI (fnL m y)]))
theorem Inv.tsm {n m a : Nat} {A : Mx} {b : Nat → Int} {tb : Tb} (h : Inv (prob m n A b) tb) (bd : Bdd (prob m n A b) a) (hb : (m + 2) * dbd m a < 2 ^ 9000) (hw : n + m + 1 ≤ 10000) : Tsm n m tb := by
  have h1 : dbd m a ≤ (m + 2) * dbd m a := Nat.le_mul_of_pos_left _ (by omega)
  have h2 : (m + 1) * dbd m a ≤ (m + 2) * dbd m a := Nat.mul_le_mul_right _ (by omega)
  refine ⟨?_, fun k hk l hl => ?_, fun l hl => ?_, hw⟩
  · exact Nat.lt_of_le_of_lt (Nat.le_trans (h.bs bd) h1) hb
  · exact Nat.lt_of_le_of_lt (Nat.le_trans (h.bT bd hk hl) h1) hb
  · exact Nat.lt_of_le_of_lt (Nat.le_trans (h.bc bd hl) h2) hb
/-- the number that leaves: a less one is better -/
theorem rat_tr {a p b q c r : Int} (hp : 0 < p) (hq : 0 < q) (hr : 0 < r) (h1 : a * q ≤ b * p) (h2 : b * r ≤ c * q) : a * r ≤ c * p := by
  refine Int.le_of_mul_le_mul_left (a := q) ?_ hq
  have e1 : q * (a * r) = (a * q) * r := by rw [Int.mul_left_comm, Int.mul_assoc]; 
  have e2 : q * (c * p) = (c * q) * p := by rw [Int.mul_left_comm, Int.mul_assoc]
  rw [e1, e2]
  refine Int.le_trans (Int.mul_le_mul_of_nonneg_right h1 (Int.le_of_lt hr)) ?_
  have e3 : b * p * r = (b * r) * p := by rw [Int.mul_right_comm]
  rw [e3]
  exact Int.mul_le_mul_of_nonneg_right h2 (Int.le_of_lt hp)
theorem rat_trs {a p b q c r : Int} (hp : 0 < p) (hq : 0 < q) (hr : 0 < r) (h1 : a * q < b * p) (h2 : b * r ≤ c * q) : a * r < c * p := by
  refine Int.lt_of_mul_lt_mul_left (a := q) ?_ (Int.le_of_lt hq)
  have e1 : q * (a * r) = (a * q) * r := by rw [Int.mul_left_comm, Int.mul_assoc]
  have e2 : q * (c * p) = (c * q) * p := by rw [Int.mul_left_comm, Int.mul_assoc]
  rw [e1, e2]
  refine Int.lt_of_lt_of_le (Int.mul_lt_mul_of_pos_right h1 hr) ?_
  have e3 : b * p * r = (b * r) * p := by rw [Int.mul_right_comm]
  rw [e3]
  exact Int.mul_le_mul_of_nonneg_right h2 (Int.le_of_lt hp)
/-- the best row of the first k rows -/
structure BestR (n m : Nat) (tb : Tb) (j k i : Nat) : Prop where
  im : i < k
  pos : 0 < tb.T i j
  rat : ∀ l, l < k → 0 < tb.T l j → tb.T i (n + m) * tb.T l j ≤ tb.T l (n + m) * tb.T i j
  tie : ∀ l, l < k → 0 < tb.T l j → tb.T i (n + m) * tb.T l j = tb.T l (n + m) * tb.T i j → tb.β i ≤ tb.β l
theorem BestR.skip {n m j k i : Nat} {tb : Tb} (h : BestR n m tb j k i) (hn : ¬ 0 < tb.T k j) : BestR n m tb j (k + 1) i :=
  ⟨by have := h.im; omega, h.pos, fun l hl hp => by
    by_cases e : l = k
    · subst e; exact absurd hp hn
    · exact h.rat l (by omega) hp, fun l hl hp => by
    by_cases e : l = k
    · subst e; exact absurd hp hn
    · exact h.tie l (by omega) hp⟩
theorem BestR.keep {n m j k i : Nat} {tb : Tb} (h : BestR n m tb j k i) (hk : ¬ (tb.T k (n + m) * tb.T i j < tb.T i (n + m) * tb.T k j ∨ (tb.T k (n + m) * tb.T i j = tb.T i (n + m) * tb.T k j ∧ (tb.β k : Int) < tb.β i))) : BestR n m tb j (k + 1) i :=
  ⟨by have := h.im; omega, h.pos, fun l hl hp => by
    by_cases e : l = k
    · subst e; omega
    · exact h.rat l (by omega) hp, fun l hl hp he => by
    by_cases e : l = k
    · subst e; omega
    · exact h.tie l (by omega) hp he⟩
theorem BestR.take {n m j k i : Nat} {tb : Tb} (h : BestR n m tb j k i) (hp : 0 < tb.T k j) (hk : tb.T k (n + m) * tb.T i j < tb.T i (n + m) * tb.T k j ∨ (tb.T k (n + m) * tb.T i j = tb.T i (n + m) * tb.T k j ∧ (tb.β k : Int) < tb.β i)) : BestR n m tb j (k + 1) k := by
  refine ⟨by omega, hp, fun l hl hpl => ?_, fun l hl hpl he => ?_⟩
  · by_cases e : l = k
    · subst e; exact Int.le_refl _
    · exact rat_tr hp h.pos hpl (by omega) (h.rat l (by omega) hpl)
  · by_cases e : l = k
    · subst e; exact Nat.le_refl _
    · rcases hk with hk | ⟨h1, h2⟩
      · have := rat_trs hp h.pos hpl hk (h.rat l (by omega) hpl)
        omega
      · have t1 : tb.T i (n + m) * tb.T l j ≤ tb.T l (n + m) * tb.T i j := h.rat l (by omega) hpl
        have t2 : tb.T l (n + m) * tb.T i j ≤ tb.T i (n + m) * tb.T l j := by
          have t3 := rat_tr (a := tb.T l (n + m)) (b := tb.T k (n + m)) (c := tb.T i (n + m)) hpl hp h.pos (by omega) (by omega)
          omega
        have := h.tie l (by omega) hpl (by omega)
        omega
theorem BestR.one {n m j k : Nat} {tb : Tb} (hn : ∀ l, l < k → ¬ 0 < tb.T l j) (hp : 0 < tb.T k j) : BestR n m tb j (k + 1) k :=
  ⟨by omega, hp, fun l hl hpl => by
    by_cases e : l = k
    · subst e; exact Int.le_refl _
    · exact absurd hpl (hn l (by omega)), fun l hl hpl he => by
    by_cases e : l = k
    · subst e; exact Nat.le_refl _
    · exact absurd hpl (hn l (by omega))⟩
theorem C_lt {m n : Nat} {A : Mx} {b : Nat → Int} {l x : Nat} (h : l < n) : (prob m n A b).C l x = A l x := by
  show (if l < n then A l x else _) = _
  rw [if_pos h]
theorem C_help {m n : Nat} {A : Mx} {b : Nat → Int} {q x : Nat} (h : q < m) : (prob m n A b).C (n + q) x = if q = x then 1 else 0 := by
  show (if n + q < n then A (n + q) x else if n + q < n + m then (if n + q - n = x then (1 : Int) else 0) else b x) = _
  rw [if_neg (by omega), if_pos (by omega), Nat.add_sub_cancel_left]
theorem C_rest {m n : Nat} {A : Mx} {b : Nat → Int} {x : Nat} : (prob m n A b).C (n + m) x = b x := by
  show (if n + m < n then A (n + m) x else if n + m < n + m then (if n + m - n = x then (1 : Int) else 0) else b x) = _
  rw [if_neg (by omega), if_neg (by omega)]
theorem first_row (m n : Nat) (A : Mx) (b : Nat → Int) (k : Nat) : dLI (fnL (n + m + 1) ((first (prob m n A b)).T k)) = .lst ((fnL n fun l => A l k).map D.int ++ (List.range m).map (fun q => D.int (if q = k then 1 else 0)) ++ [D.int (b k)]) := by
  rw [fnL_split]
  have e1 : fnL n ((first (prob m n A b)).T k) = fnL n fun l => A l k := fnL_congr fun l hl => C_lt hl
  have e2 : fnL m (fun q => (first (prob m n A b)).T k (n + q)) = fnL m fun q => if q = k then 1 else 0 := fnL_congr fun q hq => C_help hq
  have e3 : (first (prob m n A b)).T k (n + m) = b k := C_rest
  rw [e1, e2, e3]
  show D.lst (List.map D.int _) = _
  rw [List.map_append, List.map_append]
  have e4 : (fnL m fun q => if q = k then (1 : Int) else 0).map D.int = (List.range m).map fun q => D.int (if q = k then 1 else 0) := by
    unfold fnL
    rw [List.map_map]
    rfl
  rw [e4]
  rfl
theorem first_costs (m n : Nat) (A : Mx) (b : Nat → Int) : dLI (fnL (n + m + 1) (first (prob m n A b)).c) = .lst ((List.range n).map (fun l => D.int (0 - sg m (A l))) ++ (List.replicate m (0 : Int)).map D.int ++ [D.int (0 - sg m b)]) := by
  rw [fnL_split]
  have hc : ∀ l, (first (prob m n A b)).c l = (prob m n A b).d l - sg m fun q => (prob m n A b).C l q := fun l => rfl
  have ph := prob_ph m n A b
  have e1 : fnL n (first (prob m n A b)).c = fnL n fun l => 0 - sg m (A l) := fnL_congr fun l hl => by
    rw [hc, ph.d0 l hl]
    congr 1
    exact sg_congr fun q hq => C_lt hl
  have e2 : fnL m (fun q => (first (prob m n A b)).c (n + q)) = List.replicate m 0 := by
    have : fnL m (fun q => (first (prob m n A b)).c (n + q)) = fnL m fun _ => 0 := fnL_congr fun q hq => by
      rw [hc, show (prob m n A b).d (n + q) = 1 from ph.d1 q hq, sg_congr (g := fun x => if q = x then (1 : Int) else 0) fun x hx => C_help hq, sg_one hq fun i hi hn => by rw [if_neg (Ne.symm hn)], if_pos rfl]
      rfl
    rw [this, fnL]
    exact List.map_const' ..  |>.trans (by rw [List.length_range])
  have e3 : (first (prob m n A b)).c (n + m) = 0 - sg m b := by
    rw [hc, show (prob m n A b).d (n + m) = 0 from ph.dr]
    congr 1
    exact sg_congr fun q hq => C_rest
  rw [e1, e2, e3]
  show D.lst (List.map D.int _) = _
  rw [List.map_append, List.map_append]
  have e4 : (fnL n fun l => 0 - sg m (A l)).map D.int = (List.range n).map fun l => D.int (0 - sg m (A l)) := by
    unfold fnL
    rw [List.map_map]
    rfl
  rw [e4]
  rfl
theorem Inv.ysm {n m a x B : Nat} {A : Mx} {b : Nat → Int} {tb : Tb} (h : Inv (prob m n A b) tb) (bd : Bdd (prob m n A b) a) (hb : (m + 2) * dbd m a < 2 ^ B) (hx : x < m) : Sm B (tb.s - tb.c (n + x)) := by
  have h1 : tb.s.natAbs ≤ dbd m a := h.bs bd
  have h2 : (tb.c (n + x)).natAbs ≤ (m + 1) * dbd m a := h.bc bd (by show n + x < n + m + 1; omega)
  have e : (m + 2) * dbd m a = (m + 1) * dbd m a + dbd m a := by rw [Nat.succ_mul]
  show (tb.s - tb.c (n + x)).natAbs < 2 ^ B
  omega
/-- what is found of the first k rows -/
def solK (n m k : Nat) (tb : Tb) (l : Nat) : Int := sg k fun q => if tb.β q = l then tb.T q (n + m) else 0
theorem solK_set {n m k : Nat} {A : Mx} {b : Nat → Int} {tb : Tb} (h : Inv (prob m n A b) tb) (hk : k < m) (hn : tb.β k < n) : ((fnL n (solK n m k tb)).map D.int).set (tb.β k) (.int (tb.T k (n + m))) = (fnL n (solK n m (k + 1) tb)).map D.int := by
  refine List.ext_getElem? fun l => ?_
  rw [List.getElem?_set]
  by_cases hl : l < n
  · rw [List.getElem?_map, List.getElem?_map, fnL_at hl, fnL_at hl, List.length_map, fnL_len]
    show _ = some (D.int (sg (k + 1) fun q => if tb.β q = l then tb.T q (n + m) else 0))
    unfold sg
    by_cases e : tb.β k = l
    · rw [if_pos e, if_pos (by omega), if_pos e, sg_zero fun q hq => ?_, Int.zero_add]
      rw [if_neg]
      intro z
      have := b_inj h (i := q) (k := k) (by show q < m; omega) hk (by rw [z, e])
      omega
    · rw [if_neg e, if_neg e, Int.add_zero]
      rfl
  · rw [List.getElem?_eq_none (by rw [List.length_map, fnL_len]; omega), List.getElem?_eq_none (by rw [List.length_map, fnL_len]; omega), if_neg (by omega)]
theorem solK_skip {n m k : Nat} {tb : Tb} (hn : ¬ tb.β k < n) : fnL n (solK n m k tb) = fnL n (solK n m (k + 1) tb) := fnL_congr fun l hl => by
  show solK n m k tb l = solK n m k tb l + (if tb.β k = l then tb.T k (n + m) else 0)
  rw [if_neg (by omega), Int.add_zero]
theorem solK_zero {n m : Nat} {tb : Tb} : (fnL n (solK n m 0 tb)).map D.int = (List.replicate n [D.int 0]).flatten := by
  rw [rep_ints]
  congr 1
  have : fnL n (solK n m 0 tb) = fnL n fun _ => 0 := fnL_congr fun l _ => rfl
  rw [this, fnL]
  exact List.map_const' .. |>.trans (by rw [List.length_range])
theorem sol_sm {n m a l B : Nat} {A : Mx} {b : Nat → Int} {tb : Tb} (h : Inv (prob m n A b) tb) (bd : Bdd (prob m n A b) a) (hb : (m + 2) * dbd m a < 2 ^ B) : Sm B (sol m n tb l) := by
  show (sg m fun q => if tb.β q = l then tb.T q (n + m) else 0).natAbs < 2 ^ B
  have : (sg m fun q => if tb.β q = l then tb.T q (n + m) else 0).natAbs ≤ m * dbd m a := sg_abs fun q hq => by
    split
    · exact h.bT bd hq (by show n + m < n + m + 1; omega)
    · exact Nat.zero_le _
  have e : m * dbd m a ≤ (m + 2) * dbd m a := Nat.mul_le_mul_right _ (by omega)
  omega
theorem Inv.ssm {n m a B : Nat} {A : Mx} {b : Nat → Int} {tb : Tb} (h : Inv (prob m n A b) tb) (bd : Bdd (prob m n A b) a) (hb : (m + 2) * dbd m a < 2 ^ B) : Sm B tb.s :=
  Nat.lt_of_le_of_lt (Nat.le_trans (h.bs bd) (Nat.le_mul_of_pos_left _ (by omega))) hb
theorem list_sum_at (m : Nat) (A : Nat → Nat → Int) (l : Nat) : ((List.range m).map fun k => A l k).sum = sg m (A l) := fnL_sum m (A l)
end J

set_option Elab.async false
set_option linter.all false
set_option maxRecDepth 100000
set_option maxHeartbeats 4000000
/-! J21: list(range(n)); a dict of tuples asked for None; dicts of tuples by comprehension. -/
namespace J
open PySem PySem.Spec L2 RZ PyProof.Rows
/-! ### asked for None -/
section
variable {P : Program} {w : World} {A : Around} {E : Value → Shared → Prop} {s : Shared}
theorem tells_none {stored : List Value} {Q : Bool → Shared → Prop} (hs : ∀ v ∈ stored, ∃ (k : List Key) (b : Addr), v = .ref b ∧ (tupleKind (mixKind P w)).is s.heap k b) (h : Q false s) : wpAny (model P w) A (tableMayTell .none stored) Q E s := by
  unfold tableMayTell
  by_cases e0 : stored.isEmpty = true
  · rw [if_pos e0]; exact wpAny_pure h
  · rw [if_neg e0, eqIsQuiet_byValue 8 (v := Value.none) rfl]
    refine wpAny_bind (wpAny_pure ?_)
    rw [if_neg (by decide)]
    refine wpAny_bind (wpAny_forIn_list _ (fun l b s' => s' = s ∧ b = (none, ()) ∧ ∀ v ∈ l, ∃ (k : List Key) (b : Addr), v = .ref b ∧ (tupleKind (mixKind P w)).is s.heap k b) _ ?_ ?_ _ _ ⟨rfl, rfl, hs⟩)
    · intro v l b s' ⟨e1, e2, hl⟩
      subst e1 e2
      obtain ⟨k, c, rfl, hc⟩ := hl v List.mem_cons_self
      refine wpAny_bind ((tupleKind (mixKind P w)).quiet hc ?_)
      rw [if_neg (by decide)]
      exact wpAny_pure ⟨rfl, rfl, fun u hu => hl u (List.mem_cons_of_mem _ hu)⟩
    · intro b s' ⟨e1, e2, _⟩
      subst e1 e2
      exact wpAny_pure h
/-- keys that are tuples of data without depth -/
def FlatKey (h : Heap) (b : Addr) : Prop := ∃ (ds : List PyData) (as : List Addr), Reads h (.ref b) (.tuple ds) as ∧ PyData.canLay0 (.tuple ds) = true
theorem find_none {d : Addr} {o : Obj} {es : Array DictEntry} {ep : Nat} {xs : List (List Key × Addr × Value)} {hv : Int} {Q : Option Nat → Shared → Prop} (hu : A.units < cLine)
    (ho : s.heap.get? d = some o) (hd : o.data = .dict es ep) (he : es.toList = xs.map (entryOfKey (tupleKind (mixKind P w)))) (his : ∀ x ∈ xs, (tupleKind (mixKind P w)).is s.heap x.1 x.2.1) (hf : ∀ x ∈ xs, FlatKey s.heap x.2.1) (h : Q none s) :
    wpAny (model P w) A (dictFind d .none hv) Q E s := by
  have key : ∀ (i : Nat) (e : DictEntry), es[i]? = some e → ∃ x ∈ xs, e = entryOfKey (tupleKind (mixKind P w)) x := fun i e hi => by
    have m : e ∈ es.toList := Array.mem_toList_iff.mpr (Array.mem_of_getElem? hi)
    rw [he] at m
    obtain ⟨x, hx, q⟩ := List.mem_map.mp m
    exact ⟨x, hx, q.symm⟩
  unfold dictFind
  refine wpAny_holding (wpAny_bind (wpAny_dictEntries ho hd ?_))
  dsimp only
  generalize hp : placesWithHash es.size (fun i => es[i]?.map (·.hash)) hv = places
  have hst : ∀ v ∈ places.filterMap (fun i => es[i]?.map (·.key)), ∃ (k : List Key) (b : Addr), v = .ref b ∧ (tupleKind (mixKind P w)).is s.heap k b := fun v hv => by
    obtain ⟨i, _, hi⟩ := List.mem_filterMap.mp hv
    cases q : es[i]? with
    | none => rw [q] at hi; cases hi
    | some e =>
      rw [q] at hi
      cases hi
      obtain ⟨x, hx, rfl⟩ := key i e q
      exact ⟨x.1, x.2.1, rfl, his x hx⟩
  by_cases hc : ((Value.none :: places.filterMap fun i => es[i]?.map (·.key)).all carriedByValue) = true
  · rw [if_pos hc]
    refine wpAny_bind (wpAny_forIn_list _ (fun l b s' => s' = s ∧ b = (none, ()) ∧ ∀ i ∈ l, i ∈ places) _ ?_ ?_ _ _ ⟨rfl, rfl, fun _ z => z⟩)
    · intro i l b s' ⟨e1, e2, hl⟩
      subst e1 e2
      cases q : es[i]? with
      | none => exact wpAny_pure ⟨rfl, rfl, fun j hj => hl j (List.mem_cons_of_mem _ hj)⟩
      | some e =>
        obtain ⟨x, hx, rfl⟩ := key i e q
        have hm : Value.ref x.2.1 ∈ places.filterMap fun i => es[i]?.map (·.key) := List.mem_filterMap.mpr ⟨i, hl i List.mem_cons_self, by rw [q]; rfl⟩
        have := List.all_eq_true.mp hc _ (List.mem_cons_of_mem _ hm)
        cases this
    · intro b s' ⟨e1, e2, _⟩
      subst e1 e2
      exact wpAny_pure h
  · rw [if_neg hc]
    split <;> first | refine wpAny_bind (wpAny_pure ?_) | refine wpAny_bind (tells_none hst ?_)
    all_goals
      rw [if_neg (by simp)]
      refine wpAny_bind (wpAny_forIn_list _ (fun l b s2 => s2 = s ∧ b = (none, none)) _ ?_ ?_ _ _ ⟨rfl, rfl⟩)
      · intro i l b s2 ⟨e1, e2⟩
        subst e1 e2
        cases q : es[i]? with
        | none => exact wpAny_pure ⟨rfl, rfl⟩
        | some e =>
          obtain ⟨x, hx, rfl⟩ := key i e q
          dsimp only
          split
          · obtain ⟨ds, as, r, cl⟩ := hf x hx
            refine wpAny_bind (wpAny_dictEpoch ho hd (wpAny_bind (PySem.SeqAt.eqBoolOverData P w A E s2 (.ref x.2.1) .none (.tuple ds) .none as [] _ r .none cl rfl (by simpa [PyData.depth] using hu) (wpAny_bind (wpAny_dictEpoch ho hd ?_)))))
            rw [if_neg (by simp)]
            have ef : PyData.eqv (.tuple ds) .none = false := by simp [PyData.eqv]
            rw [ef]
            refine wpAny_bind (wpAny_rule ?_)
            exact wpAny_pure ⟨rfl, rfl⟩
          · exact wpAny_pure ⟨rfl, rfl⟩
      · intro b s2 ⟨e1, e2⟩
        subst e1 e2
        exact wpAny_pure h
end
theorem meets_getN {P : Program} {w : World} (d : Addr) (hd : (d == sysModules) = false) (z : Value) :
    MeetsIn P w (Builtin.«dict.get» ⟨[.ref d, .none, z], []⟩) (fun A R s => A.units + 1 < cLine ∧ ∃ xs : List (List Key × Addr × Value), s.heap.DictOfH (tupleKind (mixKind P w)) d xs ∧ (∀ x ∈ xs, FlatKey s.heap x.2.1) ∧ R (.ok (.ret z)) { s with toks := s.toks + 1 }) :=
  .of_wp fun A R s ⟨hu, xs, ⟨o, es, ep, ho, ex, hdt, he, his, _⟩, hf, h⟩ => by
    show wpAny _ _ (dictGet d .none >>= _) _ _ s
    refine wpAny_bind ?_
    unfold dictGet
    refine wpAny_holding (wpAny_bind ?_)
    show wpAny _ _ (pyHashByItsType .none) _ _ s
    refine PySem.W.pyHash_slot (T := "NoneType") rfl PySem.F.slot_NoneType_hash PySem.F.entry_NoneType_hash (PySem.F.args_NoneType_hash_1 _) (beq_builtin_none _) (.inl rfl) (wpAny_bind (wpAny_pure (wpAny_bind (wpAny_mkInt (wpAny_pure ⟨_, _, rfl, ?_⟩)))))
    refine wpAny_bind (find_none (by have : A.in1.units ≤ A.units + 1 := by unfold Around.in1 Around.units; simp
                                     omega) ho hdt he his hf (wpAny_pure ?_))
    show wpAny _ _ (Builtin.Dict.missed d .none >>= _) _ _ _
    exact wpAny_bind (wpAny_missed_other hd (wpAny_pure ⟨z, rfl, h⟩))
theorem lay_ints (k : List Int) : PyData.canLay0 (.tuple (k.map PyData.int)) = true := by
  have : ∀ l : List Int, PyData.canLayAll0 (l.map PyData.int) = true := fun l => by
    induction l with
    | nil => rfl
    | cons a b ih => rw [List.map_cons, PyData.canLayAll0, ih]; rfl
  rw [PyData.canLay0]
  exact this k
/-! x.get(y, z), y a tuple or None -/
def tGetN (td ty tx : TE) : TE := fun σ H Q => td σ H fun x H1 => ∃ a, x = .ref a ∧ IsD H1 a ∧ ty σ H1 fun y H2 => tx σ H2 fun z H3 => (∃ o, DGet H3 a y o ∧ Q (o.getD z) H3) ∨ (y = .non ∧ (∃ kvs, ∃ ks : List (List Int), H3 a = some (.dT kvs) ∧ kvs.map (·.1) = ks.map (·.map Sum.inl)) ∧ Q z H3)
theorem pe_getN {X : Cx} {o e f : Expr} {apos cpos : Pos} {td ty tx : TE} (hu : X.A.units + 1 < cLine) (ho : PE X o td) (he : PE X e ty) (hf : PE X f tx) (m : M2 X o "get" apos e f cpos) : PE X (.Call (.Attribute o "get" apos) [e, f] [] cpos) (tGetN td ty tx) := by
  refine ⟨fun pins s σ H Q I q => wpAny_Call_method m.base m.few m.line PySem.F.plainAttrs_dict PySem.F.slot_dict_get PySem.F.type_dict_get ?_⟩
  refine thn (ho.run pins s σ H _ I q) fun ov s1 ⟨x, H1, I1, r1, a, e1, isd, q1⟩ => ?_
  subst e1
  cases (show ov = Value.ref a from r1)
  refine ⟨(isD_at I1 isd).1, (isD_at I1 isd).2.1, ?_⟩
  rw [m.trees]
  refine Calls.callWith_builtin rfl (Calls.evalArgs_plain (Calls.spliced_cons (thn (he.run pins s1 σ H1 _ I1 q1) fun kv s2 ⟨y, H2, I2, r2, q2⟩ => Calls.spliced_cons (thn (hf.run pins s2 σ H2 _ I2 q2) fun zv s3 ⟨z, H3, I3, r3, q3⟩ => Calls.spliced_nil ?_))))
  rcases q3 with ⟨ov2, g, q3⟩ | ⟨e2, ⟨kvs, ks, hk, hks⟩, q3⟩
  · exact d_get2 hu I3 g r2 r3 fun w4 s4 I4 r4 => ⟨_, H3, I4, r4, q3⟩
  · subst e2
    cases (show kv = Value.none from r2)
    obtain ⟨_, hd, xs, rel, dd⟩ := dt_of I3.hok hk
    have flat : ∀ (kvs : List (List Key × V)) (xs : List (List Key × Addr × Value)) (ks : List (List Int)), KT H3 kvs xs → kvs.map (·.1) = ks.map (·.map Sum.inl) → ∀ x ∈ xs, FlatKey s3.heap x.2.1 := by
      intro kvs xs ks r
      induction r generalizing ks with
      | nil => intro _ x hx; cases hx
      | @cons p q ps qs h t ih =>
        intro ek x hx
        cases ks with
        | nil => cases ek
        | cons k ks =>
          rw [List.map_cons, List.map_cons] at ek
          injection ek with k1 k2
          rcases List.mem_cons.mp hx with z | hx
          · subst z
            have hb := h.2.1
            rw [k1, inl_kV] at hb
            obtain ⟨as, ra⟩ := Dp.reads I3 (.tuple (k.map PyData.int)) (.ref x.2.1) (.ref x.2.1) (.tup (.inl (.inl hb)) (dp_ints k)) rfl
            exact ⟨_, as, ra, lay_ints k⟩
          · exact ih ks k2 x hx
    exact call_meetsIn PySem.F.slot_dict_get dd.typeIs PySem.F.entry_dict_get (PySem.F.args_dict_get_3 _ _ _) (meets_getN a hd zv) ⟨hu, xs, dd, flat kvs xs ks rel hks, ⟨_, H3, I3.tok _, r3, q3⟩⟩
section
variable {T : Type} {X : Cx} {R : Rg T}
def wDctGetN (i : Nat) (wk wd : W T) : W T := fun ρ Φ t => ∃ kvs, ρ[i]? = some (.dct kvs) ∧ wk ρ (fun kd t => wd ρ (fun d t => (kd = .non ∧ Φ d t) ∨ ∃ k, kd = dI k ∧ Φ ((lookK kvs k).getD d) t) t) t
theorem E_dctGetN {i : Nat} {a : Expr} {wk wd : W T} (h : PE X a (tGetN (tVar i) (E R wk) (E R wd))) : PE X a (E R (wDctGetN i wk wd)) := PE_imp h fun σ H Q ⟨ρ, t, Φ, ok, ⟨kvs, e, q⟩, kk⟩ => by
  obtain ⟨p, us, h1, h2, h3, h4, _⟩ := ok.dct i kvs e
  refine ⟨_, h1, p, rfl, .inr ⟨us, .inl h2⟩, ρ, _, _, ok, q, fun H1 t1 y kd g1 hk q1 => ⟨ρ, _, _, ok.go g1, q1, fun H2 t2 z d g2 hd q2 => ?_⟩⟩
  have g := g1.trans g2
  obtain ⟨p', us', h1', h2', h3', _⟩ := (ok.go g).dct i kvs e
  rw [h1] at h1'; cases h1'
  rcases q2 with ⟨ek, q2⟩ | ⟨k, ek, q2⟩
  · subst ek
    cases hk
    exact .inr ⟨rfl, ⟨us', kvs.map (·.1), h2', h3'.keys⟩, kk H2 _ z d g hd q2⟩
  · subst ek
    obtain ⟨b, rfl, hb⟩ := (hk.ext (g2.ext g1.gd)).keyT
    refine .inl ⟨_, DGet.t h2' hb, ?_⟩
    rcases h3'.look (k := k) with ⟨a1, a2⟩ | ⟨d', v', a1, a2, a3⟩
    · rw [a2]; rw [a1] at q2
      exact kk H2 _ z d g hd q2
    · rw [a2]; rw [a1] at q2
      exact kk H2 _ v' d' g a3 q2
end
end J

set_option Elab.async false
set_option linter.all false
set_option maxRecDepth 100000
set_option maxHeartbeats 4000000
/-! J22: a dict of tuples by a comprehension; list(range(n)). -/
namespace J
open PySem PySem.Spec L2 RZ PyProof.Rows
/-- one pair is put by a comprehension -/
theorem set_tup {X : Cx} {pins : List (Addr × Obj)} {σ : L2.St} {H : Hp} {s : Shared} {E : Value → Shared → Prop} {d b : Addr} {kvs : List (List Key × V)} {k : List Key} {v : V} {r : Value} {Q : Unit → Shared → Prop}
    (hu : X.A.units + 1 < cLine) (I : L2.Inv X pins σ H s) (hd : H d = some (.dT kvs)) (hb : H b = some (.tup (k.map kV))) (hl : kvs.length < sizeLine) (rv : RelV v r) (h : ∀ s', L2.Inv X pins σ (upd H d (.dT (putK kvs k v))) s' → Q () s') :
    wpAny (model X.prog X.w) X.A (dictSet d (.ref b) r) Q E s := by
  obtain ⟨z, nd, xs, rel, dd⟩ := dt_of I.hok hd
  have len := length_putK kvs k v
  refine wpAny_dictSet_heap (hsz := by rw [← Paired.length rel]; exact z) (show X.A.units < cLine by omega) (key_of I.hok hb) dd fun h' dd' same => h _ ?_
  obtain ⟨q, es, ep, hq, g2, g3, g4, _, g5⟩ := dd'
  refine d_write I (by rw [hd]; exact True.intro) same ⟨q, hq⟩ ⟨by omega, nd, _, (rel.put k hb rv).keeps fun c ys ec => ?_, q, es, ep, hq, g2, g3, g4, g5⟩
  have ne : c ≠ d := fun z => by rw [z, hd] at ec; cases ec
  rw [upd_ne ne]
  exact ec
section
variable {X : Cx}
/-- {k: v for target in iter if ..}, the keys tuples -/
def tDct (wi : TI) (g : TG) (tt : TT) (tk tv : TE) (vs : List Nat) : TE := fun σ H Q => wi σ H fun J H1 => ∀ D, H1 D = none → ∃ Z : Nat → Nat → Hp → Prop, (∃ m, Z 0 m (upd H1 D (.dT []))) ∧ ∀ i m H, Z i m H →
  (J.stop i H ∧ Q (.ref D) H) ∨ (J.go i H ∧ ∃ Y : Hp → Prop, (∀ H', Y H' → ∃ m', m' < m ∧ Z (i + 1) m' H') ∧ ∀ x H', J.yld i H x H' → g x (wipe σ vs) H' fun σ2 H2 => wipe σ2 vs = wipe σ vs ∧ tt σ2 H2 fun b H3 =>
    if b = true then tk σ2 H3 fun y H4 => tv σ2 H4 fun z H5 => ∃ kvs k c, y = .ref c ∧ H5 c = some (.tup (k.map kV)) ∧ H5 D = some (.dT kvs) ∧ kvs.length < sizeLine ∧ Y (upd H5 D (.dT (putK kvs k z))) else Y H3)
theorem dct_any {kx vx tg it0 : Expr} {ifs : List Expr} {sc : Scope} {own : List (Str × Nat)} {pos pos' : Pos} {wi : TI} {g : TG} {tt : TT} {tk tv : TE} {pins : List (Addr × Obj)} {s : Shared} {σ : L2.St} {H : Hp} {Q : VK} {use : Option (Value → Sem Unit)} {Qf : Value → Shared → Prop} (I0 : L2.Inv X pins σ H s) (q0 : tDct wi g tt tk tv (own.map (·.2)) σ H Q) (hc : X.calm = true) (hu : X.A.units + 1 < cLine) (hN : X.N.Nodup) (hi : PI X tg it0 wi) (ok : BlkOk X.N X.env.scope sc own)
    (hg : ∀ (s : Shared) (H : Hp) (C : Addr) (cl : List (Str × Addr)) (fp : List Addr), PG (X.blk s H sc (compEnvC sc cl C X.env) fp) tg g)
    (ht : ∀ (s : Shared) (H : Hp) (C : Addr) (cl : List (Str × Addr)) (fp : List Addr), PTs (X.blk s H sc (compEnvC sc cl C X.env) fp) ifs tt)
    (hk : ∀ (s : Shared) (H : Hp) (C : Addr) (cl : List (Str × Addr)) (fp : List Addr), PE (X.blk s H sc (compEnvC sc cl C X.env) fp) kx tk)
    (hv : ∀ (s : Shared) (H : Hp) (C : Addr) (cl : List (Str × Addr)) (fp : List Addr), PE (X.blk s H sc (compEnvC sc cl C X.env) fp) vx tv) (hs : ∀ x, foldedSetIterable it0 X.env x = pure x)
    (fin : ∀ D C s' m H', L2.Inv X pins σ H' s' → Q (.ref D) H' → s'.heap.Ns C m → FpOk X pins H' C → compPost (model X.prog X.w) X.A X.xe use Qf (.ref D) C (.ok .next) s') :
    wpAny (model X.prog X.w) X.A (comprehension (.DictComp kx vx [⟨tg, it0, ifs, 0⟩] sc pos) sc X.env pos' newDict false (eval it0 X.env) use) Qf X.xe s := by
  have hasC : ∀ y ∈ sc.names, y.2 = .free → ∃ c, X.env.cells.lookup y.1 = some c := fun y hy e => (ok.free y hy e).elim (fun k => I0.ok.has _ (.inl k)) fun k => I0.ok.has _ (.inr k)
  refine wpAny_comprehension_free (use := use) rfl hs (closure_ok hasC) ok.kind (fun y hy e => by rw [ok.uniq y hy, e]) (thn (hi.run pins s σ H _ I0 q0) fun iv s1 a1 => thn a1 fun itv s2 a2 => ?_)
  obtain ⟨ia, fp, tn, J, Hi, eit, Ii, T, sti, fpi, q1⟩ := a2
  subst eit
  refine wpAny_newObj_type (newEnv_comp ?_)
  generalize hD : s2.heap.objs.size = D
  have nD : Hi D = none := Ii.hok.fresh (Nat.le_of_eq hD)
  obtain ⟨Z, ⟨mm, z0⟩, turn⟩ := q1 D nD
  let hp3 := s2.heap.push { cls := .type "dict", data := .dict #[] }
  have Id : L2.Inv X pins σ (upd Hi D (.dT [])) { s2 with heap := hp3 } := by
    refine Ii.laid (t' := s2.toks) (fun b o e => Heap.get?_push_of_some _ e) (Nat.le_of_eq hD) ?_
    rw [← hD]
    refine ⟨Nat.zero_le _, ?_, [], .nil, _, #[], 0, Heap.get?_push_size _ rfl, ⟨rfl, rfl, rfl⟩, rfl, rfl, List.nodup_nil⟩
    exact beq_eq_false_iff_ne.mpr (Nat.ne_of_gt Ii.big)
  have low : ∀ b ∈ fp, b < s2.heap.objs.size := fun b hb => let ⟨o, e, _⟩ := T.obj _ _ sti b hb; Heap.lt_size e
  have fpd : ∀ b ∈ fp, FpOk X pins (upd Hi D (.dT [])) b ∧ b < hp3.objs.size := fun b hb => by
    refine ⟨⟨?_, (fpi b hb).2⟩, ?_⟩
    · rw [upd_ne (Nat.ne_of_lt (by rw [← hD]; exact low b hb))]
      exact (fpi b hb).1
    · show b < (s2.heap.push _).objs.size
      rw [Heap.size_push]; exact Nat.lt_succ_of_lt (low b hb)
  have std : tn 0 hp3 := T.keep _ _ _ sti fun b _ o e => Heap.get?_push_of_some _ e
  have Ib := block_start Id ok hN fpd
  generalize hcl : cellsFrom (hp3.objs.size + 1) sc.names (cloFrom X.env.cells sc.names []) = cl at Ib
  have rg := hg { s2 with heap := hp3 } (upd Hi D (.dT [])) hp3.objs.size cl fp
  have rt := ht { s2 with heap := hp3 } (upd Hi D (.dT [])) hp3.objs.size cl fp
  have rk := hk { s2 with heap := hp3 } (upd Hi D (.dT [])) hp3.objs.size cl fp
  have rv := hv { s2 with heap := hp3 } (upd Hi D (.dT [])) hp3.objs.size cl fp
  have nfp : ∀ b ∈ fp, (upd Hi D (.dT [])) b = none := fun b hb => (fpd b hb).1.1
  have stb : tn 0 (pushCells (hp3.push { cls := .type "dict", data := .dict #[] }) sc.names) := T.keep _ _ _ std fun b _ o e => pushCells_keeps _ _ _ _ (Heap.get?_push_of_some _ e)
  show codeAny _ _ (.compStart (.DictComp kx vx [⟨tg, it0, ifs, 0⟩] sc pos) 0 (.ref ia) (.ref D) (compEnvC sc cl hp3.objs.size X.env)) (compPost (model X.prog X.w) X.A X.xe use Qf (.ref D) hp3.objs.size) { s2 with heap := pushCells (hp3.push { cls := .type "dict", data := .dict #[] }) sc.names }
  generalize hce : compEnvC sc cl hp3.objs.size X.env = ce at Ib rg rt rk rv ⊢
  have cloc : ce.locals = hp3.objs.size := by subst hce; rfl
  let s3 : Shared := { s2 with heap := hp3 }
  generalize hH3 : upd Hi D (.dT []) = H3 at Id Ib rg rt rk rv z0 nfp fpd
  have fpx : ∀ {σ' : L2.St} {H' : Hp} {s' : Shared}, L2.Inv (X.blk s3 H3 sc ce fp) [] σ' H' s' → (∀ b ∈ fp, H' b = none) → ∀ b ∈ fp, FpOk (X.blk s3 H3 sc ce fp) [] H' b := fun {σ' H' s'} J' nn b hb =>
    ⟨nn b hb, (J'.ok.exf b hb).1, J'.ok.exfs b hb, .inl hb, fun x c e => (J'.ok.exf b hb).2 x c e, fun p hp => by cases hp⟩
  have loop : codeAny (model X.prog X.w) X.A (.compLoop (.DictComp kx vx [⟨tg, it0, ifs, 0⟩] sc pos) 0 (.ref ia) (.ref D) ce) (compPost (model X.prog X.w) X.A X.xe use Qf (.ref D) hp3.objs.size) { s2 with heap := pushCells (hp3.push { cls := .type "dict", data := .dict #[] }) sc.names } := by
    refine compLoop_anyD (fun n s' => ∃ i H', L2.Inv (X.blk s3 H3 sc ce fp) [] (wipe σ (own.map (·.2))) H' s' ∧ tn i s'.heap ∧ (∀ b ∈ fp, H' b = none) ∧ Z i n H') ?_ mm ⟨0, H3, Ib, stb, nfp, z0⟩
    intro n s5 ⟨i, H5, I5, st5, n5, z5⟩
    rcases turn i n H5 z5 with ⟨stop, qq⟩ | ⟨go, Y, hY, step⟩
    · refine thnF (T.done (X.blk s3 H3 sc ce fp) rfl rfl rfl hc i [] s5 _ H5 (fun _ _ => False) I5 (fpx I5 n5) st5 stop) fun r s6 ⟨er, I6⟩ => ?_
      subst er
      have I7 : L2.Inv X pins σ H5 s6 := Id.call' (ch := fp) I6.os I6.base I6.hok I6.bare fun b hb => let f := (fpd b hb).1.2; ⟨f.2.2.1, f.1, f.2.2.2.1, f.2.2.2.2⟩
      have nC : H5 hp3.objs.size = none := by rw [← cloc]; exact I6.free
      obtain ⟨m, hn, _⟩ := I6.loc
      have hn : s6.heap.Ns hp3.objs.size m := by rw [← cloc]; exact hn
      have fk : FpOk X pins H5 hp3.objs.size := by
        exact Id.fpOk (b := hp3.objs.size) (Nat.le_refl _) nC
      exact fin D hp3.objs.size s6 m H5 I7 qq hn fk
    · refine thnF (T.item (X.blk s3 H3 sc ce fp) rfl rfl rfl hc i [] s5 _ H5 (fun _ _ => False) I5 (fpx I5 n5) st5 go) fun r s6 ⟨u, er, a6⟩ => ?_
      subst er
      refine thnF a6 fun _ s7 ⟨x, H7, I7, r7, y7, st7, n7⟩ => ?_
      refine thnF (rg.run _ s7 _ H7 x u _ (I7.pinned (fpx I7 n7) (T.obj _ _ st7)) r7 (step x H7 y7)) fun _ s8 ⟨σ8, H8, I8, hw8, q8⟩ => ?_
      refine thnF (rt.run _ s8 σ8 H8 _ I8 q8) fun b s9 ⟨H9, I9, q9⟩ => ?_
      have back : ∀ {s' : Shared} {H' : Hp}, L2.Inv (X.blk s3 H3 sc ce fp) ([] ++ pinsAt fp s7.heap) σ8 H' s' → Y H' → ∃ m, m < n ∧ ∃ i H', L2.Inv (X.blk s3 H3 sc ce fp) [] (wipe σ (own.map (·.2))) H' s' ∧ tn i s'.heap ∧ (∀ b ∈ fp, H' b = none) ∧ Z i m H' := fun {s' H'} J' y => by
        obtain ⟨m', hm, z'⟩ := hY H' y
        have pin : ∀ b ∈ fp, ∀ o, s7.heap.get? b = some o → s'.heap.get? b = some o ∧ H' b = none := fun b hb o e => by
          have z := J'.pin (b, o) (List.mem_append_right _ (List.mem_append_right _ (mem_pinsAt hb e)))
          exact ⟨z.1, z.2.1⟩
        refine ⟨m', hm, i + 1, H', (J'.unpinned (pins := [])).weak (by rw [← hw8, wipe_length]) (fun j v e => ?_), T.keep _ _ _ st7 fun b hb o e => (pin b hb o e).1, fun b hb => let ⟨o, e, _⟩ := T.obj _ _ st7 b hb; (pin b hb o e).2, z'⟩
        rw [← hw8] at e
        exact (wipe_some e).1
      cases b with
      | false =>
        rw [if_neg (by decide)] at q9
        exact back I9 q9
      | true =>
        rw [if_pos rfl] at q9
        refine thnF (rk.run _ s9 σ8 H9 _ I9 q9) fun kv s10 ⟨y, H10, I10, r10, q10⟩ => thnF (rv.run _ s10 σ8 H10 _ I10 q10) fun vv s11 ⟨z, H11, I11, r11, kvs, k, c, ey, hcT, hDT, hl, yy⟩ => ?_
        subst ey
        cases (show kv = Value.ref c from r10)
        exact set_tup (X := X.blk s3 H3 sc ce fp) hu I11 hDT hcT hl r11 fun s12 I12 => back I12 yy
  exact codeAny_compStart_dict loop (T.self X.A 0 _ _ _ stb loop)
/-- as a value -/
theorem pe_dct {kx vx tg it0 : Expr} {ifs : List Expr} {sc : Scope} {own : List (Str × Nat)} {pos : Pos} {wi : TI} {g : TG} {tt : TT} {tk tv : TE} (hc : X.calm = true) (hu : X.A.units + 1 < cLine) (hN : X.N.Nodup) (hi : PI X tg it0 wi) (ok : BlkOk X.N X.env.scope sc own)
    (hg : ∀ (s : Shared) (H : Hp) (C : Addr) (cl : List (Str × Addr)) (fp : List Addr), PG (X.blk s H sc (compEnvC sc cl C X.env) fp) tg g)
    (ht : ∀ (s : Shared) (H : Hp) (C : Addr) (cl : List (Str × Addr)) (fp : List Addr), PTs (X.blk s H sc (compEnvC sc cl C X.env) fp) ifs tt)
    (hk : ∀ (s : Shared) (H : Hp) (C : Addr) (cl : List (Str × Addr)) (fp : List Addr), PE (X.blk s H sc (compEnvC sc cl C X.env) fp) kx tk)
    (hv : ∀ (s : Shared) (H : Hp) (C : Addr) (cl : List (Str × Addr)) (fp : List Addr), PE (X.blk s H sc (compEnvC sc cl C X.env) fp) vx tv) (hs : ∀ x, foldedSetIterable it0 X.env x = pure x := by intro _; rfl) :
    PE X (.DictComp kx vx [⟨tg, it0, ifs, 0⟩] sc pos) (tDct wi g tt tk tv (own.map (·.2))) := by
  refine ⟨fun pins s σ H Q I0 q0 => ?_⟩
  rw [arm_eval_DictComp]
  refine dct_any I0 q0 hc hu hN hi ok hg ht hk hv hs fun D C s' m H' I' qq hn fk => ⟨m, hn, fun h'' sb => ?_⟩
  obtain ⟨f0, f1, f2, f3, f4, f5⟩ := fk
  exact ⟨.ref D, H', I'.turned (t' := s'.toks) (fun b o hb e => (sb.2 b hb).trans e) f0 f1 f3 f4 f5, rfl, qq⟩
/-- stored by a plain local name -/
theorem ps_setDct {i : Nat} {y : Str} {py spos : Pos} {kx vx tg it0 : Expr} {ifs : List Expr} {sc : Scope} {own : List (Str × Nat)} {pos : Pos} {wi : TI} {g : TG} {tt : TT} {tk tv : TE} (hc : X.calm = true) (hu : X.A.units + 1 < cLine) (hN : X.N.Nodup) (hy : X.N[i]? = some y) (hyl : X.env.scope.names.lookup y = some .local)
    (hsw : swapsWith (.DictComp kx vx [⟨tg, it0, ifs, 0⟩] sc pos) (some (.Name y py)) spos.line X.env = pure true) (hi : PI X tg it0 wi) (ok : BlkOk X.N X.env.scope sc own)
    (hg : ∀ (s : Shared) (H : Hp) (C : Addr) (cl : List (Str × Addr)) (fp : List Addr), PG (X.blk s H sc (compEnvC sc cl C X.env) fp) tg g)
    (ht : ∀ (s : Shared) (H : Hp) (C : Addr) (cl : List (Str × Addr)) (fp : List Addr), PTs (X.blk s H sc (compEnvC sc cl C X.env) fp) ifs tt)
    (hk : ∀ (s : Shared) (H : Hp) (C : Addr) (cl : List (Str × Addr)) (fp : List Addr), PE (X.blk s H sc (compEnvC sc cl C X.env) fp) kx tk)
    (hv : ∀ (s : Shared) (H : Hp) (C : Addr) (cl : List (Str × Addr)) (fp : List Addr), PE (X.blk s H sc (compEnvC sc cl C X.env) fp) vx tv) (hs : ∀ x, foldedSetIterable it0 X.env x = pure x := by intro _; rfl) :
    PS X (.Assign [.Name y py] (.DictComp kx vx [⟨tg, it0, ifs, 0⟩] sc pos) spos) (tAsg (tDct wi g tt tk tv (own.map (·.2))) (gName i)) := by
  refine ⟨fun pins s σ H E I0 q0 => ?_⟩
  rw [exec_Assign_Name_used _ _ _ _ hsw]
  refine wpAny_bind (wpAny_standAt (wpAny_bind ?_))
  show wpAny _ X.A (do let _ ← comprehension (.DictComp kx vx [⟨tg, it0, ifs, 0⟩] sc pos) sc X.env (firstIterPos [⟨tg, it0, ifs, 0⟩] pos) newDict false (eval it0 X.env) (some (assign (.Name y py) X.env))) _ _ s
  have q0 : tDct wi g tt tk tv (own.map (·.2)) σ H (fun x H1 => gName i x σ H1 E.nx) := q0
  refine wpAny_bind (thn (dct_any (Qf := fun _ s' => SP X pins E .next s') I0 q0 hc hu hN hi ok hg ht hk hv hs fun D C s' m H' I' qq hn fk => ?_) fun _ s' hq => wpAny_pure (wpAny_pure hq))
  show wpAny _ _ (assign (.Name y py) X.env (.ref D)) _ _ _
  refine wpAny_assign_Name (store_ok2 (v := V.ref D) I' hN hy (.inl hyl) rfl (fun s2 I2 ⟨a, sb, ha⟩ => ?_) (.inr hyl))
  obtain ⟨f0, f1, f2, f3, f4, f5⟩ := fk
  have ne : C ≠ a := fun e => ha.elim (fun z => f1 (e.trans z)) fun z => f4 y a z e.symm
  exact ⟨m, hn.sameBut sb ne, fun h3 sb3 => ⟨_, H', I2.turned (t' := s2.toks) (fun b o hb e => (sb3.2 b hb).trans e) f0 f1 f3 f4 f5, qq⟩⟩
theorem sw_dct {kx vx : Expr} {gs : List Comprehension} {sc : Scope} {pos py : Pos} {y : Str} {l : Nat} {env : PySem.Env} (hk : env.scope.kind = .function) (hy : env.scope.names.lookup y = some .local) (hl : (py.line == pos.line) = true)
    (ha : (sc.names.any fun (n, k) => n == y && (k == .local || k == .cell)) = false) : swapsWith (.DictComp kx vx gs sc pos) (some (.Name y py)) l env = pure true := by
  have e1 : env.kindOf y = some .local := hy
  have e2 : env.blockKind = .function := by unfold PySem.Env.blockKind; rw [hk]; rfl
  unfold swapsWith
  simp only [e1, e2, ha, Expr.pos, hl]
  rfl
end
/-! over data -/
abbrev WK (T : Type) := Env → (List (List Int × D) → T → Prop) → T → Prop
def ED {T : Type} (R : Rg T) (w : WK T) : TE := fun σ H Q => ∃ ρ t Φ, EnvOk R t H σ ρ ∧ w ρ Φ t ∧ ∀ H' t' p us kvs, R.Go t H t' H' → H p = none → H' p = some (.dT us) → ¬ R.Vol t' p → DK R.K H' kvs us → Φ kvs t' → Q (.ref p) H'
def dcRun {T : Type} (f : D → (List Int → D → T → Prop) → (T → Prop) → T → Prop) : List D → List (List Int × D) → (List (List Int × D) → T → Prop) → T → Prop
  | [], acc, K => K acc
  | d :: r, acc, K => f d (fun k v t => acc.length < sizeLine ∧ dcRun f r (putD acc k v) K t) (dcRun f r acc K)
def dcBody {T : Type} (p : Pat) (vs : List Nat) (wt : WB T) (wk wv : W T) (ρ : Env) : D → (List Int → D → T → Prop) → (T → Prop) → T → Prop := fun d Y N t => ∃ ρ', bindP p d (wipeE ρ vs) = some ρ' ∧ wt ρ' (fun b t => if b = true then wk ρ' (fun kd => wv ρ' fun v t => ∃ k, kd = dI k ∧ Y k v t) t else N t) t
def wDc {T : Type} (wi : WL T) (p : Pat) (vs : List Nat) (wt : WB T) (wk wv : W T) : WK T := fun ρ Φ => wi ρ fun ds t => dcRun (dcBody p vs wt wk wv ρ) ds [] Φ t
section
variable {T : Type} {X : Cx} {R : Rg T}
theorem growD {t t' : T} {H H' : Hp} {d : Addr} {us us' : List (List Key × V)} (g : R.Go t H t' H') (n : H d = none) (nv : ¬ R.Vol t' d) (e : H' d = some (.dT us)) : R.Go t H t' (upd H' d (.dT us')) ∧ Ext H' (upd H' d (.dT us')) := by
  have x : Ext H' (upd H' d (.dT us')) := by
    refine ⟨fun a ys q => ?_, fun a ob u q => ?_⟩
    · rw [upd_ne (fun z => by rw [z, e] at q; cases q)]; exact q
    · rw [upd_ne (fun z => by rw [z, e] at q; cases q)]; exact q
  refine ⟨⟨⟨fun a u h1 h2 => ?_, fun a v => upd_some (g.st.up a v), g.st.dn⟩, R.dep t' H' _ g.gd x fun a v => ?_⟩, x⟩
  · rw [upd_ne (ne_of_none h1 n)]; exact g.st.st a u h1 h2
  · rw [upd_ne (fun z => nv (by rw [← z]; exact v))]
theorem tDct_ED {wi : WL T} {p : Pat} {vs : List Nat} {wt : WB T} {wk wv : W T} (hp : ∀ i ∈ p.vs, i ∈ vs) : ∀ σ H Q, ED R (wDc wi p vs wt wk wv) σ H Q → tDct (EI R wi) (EG R p) (EB R wt) (E R wk) (E R wv) vs σ H Q := fun σ H Q ⟨ρ, t, Φ, ok, q, k⟩ => by
  refine ⟨ρ, _, _, ok, q, fun H1 t1 J ds g1 wd hq d nd => ?_⟩
  have nd0 := none_of_go g1 nd
  have nv1 := not_vol g1.gd nd
  have g0 : R.Go t1 H1 t1 (upd H1 d (.dT [])) := .new g1.gd nd
  let Pv : Nat → Hp → Prop := fun i H2 => ∃ t2, R.Go t1 H1 t2 H2 ∧ ¬ R.Vol t2 d ∧ ∃ us acc, H2 d = some (.dT us) ∧ DK R.K H2 acc us ∧ dcRun (dcBody p vs wt wk wv ρ) (ds.drop i) acc Φ t2
  refine ⟨fun i m H2 => m = ds.length - i ∧ i ≤ ds.length ∧ Pv i H2, ⟨_, rfl, Nat.zero_le _, t1, g0, nv1, [], [], upd_same, .nil, hq⟩, ?_⟩
  rintro i m H2 ⟨rfl, hi, t2, g2, nv2, us, acc, e2, hD, run⟩
  have gg2 : Ext H1 H2 ∧ ∃ t, R.Gd t H2 := ⟨g2.ext g1.gd, t2, g2.gd⟩
  by_cases hlt : i < ds.length
  case neg =>
    have e : i = ds.length := by omega
    subst e
    rw [List.drop_length] at run
    exact .inl ⟨wd.stops H2 gg2, k H2 t2 d us acc (g1.trans g2) nd0 e2 nv2 hD run⟩
  refine .inr ⟨wd.goes i H2 hlt gg2, Pv (i + 1), fun H' p' => ⟨ds.length - (i + 1), by omega, rfl, hlt, p'⟩, fun x H3 y => ?_⟩
  obtain ⟨g3, dd, hd, hx⟩ := wd.yields i H2 x H3 hlt gg2 y
  have g3 := g3 t2 g2.gd
  have e3 := g3.st.st d _ e2 nv2
  rw [drop_at hd] at run
  obtain ⟨ρ', hb, run⟩ := run
  have g13 := g2.trans g3
  refine ⟨wipeE ρ vs, t2, dd, ρ', (wipeE_ok vs (ok.go (g1.trans g13))), hx, hb, fun σ' ok' hw => ⟨by rw [hw vs hp, wipe_wipe], ?_⟩⟩
  refine ⟨ρ', t2, _, ok', run, fun H4 t4 b g4 hqb => ?_⟩
  have e4 := g4.st.st d _ e3 nv2
  have nv4 := g4.st.nvol (ne_none e3) nv2
  have hD4 := (hD.ext (g3.ext g2.gd)).ext (g4.ext g3.gd)
  cases b with
  | false =>
    rw [if_neg (by decide)] at hqb
    exact ⟨t4, g13.trans g4, nv4, us, acc, e4, hD4, hqb⟩
  | true =>
    rw [if_pos rfl] at hqb
    refine ⟨ρ', t4, _, ok'.go g4, hqb, fun H5 t5 kv kd g5 hk q5 => ⟨ρ', t5, _, (ok'.go g4).go g5, q5, fun H6 t6 vv vd g6 hv ⟨kk, ek, hl, run'⟩ => ?_⟩⟩
    subst ek
    have e5 := g5.st.st d _ e4 nv4
    have nv5 := g5.st.nvol (ne_none e4) nv4
    have e6 := g6.st.st d _ e5 nv5
    have nv6 := g6.st.nvol (ne_none e5) nv5
    obtain ⟨b, rfl, hbt⟩ := (hk.ext (g6.ext g5.gd)).keyT
    have hD6 := (hD4.ext (g5.ext g4.gd)).ext (g6.ext g5.gd)
    have g16 := ((g13.trans g4).trans g5).trans g6
    obtain ⟨gg, xx⟩ := growD (us' := putK us (kk.map Sum.inl) vv) g16 nd nv6 e6
    exact ⟨us, kk.map Sum.inl, b, rfl, hbt, e6, by rw [← hD6.len]; exact hl, t6, gg, nv6, _, _, upd_same, (hD6.ext xx).put (hv.ext xx), run'⟩
def wDctC (i : Nat) (w : WK T) : WS T := fun ρ Φ => w ρ fun kvs => Φ.nx (ρ.set i (.dct kvs))
theorem S_dctC {i : Nat} {w : WK T} {st : Stmt} (h : PS X st (tAsg (ED R w) (gName i))) : PS X st (S R (wDctC i w)) := PS_imp h fun D σ H ⟨ρ, t, Φ, ok, q, f⟩ =>
  ⟨ρ, _, _, ok, q, fun H1 t1 p us kvs g n e nv hD hq => by
    have n0 := none_of_step ok.st n
    refine f.nx _ H1 _ t1 (g.ext ok.gd) ((ok.go g).setDct i e hD n0 nv fun j es h _ z => ?_) hq
    obtain ⟨q, vs, h1, h2, _⟩ := ok.dct j es h
    rw [z] at h1; cases h1
    rw [n] at h2; cases h2⟩
theorem PS_setDct {i : Nat} {y : Str} {py spos : Pos} {kx vx tg it0 : Expr} {ifs : List Expr} {sc : Scope} {own : List (Str × Nat)} {pos : Pos} {wi : WL T} {p : Pat} {wt : WB T} {wk wv : W T} (hc : X.calm = true) (hu : X.A.units + 1 < cLine) (hN : X.N.Nodup) (ok : BlkOk X.N X.env.scope sc own) (hp : ∀ i ∈ p.vs, i ∈ own.map (·.2))
    (hi : PI X tg it0 (EI R wi))
    (hg : ∀ (s : Shared) (H : Hp) (C : Addr) (cl : List (Str × Addr)) (fp : List Addr), PG (X.blk s H sc (compEnvC sc cl C X.env) fp) tg (EG R p))
    (ht : ∀ (s : Shared) (H : Hp) (C : Addr) (cl : List (Str × Addr)) (fp : List Addr), PTs (X.blk s H sc (compEnvC sc cl C X.env) fp) ifs (EB R wt))
    (hk : ∀ (s : Shared) (H : Hp) (C : Addr) (cl : List (Str × Addr)) (fp : List Addr), PE (X.blk s H sc (compEnvC sc cl C X.env) fp) kx (E R wk))
    (hv : ∀ (s : Shared) (H : Hp) (C : Addr) (cl : List (Str × Addr)) (fp : List Addr), PE (X.blk s H sc (compEnvC sc cl C X.env) fp) vx (E R wv)) (hy : X.N[i]? = some y := by rfl) (hyl : X.env.scope.names.lookup y = some .local := by rfl)
    (hsw : swapsWith (.DictComp kx vx [⟨tg, it0, ifs, 0⟩] sc pos) (some (.Name y py)) spos.line X.env = pure true := by exact sw_dct rfl rfl rfl (by decide +kernel)) (hs : ∀ x, foldedSetIterable it0 X.env x = pure x := by intro _; rfl) :
    PS X (.Assign [.Name y py] (.DictComp kx vx [⟨tg, it0, ifs, 0⟩] sc pos) spos) (tAsg (ED R (wDc wi p (own.map (·.2)) wt wk wv)) (gName i)) :=
  PS_imp (ps_setDct hc hu hN hy hyl hsw hi ok hg ht hk hv hs) fun E σ H q => tDct_ED hp σ H _ q
/-! list(range(n)) -/
def wListRg (wa : W T) : WL T := fun ρ Φ => wa ρ fun d t => ∃ n : Int, d = .int n ∧ RgOk 0 n ∧ Φ (rangeD 0 n.toNat) t
theorem EL_listRg {a : Expr} {wa : W T} {p p2 pos pos2 : Pos} (hc : X.calm = true) (hg : Gl X "list") (hm : X.mg "list" = none) (hg2 : Gl X "range") (hm2 : X.mg "range" = none) (ha : PE X a (E R wa)) (na : starEach [a] X.env = (false, eval a X.env) :: starEach [] X.env := by rfl)
    (nb : starEach [Expr.Call (.Name "range" p2) [a] [] pos2] X.env = (false, eval (.Call (.Name "range" p2) [a] [] pos2) X.env) :: starEach [] X.env := by rfl) : PE X (.Call (.Name "list" p) [.Call (.Name "range" p2) [a] [] pos2] [] pos) (EL R (wListRg wa)) :=
  PE_imp (pe_listRg hc hg hm (prg_1 hg2 hm2 ha na) nb) fun σ H Q ⟨ρ, t, Φ, ok, q, k⟩ => ⟨ρ, t, _, ok, q, fun H1 t1 v d g hD ⟨n, ed, hr, hq⟩ => by
    subst ed
    cases hD
    refine ⟨n, rfl, hr, fun l hl => ?_⟩
    have e : rgV 0 n = ((List.range n.toNat).map fun (i : Nat) => (0 + (i : Int) : Int)).map V.int := by
      unfold rgV
      rw [List.map_map, Int.sub_zero]
      rfl
    have e2 : rangeD 0 n.toNat = ((List.range n.toNat).map fun (i : Nat) => (0 + (i : Int) : Int)).map D.int := by
      unfold rangeD
      rw [List.map_map]
      rfl
    have hd : Dens R.K H1 (rangeD 0 n.toNat) (rgV 0 n) := by rw [e, e2]; exact dens_ints _
    obtain ⟨g2, nv, D2⟩ := new_lst (R := R) g.gd hl hd
    exact k _ _ l _ _ (g.trans g2) (none_of_go g hl) upd_same nv D2 hq⟩
end
end J

set_option Elab.async false
set_option linter.all false
set_option maxRecDepth 100000
set_option maxHeartbeats 4000000
/-! J23: what a plain form is, word by word. -/
namespace J
open PySem PySem.Spec L2 RZ
theorem gcdI_mul {μ a b : Int} (h : 0 ≤ μ) : gcdI (μ * a) (μ * b) = μ * gcdI a b := by
  unfold gcdI
  rw [Int.gcd_mul_left, Int.natCast_mul, Int.natAbs_of_nonneg h]
theorem gcdL_mul {μ : Int} (h : 0 ≤ μ) (w : List Int) : gcdL (w.map (μ * ·)) = μ * gcdL w := by
  have key : ∀ (w : List Int) (a : Int), (w.map (μ * ·)).foldl gcdI (μ * a) = μ * w.foldl gcdI a := by
    intro w
    induction w with
    | nil => intro a; rfl
    | cons x r ih => intro a; rw [List.map_cons, List.foldl_cons, List.foldl_cons, gcdI_mul h, ih]
  have := key w 0
  rw [Int.mul_zero] at this
  exact this
theorem dirL_mul {μ : Int} (h : 0 < μ) (w : List Int) : dirL (w.map (μ * ·)) = dirL w := by
  unfold dirL
  rw [gcdL_mul (Int.le_of_lt h), List.map_map]
  refine List.map_congr_left fun x _ => ?_
  show μ * x / (μ * gcdL w) = x / gcdL w
  rw [Int.mul_ediv_mul_of_pos _ _ h]
theorem gcdL_dir {c : List Int} (h : 0 < gcdL c) : gcdL (dirL c) = 1 := by
  have e : gcdL c * gcdL (dirL c) = gcdL c := by
    rw [← gcdL_mul (Int.le_of_lt h), dir_mul h]
  have e2 : gcdL c * gcdL (dirL c) = gcdL c * 1 := by rw [e, Int.mul_one]
  exact Int.eq_of_mul_eq_mul_left (by omega) e2
theorem dirL_one {c : List Int} (h : gcdL c = 1) : dirL c = c := by
  unfold dirL
  rw [h]
  conv => rhs; rw [← List.map_id c]
  exact List.map_congr_left fun x _ => Int.ediv_one x
/-- the part of F that is of one direction -/
def ofDir (k : List Int) (F : List Int → Int) (c : List Int) : Int := if 0 < gcdL c ∧ dirL c = k then F c else 0
theorem hom_dir {F : List Int → Int} (h : Hom F) (k : List Int) : Hom (ofDir k F) := fun w μ hμ => by
  unfold ofDir
  rcases Int.lt_or_eq_of_le hμ with h0 | h0
  · rw [gcdL_mul hμ, dirL_mul h0]
    by_cases hw : 0 < gcdL w
    · have : 0 < μ * gcdL w := Int.mul_pos h0 hw
      by_cases hk : dirL w = k
      · rw [if_pos ⟨this, hk⟩, if_pos ⟨hw, hk⟩, h w μ hμ]
      · rw [if_neg (fun z => hk z.2), if_neg (fun z => hk z.2), Int.mul_zero]
    · have hz : gcdL w = 0 := by have := gcdL_nn w; omega
      rw [if_neg (by rw [hz]; simp), if_neg (fun z => hw z.1), Int.mul_zero]
  · rw [← h0]
    have hz : gcdL (w.map ((0 : Int) * ·)) = 0 := by rw [gcdL_mul (Int.le_refl 0), Int.zero_mul]
    rw [if_neg (by rw [hz]; simp), Int.zero_mul]
/-- keys are directions, values go along with them -/
structure WayP (cs : List (List Int)) (kvs : KN) : Prop where
  one : ∀ kv ∈ kvs, gcdL kv.1 = 1
  pos : ∀ kv ∈ kvs, ∃ μ : Int, 0 < μ ∧ kv.2 = kv.1.map (μ * ·)
  all : ∀ c ∈ cs, 0 < gcdL c → dirL c ∈ kvs.map (·.1)
theorem putN_key {kvs : KN} {k v k' : List Int} : k' ∈ (putN kvs k v).map (·.1) ↔ k' = k ∨ k' ∈ kvs.map (·.1) := by
  unfold putN
  by_cases h : (kvs.any fun kv => decide (kv.1 = k)) = true
  · rw [if_pos h]
    have hk := any_key.mp h
    have e : (kvs.map fun kv => if kv.1 = k then (kv.1, v) else kv).map (·.1) = kvs.map (·.1) := by
      rw [List.map_map]
      refine List.map_congr_left fun kv _ => ?_
      simp only [Function.comp]
      split <;> rfl
    rw [e]
    exact ⟨.inr, fun z => z.elim (fun z => z ▸ hk) id⟩
  · rw [if_neg h, List.map_append, List.mem_append]
    simp [or_comm]
theorem wayP_add {n : Nat} {cs : List (List Int)} {kvs : KN} {c : List Int} (ok : WayP cs kvs) (hl : c.length = n) : WayP (c :: cs) (addWay n kvs c) := by
  unfold addWay
  by_cases hg : 0 < gcdL c
  · rw [if_pos hg]
    have hd : (dirL c).length = n := by rw [dirL, List.length_map, hl]
    obtain ⟨μ, hμ, hv⟩ : ∃ μ : Int, 0 ≤ μ ∧ (lookN kvs (dirL c)).getD (List.replicate n 0) = (dirL c).map (μ * ·) := by
      cases e : lookN kvs (dirL c) with
      | none => exact ⟨0, Int.le_refl 0, zero_mul hd⟩
      | some v =>
        obtain ⟨μ, h1, h2⟩ := ok.pos _ (lookN_mem e)
        exact ⟨μ, Int.le_of_lt h1, h2⟩
    have hnew : addV ((lookN kvs (dirL c)).getD (List.replicate n 0)) c = (dirL c).map ((μ + gcdL c) * ·) := by
      rw [hv]
      conv => lhs; arg 2; rw [← dir_mul hg]
      exact map_mul_add ..
    rw [hnew]
    refine ⟨fun kv h => ?_, fun kv h => ?_, fun e he hge => ?_⟩
    · rcases putN_mem h with h | rfl
      · exact ok.one kv h
      · exact gcdL_dir hg
    · rcases putN_mem h with h | rfl
      · exact ok.pos kv h
      · exact ⟨_, by omega, rfl⟩
    · rw [putN_key]
      rcases List.mem_cons.mp he with rfl | he
      · exact .inl rfl
      · exact .inr (ok.all e he hge)
  · rw [if_neg hg]
    exact ⟨ok.one, ok.pos, fun e he hge => by
      rcases List.mem_cons.mp he with rfl | he
      · exact absurd hge hg
      · exact ok.all e he hge⟩
theorem wayD_P {n : Nat} {cs : List (List Int)} (hl : ∀ c ∈ cs, c.length = n) : WayP cs (wayD n cs) := by
  have key : ∀ (cs done : List (List Int)) (kvs : KN), (∀ c ∈ cs, c.length = n) → WayP done kvs → WayP (cs ++ done) (cs.foldl (addWay n) kvs) := by
    intro cs
    induction cs with
    | nil => intro done kvs _ ok; exact ok
    | cons c r ih =>
      intro done kvs h ok
      have := ih (c :: done) (addWay n kvs c) (fun x hx => h x (List.mem_cons_of_mem _ hx)) (wayP_add ok (h c List.mem_cons_self))
      exact ⟨this.one, this.pos, fun e he hg => this.all e (by simp only [List.cons_append, List.mem_cons, List.mem_append] at he ⊢; grind) hg⟩
  have := key cs [] [] hl ⟨by simp, by simp, by simp⟩
  rw [List.append_nil] at this
  exact this
/-- what the plain form of a teller is, by directions -/
structure PlainOf (d : Int) (rows : List (List Int)) (d' : Int) (rows' : List (List Int)) : Prop where
  tel : IsTel d' rows'
  len : rows'.length = rows.length
  nd : ((cols rows').map dirL).Nodup
  pos : ∀ c ∈ cols rows', 0 < gcdL c
  all : ∀ c ∈ cols rows, 0 < gcdL c → dirL c ∈ (cols rows').map dirL
  sums : ∃ g : Int, 0 < g ∧ d = g * d' ∧ ∀ c' ∈ cols rows', ∀ F, Hom F → g * F c' = ((cols rows).map (ofDir (dirL c') F)).sum
  worth : ∀ s, ratN (worthN rows' s) d' = ratN (worthN rows s) d
theorem sum_map0 {α : Type} {f : α → Int} {l : List α} (h : ∀ x ∈ l, f x = 0) : (l.map f).sum = 0 := by
  induction l with
  | nil => rfl
  | cons a r ih => rw [List.map_cons, List.sum_cons, h a List.mem_cons_self, ih fun x hx => h x (List.mem_cons_of_mem _ hx)]; rfl
theorem sum_one {α : Type} [DecidableEq α] {f : α → Int} {x : α} : ∀ {l : List α}, l.Nodup → x ∈ l → (∀ y ∈ l, y ≠ x → f y = 0) → (l.map f).sum = f x
  | [], _, h, _ => by simp at h
  | a :: r, nd, h, hz => by
    rw [List.nodup_cons] at nd
    rw [List.map_cons, List.sum_cons]
    by_cases e : a = x
    · subst e
      rw [sum_map0 fun y hy => hz y (List.mem_cons_of_mem _ hy) fun z => nd.1 (z ▸ hy)]
      omega
    · have hx : x ∈ r := (List.mem_cons.mp h).resolve_left (Ne.symm e)
      rw [hz a List.mem_cons_self e, sum_one nd.2 hx fun y hy => hz y (List.mem_cons_of_mem _ hy)]
      omega
theorem plain_rel {d : Int} {rows ys : List (List Int)} (ht : IsTel d rows) (hy : ys.Perm ((wayD rows.length (cols rows)).map (·.1))) :
    ∃ d' rows', plainOut d rows.length (ys.map fun y => (lookN (wayD rows.length (cols rows)) y).getD []) = dTel d' rows' ∧ PlainOf d rows d' rows' := by
  obtain ⟨d1, rows1, e1, t1, l1, w1⟩ := plain_ok ht hy
  refine ⟨d1, rows1, e1, ?_⟩
  have ok := tel_cols ht
  have P := wayD_P (n := rows.length) ok.len
  obtain ⟨S, _⟩ := wayD_sum (n := rows.length) ok.len ok.nn
  obtain ⟨wk, _⟩ := wayD_ok ok (cols rows).length
  rw [List.take_length] at wk
  have hnd : ys.Nodup := (hy.nodup_iff).mpr S.nd
  -- the columns
  have hval : ∀ y ∈ ys, ∃ μ : Int, 0 < μ ∧ (lookN (wayD rows.length (cols rows)) y).getD [] = y.map (μ * ·) ∧ gcdL y = 1 ∧ y.length = rows.length := fun y hyy => by
    obtain ⟨v, h1, h2⟩ := lookN_key (hy.mem_iff.mp hyy)
    obtain ⟨μ, hμ, e⟩ := P.pos _ h2
    exact ⟨μ, hμ, by rw [h1]; exact e, P.one _ h2, wk.kl _ h2⟩
  generalize hcs : ys.map (fun y => (lookN (wayD rows.length (cols rows)) y).getD []) = cs at e1
  have hlen : ∀ c ∈ cs, c.length = rows.length := fun c hc => by
    rw [← hcs] at hc
    obtain ⟨y, hyy, rfl⟩ := List.mem_map.mp hc
    obtain ⟨μ, _, e, _, l⟩ := hval y hyy
    rw [e, List.length_map, l]
  have ec := cols_tran (n := rows.length) (cs := cs) ok.n1 hlen
  have hgp : 0 < gcdL (d :: (tran rows.length cs).flatten) := (gcdL_pos (by have := ht.d1; omega)).1
  generalize hg : gcdL (d :: (tran rows.length cs).flatten) = g at *
  unfold plainOut at e1
  rw [hg] at e1
  simp only [dTel, D.tup.injEq, List.cons.injEq, D.int.injEq, true_and, and_true] at e1
  obtain ⟨ed, er⟩ := e1
  have inj : ∀ {a b : List (List Int)}, dRows a = dRows b → a = b := by
    have i1 : ∀ {a b : List Int}, dI a = dI b → a = b := by
      intro a
      induction a with
      | nil => intro b h; cases b with
        | nil => rfl
        | cons _ _ => simp [dI] at h
      | cons x a ih => intro b h; cases b with
        | nil => simp [dI] at h
        | cons y b =>
          simp only [dI, D.tup.injEq, List.map_cons, List.cons.injEq, D.int.injEq] at h
          rw [h.1, ih (by simp only [dI, D.tup.injEq]; exact h.2)]
    intro a
    induction a with
    | nil => intro b h; cases b with
      | nil => rfl
      | cons _ _ => simp [dRows] at h
    | cons x a ih => intro b h; cases b with
      | nil => simp [dRows] at h
      | cons y b =>
        simp only [dRows, D.tup.injEq, List.map_cons, List.cons.injEq] at h
        have q1 : x = y := i1 (by simp only [dI, D.tup.injEq]; exact h.1)
        have q2 : a = b := ih (by simp only [dRows, D.tup.injEq]; exact h.2)
        rw [q1, q2]
  have er : lowR g (tran rows.length cs) = rows1 := inj (by simp only [dRows, D.tup.injEq]; exact er)
  subst ed er
  have dv : ∀ r ∈ tran rows.length cs, ∀ x ∈ r, g ∣ x := fun r hr x hx => by
    rw [← hg]
    exact gcdL_dvd (List.mem_cons_of_mem _ (List.mem_flatten.mpr ⟨r, hr, hx⟩))
  have dvc : ∀ c ∈ cs, ∀ x ∈ c, g ∣ x := fun c hc x hx => by
    have h0 : c ∈ cols (tran rows.length cs) := by rw [ec]; exact hc
    obtain ⟨r, hr, hxr⟩ := cols_mem (fun r hr => by rw [tran_wid ok.n1]; exact tran_row hr) h0 hx
    exact dv r hr x hxr
  have eC : cols (lowR g (tran rows.length cs)) = cs.map fun c => c.map (· / g) := by rw [cols_low, ec]
  -- column by column
  have hcol : ∀ y ∈ ys, ∃ ν : Int, 0 < ν ∧ ((lookN (wayD rows.length (cols rows)) y).getD []).map (· / g) = y.map (ν * ·) ∧ (y.map (ν * ·)).map (g * ·) = (lookN (wayD rows.length (cols rows)) y).getD [] := fun y hyy => by
    obtain ⟨μ, hμ, e, g1, _⟩ := hval y hyy
    have hc : (lookN (wayD rows.length (cols rows)) y).getD [] ∈ cs := by rw [← hcs]; exact List.mem_map.mpr ⟨y, hyy, rfl⟩
    have hd := dvc _ hc
    have gm : g ∣ μ := by
      have h1 : gcdL (y.map (μ * ·)) = μ := by rw [gcdL_mul (Int.le_of_lt hμ), g1, Int.mul_one]
      rw [← h1]
      have key : ∀ (l : List Int) (a : Int), g ∣ a → (∀ x ∈ l, g ∣ x) → g ∣ l.foldl gcdI a := by
        intro l
        induction l with
        | nil => intro a h _; exact h
        | cons x r ih =>
          intro a h h2
          refine ih _ ?_ fun z hz => h2 z (List.mem_cons_of_mem _ hz)
          unfold gcdI
          exact Int.dvd_coe_gcd h (h2 x List.mem_cons_self)
      exact key _ 0 (Int.dvd_zero g) (by rw [← e]; exact hd)
    obtain ⟨ν, rfl⟩ := gm
    have hν : 0 < ν := by
      rcases Int.lt_or_le 0 ν with h | h
      · exact h
      · have := Int.mul_nonpos_of_nonneg_of_nonpos (Int.le_of_lt hgp) h
        omega
    refine ⟨ν, hν, ?_, ?_⟩
    · rw [e, List.map_map]
      refine List.map_congr_left fun x _ => ?_
      show g * ν * x / g = ν * x
      rw [Int.mul_assoc, Int.mul_ediv_cancel_left _ (by omega)]
    · rw [e, List.map_map]
      refine List.map_congr_left fun x _ => ?_
      show g * (ν * x) = g * ν * x
      rw [Int.mul_assoc]
  have hdir : ∀ y ∈ ys, dirL (((lookN (wayD rows.length (cols rows)) y).getD []).map (· / g)) = y ∧ 0 < gcdL (((lookN (wayD rows.length (cols rows)) y).getD []).map (· / g)) := fun y hyy => by
    obtain ⟨ν, hν, e, _⟩ := hcol y hyy
    obtain ⟨_, _, _, g1, _⟩ := hval y hyy
    rw [e, dirL_mul hν, dirL_one g1, gcdL_mul (Int.le_of_lt hν), g1, Int.mul_one]
    exact ⟨rfl, hν⟩
  have eD : (cols (lowR g (tran rows.length cs))).map dirL = ys := by
    rw [eC, ← hcs, List.map_map, List.map_map]
    conv => rhs; rw [← List.map_id ys]
    exact List.map_congr_left fun y hyy => (hdir y hyy).1
  have hmem : ∀ c' ∈ cols (lowR g (tran rows.length cs)), ∃ y ∈ ys, c' = ((lookN (wayD rows.length (cols rows)) y).getD []).map (· / g) := fun c' hc => by
    rw [eC, ← hcs] at hc
    obtain ⟨c, hc2, e⟩ := List.mem_map.mp hc
    obtain ⟨y, hyy, e2⟩ := List.mem_map.mp hc2
    exact ⟨y, hyy, by rw [← e, ← e2]⟩
  refine ⟨t1, l1, by rw [eD]; exact hnd, fun c' hc => ?_, fun c hc hgc => ?_, ⟨g, hgp, ?_, fun c' hc F hF => ?_⟩, w1⟩
  · obtain ⟨y, hyy, rfl⟩ := hmem c' hc
    exact (hdir y hyy).2
  · rw [eD, hy.mem_iff]
    exact P.all c hc hgc
  · rw [Int.mul_ediv_cancel' (by rw [← hg]; exact gcdL_dvd List.mem_cons_self)]
  · obtain ⟨y, hyy, rfl⟩ := hmem c' hc
    rw [(hdir y hyy).1]
    have hs := ways_sum (n := rows.length) ok.len ok.nn hy (hom_dir hF y)
    rw [← hs, List.map_map, sum_one hnd hyy fun z hz hne => ?_]
    · obtain ⟨ν, hν, e, e2⟩ := hcol y hyy
      obtain ⟨μ, hμ, e3, g1, _⟩ := hval y hyy
      show g * F _ = ofDir y F ((lookN (wayD rows.length (cols rows)) y).getD [])
      rw [e, ← e2, ← hF _ g (Int.le_of_lt hgp)]
      unfold ofDir
      rw [if_pos]
      rw [gcdL_mul (Int.le_of_lt hgp), gcdL_mul (Int.le_of_lt hν), g1, dirL_mul hgp, dirL_mul hν, dirL_one g1]
      exact ⟨by rw [Int.mul_one]; exact Int.mul_pos hgp hν, rfl⟩
    · show ofDir y F ((lookN (wayD rows.length (cols rows)) z).getD []) = 0
      obtain ⟨μ, hμ, e3, g1, _⟩ := hval z hz
      unfold ofDir
      rw [e3, dirL_mul hμ, dirL_one g1, if_neg fun q => hne q.2]
end J

set_option Elab.async false
set_option linter.all false
set_option maxRecDepth 100000
set_option maxHeartbeats 4000000
/-! J24: garblers that make one teller of another, plainly. -/
namespace J
open PySem PySem.Spec L2 RZ LP
/-- the column of a word -/
def colW (rows : List (List Int)) (y : Nat) : List Int := rows.map fun r => r.getD y 0
theorem cols_colW (rows : List (List Int)) : cols rows = (List.range (wid rows)).map (colW rows) := rfl
theorem sg_list (n : Nat) (f : Nat → Int) : ((List.range n).map f).sum = sg n f := fnL_sum n f
theorem cols_sg (rows : List (List Int)) (F : List Int → Int) : ((cols rows).map F).sum = sg (wid rows) fun y => F (colW rows y) := by
  rw [cols_colW, List.map_map, sg_list]
  rfl
theorem colW_mem {rows : List (List Int)} {y : Nat} (h : y < wid rows) : colW rows y ∈ cols rows := List.mem_map.mpr ⟨y, List.mem_range.mpr h, rfl⟩
theorem colW_at {rows : List (List Int)} {x y : Nat} (h : x < rows.length) : (colW rows y).getD x 0 = (rows.getD x []).getD y 0 := by
  unfold colW
  simp only [List.getD_eq_getElem?_getD, List.getElem?_map]
  rw [List.getElem?_eq_getElem h]
  rfl
theorem prodAt_sg {r : List Int} {n : Nat} (h : r.length = n) (m : List (List Int)) (z : Nat) : prodAt r m z = sg n fun y => r.getD y 0 * (m.getD y []).getD z 0 := by
  rw [prodAt_eq h, sg_list]
/-- a garbler that makes other of one -/
structure Makes (d : Int) (rows : List (List Int)) (e : Int) (goal : List (List Int)) (w : Int) (g : List (List Int)) : Prop where
  gar : IsGar w g
  heard : g.length = wid rows
  said : wid g = wid goal
  eq : ∀ x, x < rows.length → ∀ z, z < wid goal → prodAt (rows.getD x []) g z * e = (goal.getD x []).getD z 0 * (d * w)
def NoLess (d : Int) (rows : List (List Int)) (e : Int) (goal : List (List Int)) : Prop := ∃ w g, Makes d rows e goal w g
theorem list_ext0 {a b : List Int} (h : a.length = b.length) (k : ∀ x, x < a.length → a.getD x 0 = b.getD x 0) : a = b := by
  refine List.ext_getElem h fun x h1 h2 => ?_
  have := k x h1
  simpa [List.getD_eq_getElem?_getD, h1, h2] using this
/-- what is made is worth no more -/
theorem makes_worth {d e w : Int} {rows goal g : List (List Int)} (ht : IsTel d rows) (hu : IsTel e goal) (len : goal.length = rows.length) (m : Makes d rows e goal w g) {s : List (List Int)} (hs : 1 ≤ s.length) : worthN goal s * d ≤ worthN rows s * e := by
  have h1 := W_garbled ht.ok m.gar.ok m.heard hs
  have d1 := ht.d1
  have e1 := hu.d1
  have w1 := m.gar.d1
  have he : e * worthN (prodR rows g) s = (d * w) * worthN goal s := by
    have l1 : wid (prodR rows g) = wid goal := by rw [wid_prod ht.ok.l1, m.said]
    rw [worthN, worthN, ← sum_mulL, ← sum_mulL, cols_sg, cols_sg, l1]
    refine sg_congr fun z hz => ?_
    have key : (colW (prodR rows g) z).map (e * ·) = (colW goal z).map ((d * w) * ·) := by
      refine list_ext0 ?_ fun x hx => ?_
      · rw [List.length_map, List.length_map]
        unfold colW
        rw [List.length_map, List.length_map, prodR, List.length_map, len]
      · have hx' : x < rows.length := by
          rw [List.length_map] at hx
          unfold colW at hx
          rw [List.length_map, prodR, List.length_map] at hx
          exact hx
        have hE := m.eq x hx' z hz
        have g1 : ((colW (prodR rows g) z).map (e * ·)).getD x 0 = e * (colW (prodR rows g) z).getD x 0 := by
          have := hom_at x (colW (prodR rows g) z) e (by omega)
          exact this
        have g2 : ((colW goal z).map ((d * w) * ·)).getD x 0 = (d * w) * (colW goal z).getD x 0 := by
          have := hom_at x (colW goal z) (d * w) (Int.mul_nonneg (by omega) (by omega))
          exact this
        rw [g1, g2, colW_at (by rw [prodR, List.length_map]; exact hx'), colW_at (by omega)]
        have e3 : ((prodR rows g).getD x []).getD z 0 = prodAt (rows.getD x []) g z := by
          rw [prodR]
          simp only [List.getD_eq_getElem?_getD, List.getElem?_map]
          rw [List.getElem?_eq_getElem hx']
          simp [m.said, hz]
        rw [e3, Int.mul_comm, hE, Int.mul_comm]
    have a1 := hom_max s (colW (prodR rows g) z) e (by omega)
    have a2 := hom_max s (colW goal z) (d * w) (Int.mul_nonneg (by omega) (by omega))
    rw [← a1, ← a2, key]
  have h2 : (d * w) * worthN goal s ≤ e * (worthN rows s * w) := by
    rw [← he]
    exact Int.mul_le_mul_of_nonneg_left h1 (by omega)
  refine Int.le_of_mul_le_mul_left (a := w) ?_ (by omega)
  have q1 : w * (worthN goal s * d) = (d * w) * worthN goal s := by grind
  have q2 : w * (worthN rows s * e) = e * (worthN rows s * w) := by grind
  rw [q1, q2]
  exact h2
/-! the equations of two tellers -/
def eqR (k : Int) (rows : List (List Int)) (x y : Nat) : Int := (rows.getD x []).getD y 0 * k
def eqN (d e : Int) (rows goal : List (List Int)) : Nat × Nat × Nat := (rows.length, wid rows, wid goal)
/-- numbers that make brief of short -/
structure FoundN (d : Int) (rows : List (List Int)) (e : Int) (goal : List (List Int)) (f : Nat → Int) (w : Int) : Prop where
  w0 : 0 < w
  f0 : ∀ l, 0 ≤ f l
  eq : ∀ x, x < rows.length → ∀ z, z < wid goal → sg (wid rows) (fun y => f (y * wid goal + z) * (rows.getD x []).getD y 0) * e = w * ((goal.getD x []).getD z 0 * d)
  one : ∀ y, y < wid rows → sg (wid goal) (fun z => f (y * wid goal + z)) = w
  ws : Sm 5640 w
  fs : ∀ l, l < wid rows * wid goal → Sm 5640 (f l)
/-- numbers that show that there are none -/
structure ToldN (d : Int) (rows : List (List Int)) (e : Int) (goal : List (List Int)) (Y : Nat → Int) : Prop where
  le : ∃ u : Nat → Int, (∀ y, y < wid rows → ∀ z, z < wid goal → sg rows.length (fun x => Y (x * wid goal + z) * ((rows.getD x []).getD y 0 * e)) ≤ u y) ∧
    sg (wid rows) u < sg rows.length fun x => sg (wid goal) fun z => Y (x * wid goal + z) * ((goal.getD x []).getD z 0 * d)
  ys : ∀ l, l < rows.length * wid goal + wid rows → Sm 5640 (Y l)
def dFound (rows goal : List (List Int)) (f : Nat → Int) (w : Int) : D := .tup [.tup [dLI (fnL (wid rows * wid goal) f), .int w], .non]
def dTold (rows goal : List (List Int)) (Y : Nat → Int) : D := .tup [.non, dLI (fnL (rows.length * wid goal + wid rows) Y)]
def FoundOk (d : Int) (rows : List (List Int)) (e : Int) (goal : List (List Int)) (fd : D) : Prop := (∃ f w, fd = dFound rows goal f w ∧ FoundN d rows e goal f w) ∨ ∃ Y, fd = dTold rows goal Y ∧ ToldN d rows e goal Y
theorem cancel_mul {g a b : Int} (hg : 0 < g) (h : g * a = g * b) : a = b := Int.eq_of_mul_eq_mul_left (by omega) h
theorem found_of {d e g : Int} {rows goal : List (List Int)} {f : Nat → Int} {w : Int} (hg : 0 < g) (hd : g ∣ d) (he : g ∣ e) (w0 : 0 < w) (f0 : ∀ l, 0 ≤ f l)
    (h : ∀ r, r < rows.length * wid goal + wid rows → sg (wid rows * wid goal) (fun l => f l * eqA rows.length (wid goal) (eqR (e / g) rows) l r) = w * eqB rows.length (wid goal) (eqR (d / g) goal) r)
    (ws : Sm 5640 w) (fs : ∀ l, l < wid rows * wid goal → Sm 5640 (f l)) : FoundN d rows e goal f w := by
  obtain ⟨a, b⟩ := eq_found h
  refine ⟨w0, f0, fun x hx z hz => ?_, b, ws, fs⟩
  have := a x hx z hz
  obtain ⟨d', rfl⟩ := hd
  obtain ⟨e', rfl⟩ := he
  unfold eqR at this
  rw [Int.mul_ediv_cancel_left _ (by omega), Int.mul_ediv_cancel_left _ (by omega)] at this
  have e1 : sg (wid rows) (fun y => f (y * wid goal + z) * ((rows.getD x []).getD y 0 * e')) = e' * sg (wid rows) fun y => f (y * wid goal + z) * (rows.getD x []).getD y 0 := by
    rw [← sg_mul]
    exact sg_congr fun y _ => by grind
  rw [e1] at this
  have e2 : sg (wid rows) (fun y => f (y * wid goal + z) * (rows.getD x []).getD y 0) * (g * e') = g * (e' * sg (wid rows) fun y => f (y * wid goal + z) * (rows.getD x []).getD y 0) := by grind
  rw [e2, this]
  grind
theorem told_of {d e g : Int} {rows goal : List (List Int)} {Y : Nat → Int} (hg : 0 < g) (hd : g ∣ d) (he : g ∣ e)
    (h1 : ∀ l, l < wid rows * wid goal → sg (rows.length * wid goal + wid rows) (fun r => Y r * eqA rows.length (wid goal) (eqR (e / g) rows) l r) ≤ 0)
    (h2 : 0 < sg (rows.length * wid goal + wid rows) fun r => Y r * eqB rows.length (wid goal) (eqR (d / g) goal) r) (ys : ∀ l, l < rows.length * wid goal + wid rows → Sm 5640 (Y l)) : ToldN d rows e goal Y := by
  obtain ⟨a, b⟩ := eq_none h1 h2
  obtain ⟨d', rfl⟩ := hd
  obtain ⟨e', rfl⟩ := he
  unfold eqR at a b
  rw [Int.mul_ediv_cancel_left _ (by omega)] at b
  refine ⟨⟨fun y => g * -Y (rows.length * wid goal + y), fun y hy z hz => ?_, ?_⟩, ys⟩
  · have := a y hy z hz
    rw [Int.mul_ediv_cancel_left _ (by omega)] at this
    have e1 : sg rows.length (fun x => Y (x * wid goal + z) * ((rows.getD x []).getD y 0 * (g * e'))) = g * sg rows.length fun x => Y (x * wid goal + z) * ((rows.getD x []).getD y 0 * e') := by
      rw [← sg_mul]
      exact sg_congr fun x _ => by grind
    rw [e1]
    exact Int.mul_le_mul_of_nonneg_left this (by omega)
  · rw [sg_mul]
    have e1 : sg rows.length (fun x => sg (wid goal) fun z => Y (x * wid goal + z) * ((goal.getD x []).getD z 0 * (g * d'))) = g * sg rows.length fun x => sg (wid goal) fun z => Y (x * wid goal + z) * ((goal.getD x []).getD z 0 * d') := by
      rw [← sg_mul]
      refine sg_congr fun x _ => ?_
      rw [← sg_mul]
      exact sg_congr fun z _ => by grind
    rw [e1]
    exact Int.mul_lt_mul_of_pos_left b hg
end J

set_option Elab.async false
set_option linter.all false
set_option maxRecDepth 100000
set_option maxHeartbeats 4000000
/-! J25: a garbler of plain forms, led back to the tellers. -/
namespace J
open PySem PySem.Spec L2 RZ LP
/-- the place of a word in the plain form -/
def pl (ks : List (List Int)) (c : List Int) : Nat := if 0 < gcdL c then ks.idxOf (dirL c) else 0
def plW (rows rows' : List (List Int)) (y : Nat) : Nat := pl ((cols rows').map dirL) (colW rows y)
def oft (rows : List (List Int)) (y : Nat) : Int := gcdL (colW rows y)
def wholeJ (rows rows' : List (List Int)) (j : Nat) : Int := sg (wid rows) fun z => if plW rows rows' z = j then oft rows z else 0
section
variable {d d' : Int} {rows rows' : List (List Int)}
theorem PlainOf.keys_len (P : PlainOf d rows d' rows') : ((cols rows').map dirL).length = wid rows' := by rw [List.length_map, cols_len]
theorem key_at {i : Nat} (hi : i < wid rows') : ((cols rows').map dirL)[i]? = some (dirL (colW rows' i)) := by
  rw [List.getElem?_map, cols_colW, List.getElem?_map, List.getElem?_range hi]
  rfl
theorem PlainOf.pl_lt (P : PlainOf d rows d' rows') {y : Nat} (hy : y < wid rows) : plW rows rows' y < wid rows' := by
  unfold plW pl
  have w1 := P.tel.ok.w1
  by_cases h : 0 < gcdL (colW rows y)
  · rw [if_pos h]
    have := List.idxOf_lt_length_of_mem (P.all _ (colW_mem hy) h)
    rw [P.keys_len] at this
    exact this
  · rw [if_neg h]; omega
theorem PlainOf.dir_pl (P : PlainOf d rows d' rows') {y : Nat} (hy : y < wid rows) (h : 0 < oft rows y) : dirL (colW rows y) = dirL (colW rows' (plW rows rows' y)) := by
  have m := P.all _ (colW_mem hy) h
  have l := P.pl_lt hy
  have k := key_at (rows' := rows') l
  have e : plW rows rows' y = ((cols rows').map dirL).idxOf (dirL (colW rows y)) := by
    unfold plW pl
    exact if_pos h
  rw [e] at k ⊢
  rw [List.getElem?_eq_getElem (List.idxOf_lt_length_of_mem m), List.getElem_idxOf] at k
  exact Option.some.inj k
theorem PlainOf.pl_of (P : PlainOf d rows d' rows') {y i : Nat} (hy : y < wid rows) (h : 0 < oft rows y) (hi : i < wid rows') (e : dirL (colW rows y) = dirL (colW rows' i)) : plW rows rows' y = i := by
  have l := P.pl_lt hy
  have k1 := key_at (rows' := rows') l
  have k2 := key_at (rows' := rows') hi
  rw [← P.dir_pl hy h, e] at k1
  rw [← k2] at k1
  exact (List.getElem?_inj (by rw [P.keys_len]; exact l) P.nd).mp k1
theorem oft_nn (rows : List (List Int)) (y : Nat) : 0 ≤ oft rows y := gcdL_nn _
theorem oft_dir {y x : Nat} (hx : x < rows.length) (h : 0 < oft rows y) : oft rows y * (dirL (colW rows y)).getD x 0 = (rows.getD x []).getD y 0 := by
  have := hom_at x (dirL (colW rows y)) (oft rows y) (Int.le_of_lt h)
  simp only [] at this
  rw [← this]
  have e : (dirL (colW rows y)).map (oft rows y * ·) = colW rows y := dir_mul h
  rw [e, colW_at hx]
theorem oft_zero {y x : Nat} (hx : x < rows.length) (h : ¬ 0 < oft rows y) : (rows.getD x []).getD y 0 = 0 := by
  rw [← colW_at hx]
  have := gcdL_zero_iff h
  rw [List.getD_eq_getElem?_getD]
  cases e : (colW rows y)[x]? with
  | none => rfl
  | some v => exact this v (List.mem_of_getElem? e)
/-- sums over the words of one place -/
theorem PlainOf.at_place (P : PlainOf d rows d' rows') {g : Int} (hs : ∀ c' ∈ cols rows', ∀ F, Hom F → g * F c' = ((cols rows).map (ofDir (dirL c') F)).sum) {i x : Nat} (hi : i < wid rows') (hx : x < rows.length) :
    g * (rows'.getD x []).getD i 0 = sg (wid rows) fun y => if plW rows rows' y = i then (rows.getD x []).getD y 0 else 0 := by
  have := hs _ (colW_mem hi) _ (hom_at x)
  rw [cols_sg, colW_at (by rw [P.len]; exact hx)] at this
  rw [this]
  refine sg_congr fun y hy => ?_
  unfold ofDir
  by_cases h : 0 < oft rows y
  · by_cases e : dirL (colW rows y) = dirL (colW rows' i)
    · rw [if_pos ⟨h, e⟩, if_pos (P.pl_of hy h hi e)]; exact colW_at hx
    · rw [if_neg fun z => e z.2, if_neg fun z => e (by rw [← z]; exact P.dir_pl hy h)]
  · rw [if_neg fun z => h z.1]
    split
    · rw [oft_zero hx h]
    · rfl
/-- the whole of a place, and its direction, make its column -/
theorem PlainOf.whole_dir (P : PlainOf d rows d' rows') {g : Int} (hs : ∀ c' ∈ cols rows', ∀ F, Hom F → g * F c' = ((cols rows).map (ofDir (dirL c') F)).sum) {i x : Nat} (hi : i < wid rows') (hx : x < rows.length) :
    g * (rows'.getD x []).getD i 0 = wholeJ rows rows' i * (dirL (colW rows' i)).getD x 0 := by
  rw [P.at_place hs hi hx]
  unfold wholeJ
  rw [Int.mul_comm, ← sg_mul]
  refine sg_congr fun y hy => ?_
  by_cases e : plW rows rows' y = i
  · rw [if_pos e, if_pos e]
    by_cases h : 0 < oft rows y
    · rw [← e, ← P.dir_pl hy h, Int.mul_comm, oft_dir hx h]
    · rw [oft_zero hx h]
      have : oft rows y = 0 := by have := oft_nn rows y; omega
      rw [this, Int.mul_zero]
  · rw [if_neg e, if_neg e, Int.mul_zero]
theorem sg_nn {n : Nat} {f : Nat → Int} (h : ∀ i, i < n → 0 ≤ f i) : 0 ≤ sg n f := by
  induction n with
  | zero => exact Int.le_refl 0
  | succ n ih => unfold sg; have := ih fun i hi => h i (by omega); have := h n (by omega); omega
theorem PlainOf.whole_pos (P : PlainOf d rows d' rows') {i : Nat} (hi : i < wid rows') : 0 < wholeJ rows rows' i := by
  obtain ⟨g, hg, _, hs⟩ := P.sums
  have h0 : 0 ≤ wholeJ rows rows' i := sg_nn fun z _ => by
    split
    · exact oft_nn rows z
    · exact Int.le_refl 0
  rcases Int.lt_or_eq_of_le h0 with h | h
  · exact h
  · -- then the column is one of noughts
    exfalso
    have hc := P.pos _ (colW_mem hi)
    have hz : ∀ x ∈ colW rows' i, x = 0 := fun v hv => by
      obtain ⟨r, hr, rfl⟩ := List.mem_map.mp hv
      obtain ⟨x, hx, rfl⟩ := List.mem_iff_getElem.mp hr
      have hx2 : x < rows.length := by rw [← P.len]; exact hx
      have := P.whole_dir hs hi hx2
      rw [← h, Int.zero_mul] at this
      have e : (rows'.getD x []).getD i 0 = 0 := by
        rcases Int.mul_eq_zero.mp this with z | z
        · omega
        · exact z
      have e2 : rows'.getD x [] = rows'[x] := by rw [List.getD_eq_getElem?_getD, List.getElem?_eq_getElem hx]; rfl
      rw [e2] at e
      exact e
    rw [gcdL_all0 hz] at hc
    omega
theorem PlainOf.whole_le (P : PlainOf d rows d' rows') (ht : IsTel d rows) {i : Nat} : wholeJ rows rows' i ≤ 6 * d := by
  -- the gcds are at most the sums of the columns
  have h1 : wholeJ rows rows' i ≤ sg (wid rows) fun y => (colW rows y).sum := by
    unfold wholeJ
    have le : ∀ n : Nat, n ≤ wid rows → sg n (fun z => if plW rows rows' z = i then oft rows z else 0) ≤ sg n fun y => (colW rows y).sum := fun n => by
      induction n with
      | zero => intro _; exact Int.le_refl 0
      | succ n ih =>
        intro hn
        unfold sg
        have h1 := ih (by omega)
        have nn : ∀ x ∈ colW rows n, 0 ≤ x := fun x hx => by
          obtain ⟨r, hr, hxr⟩ := cols_mem ht.ok.len (colW_mem (show n < wid rows by omega)) hx
          exact ht.ok.nn r hr x hxr
        have h2 : oft rows n ≤ (colW rows n).sum := by
          by_cases hg : 0 < oft rows n
          · have key : ∀ l : List Int, (∀ x ∈ l, 0 ≤ x) → 0 < gcdL l → gcdL l ≤ l.sum := fun l hl hg => by
              apply Classical.byContradiction
              intro hn
              have hz : ∀ x ∈ l, x = 0 := fun x hx => by
                have hd := gcdL_dvd hx
                have h0 := hl x hx
                rcases Int.lt_or_eq_of_le h0 with h | h
                · have h3 := Int.le_of_dvd h hd
                  have h4 : x ≤ l.sum := by
                    have : ∀ (l : List Int), (∀ y ∈ l, 0 ≤ y) → x ∈ l → x ≤ l.sum := by
                      intro l
                      induction l with
                      | nil => intro _ h; simp at h
                      | cons a b ih =>
                        intro hl hx
                        rw [List.sum_cons]
                        rcases List.mem_cons.mp hx with rfl | hx
                        · have := sum_nn (l := b) fun y hy => hl y (List.mem_cons_of_mem _ hy); omega
                        · have := ih (fun y hy => hl y (List.mem_cons_of_mem _ hy)) hx
                          have := hl a List.mem_cons_self; omega
                    exact this l hl hx
                  omega
                · exact h.symm
              rw [gcdL_all0 hz] at hg
              omega
            exact key _ nn hg
          · have := sum_nn nn; have := oft_nn rows n; omega
        have h3 := sum_nn nn
        split <;> omega
    exact le _ (Nat.le_refl _)
  have h2 := cols_total ht.ok
  rw [cols_sg] at h2
  rw [h2] at h1
  have l2 := ht.ok.l2
  have d1 := ht.d1
  have : (rows.length : Int) * d ≤ 6 * d := Int.mul_le_mul_of_nonneg_right (by omega) (by omega)
  omega
end
/-! the row of a word -/
def wideR (rows rows' goal goal' : List (List Int)) (f : Nat → Int) (whole : Int) : List (List Int) :=
  (List.range (wid rows)).map fun w => fnL (wid goal) fun z => f (plW rows rows' w * wid goal' + plW goal goal' z) * oft goal z * (whole / wholeJ goal goal' (plW goal goal' z))
section
variable {d d' e e' w whole : Int} {rows rows' goal goal' : List (List Int)} {f : Nat → Int}
theorem wide_at {y z : Nat} (hy : y < wid rows) (hz : z < wid goal) : ((wideR rows rows' goal goal' f whole).getD y []).getD z 0 = f (plW rows rows' y * wid goal' + plW goal goal' z) * oft goal z * (whole / wholeJ goal goal' (plW goal goal' z)) := by
  unfold wideR
  simp only [List.getD_eq_getElem?_getD, List.getElem?_map]
  rw [List.getElem?_range hy]
  simp only [Option.map_some, Option.getD_some]
  rw [fnL_at hz]
  rfl
theorem wide_len : (wideR rows rows' goal goal' f whole).length = wid rows := by rw [wideR, List.length_map, List.length_range]
theorem wide_wid (h : 1 ≤ wid rows) : wid (wideR rows rows' goal goal' f whole) = wid goal := by
  obtain ⟨r, rs, hr, hw⟩ := head_wid (rows := wideR rows rows' goal goal' f whole) (by rw [wide_len]; exact h)
  have : r ∈ wideR rows rows' goal goal' f whole := by rw [hr]; exact List.mem_cons_self
  rw [hw]
  obtain ⟨y, _, rfl⟩ := List.mem_map.mp this
  exact fnL_len _ _
theorem fnL_getD {n : Nat} {g : Nat → Int} {k : Nat} (h : k < n) : (fnL n g).getD k 0 = g k := by
  rw [List.getD_eq_getElem?_getD, fnL_at h]; rfl
/-- sums over all words of the other one are sums over places -/
theorem sg_places (Q : PlainOf e goal e' goal') (hw : ∀ j, j < wid goal' → wholeJ goal goal' j ∣ whole) (g : Nat → Int) : sg (wid goal) (fun z => g (plW goal goal' z) * oft goal z * (whole / wholeJ goal goal' (plW goal goal' z))) = whole * sg (wid goal') g := by
  have e1 : whole * sg (wid goal') g = sg (wid goal') fun j => g j * (whole / wholeJ goal goal' j) * wholeJ goal goal' j := by
    rw [← sg_mul]
    refine sg_congr fun j hj => ?_
    have := Int.ediv_mul_cancel (hw j hj)
    rw [Int.mul_assoc, this, Int.mul_comm]
  rw [e1]
  have e2 : sg (wid goal') (fun j => g j * (whole / wholeJ goal goal' j) * wholeJ goal goal' j) = sg (wid goal') fun j => sg (wid goal) fun z => if plW goal goal' z = j then g j * (whole / wholeJ goal goal' j) * oft goal z else 0 := by
    refine sg_congr fun j hj => ?_
    unfold wholeJ
    rw [← sg_mul]
    refine sg_congr fun z _ => ?_
    split
    · rfl
    · rw [Int.mul_zero]
  rw [e2, sg_swap]
  refine sg_congr fun z hz => ?_
  rw [sg_one (Q.pl_lt hz) fun i _ hn => by rw [if_neg (Ne.symm hn)], if_pos rfl]
  grind
theorem wide_makes (ht : IsTel d rows) (hu : IsTel e goal) (len : goal.length = rows.length) (P : PlainOf d rows d' rows') (Q : PlainOf e goal e' goal') (F : FoundN d' rows' e' goal' f w) (w0 : 0 < whole) (hw : ∀ j, j < wid goal' → wholeJ goal goal' j ∣ whole) :
    Makes d rows e goal (w * whole) (wideR rows rows' goal goal' f whole) := by
  have t1 := ht.ok.w1
  have u1 := hu.ok.w1
  have f0 := F.f0
  have nn : ∀ y z, 0 ≤ f (plW rows rows' y * wid goal' + plW goal goal' z) * oft goal z * (whole / wholeJ goal goal' (plW goal goal' z)) := fun y z =>
    Int.mul_nonneg (Int.mul_nonneg (f0 _) (oft_nn goal z)) (Int.ediv_nonneg (Int.le_of_lt w0) (sg_nn fun i _ => by split <;> first | exact oft_nn goal _ | exact Int.le_refl 0))
  refine ⟨⟨?_, ⟨by rw [wide_len]; exact t1, by rw [wide_len]; exact ht.ok.w2, by rw [wide_wid t1]; exact u1, by rw [wide_wid t1]; exact hu.ok.w2, fun r hr => ?_, fun r hr x hx => ?_, fun r hr => ?_⟩⟩, wide_len, wide_wid t1, fun x hx z hz => ?_⟩
  · have := Int.mul_pos F.w0 w0; omega
  · rw [wide_wid t1]
    obtain ⟨y, _, rfl⟩ := List.mem_map.mp hr
    exact fnL_len _ _
  · obtain ⟨y, _, rfl⟩ := List.mem_map.mp hr
    obtain ⟨z, _, rfl⟩ := List.mem_map.mp hx
    exact nn y z
  · obtain ⟨y, hy, rfl⟩ := List.mem_map.mp hr
    have hy := List.mem_range.mp hy
    rw [fnL_sum, sg_places Q hw fun j => f (plW rows rows' y * wid goal' + j), F.one _ (P.pl_lt hy), Int.mul_comm]
  · obtain ⟨ga, hga, ed, hsP⟩ := P.sums
    obtain ⟨gb, hgb, ee, hsQ⟩ := Q.sums
    have hxg : x < goal.length := by rw [len]; exact hx
    rw [prodAt_sg (ht.ok.len _ (getD_row hx))]
    have e1 : sg (wid rows) (fun y => (rows.getD x []).getD y 0 * ((wideR rows rows' goal goal' f whole).getD y []).getD z 0) = (oft goal z * (whole / wholeJ goal goal' (plW goal goal' z))) * sg (wid rows) fun y => (rows.getD x []).getD y 0 * f (plW rows rows' y * wid goal' + plW goal goal' z) := by
      rw [← sg_mul]
      refine sg_congr fun y hy => ?_
      rw [wide_at hy hz]
      grind
    rw [e1]
    have hj := Q.pl_lt hz
    generalize hjj : plW goal goal' z = j at *
    by_cases ho : 0 < oft goal z
    · have e2 : sg (wid rows) (fun y => (rows.getD x []).getD y 0 * f (plW rows rows' y * wid goal' + j)) = ga * sg (wid rows') fun i => f (i * wid goal' + j) * (rows'.getD x []).getD i 0 := by
        rw [← sg_mul]
        have e3 : sg (wid rows') (fun i => ga * (f (i * wid goal' + j) * (rows'.getD x []).getD i 0)) = sg (wid rows') fun i => sg (wid rows) fun y => if plW rows rows' y = i then (rows.getD x []).getD y 0 * f (i * wid goal' + j) else 0 := by
          refine sg_congr fun i hi => ?_
          have := P.at_place hsP hi hx
          have e4 : ga * (f (i * wid goal' + j) * (rows'.getD x []).getD i 0) = f (i * wid goal' + j) * (ga * (rows'.getD x []).getD i 0) := by grind
          rw [e4, this, ← sg_mul]
          refine sg_congr fun y _ => ?_
          split
          · rw [Int.mul_comm]
          · rw [Int.mul_zero]
        rw [e3, sg_swap]
        refine sg_congr fun y hy => ?_
        rw [sg_one (P.pl_lt hy) fun i _ hn => by rw [if_neg (Ne.symm hn)], if_pos rfl]
      rw [e2]
      have mk := F.eq x (by rw [P.len]; exact hx) j hj
      have wd := Q.whole_dir hsQ hj hxg
      have hdir := Q.dir_pl hz ho
      rw [hjj] at hdir
      have od := oft_dir hxg ho
      rw [hdir] at od
      have hwh := Int.ediv_mul_cancel (hw j hj)
      generalize sg (wid rows') (fun i => f (i * wid goal' + j) * (rows'.getD x []).getD i 0) = A at *
      generalize (goal'.getD x []).getD j 0 = B at *
      generalize wholeJ goal goal' j = C at *
      generalize (dirL (colW goal' j)).getD x 0 = K at *
      generalize whole / C = M at *
      generalize oft goal z = O at *
      generalize (goal.getD x []).getD z 0 = R at *
      subst ed ee od
      calc O * M * (ga * A) * (gb * e') = O * M * ga * gb * (A * e') := by grind
        _ = O * M * ga * gb * (w * (B * d')) := by rw [mk]
        _ = O * M * ga * w * d' * (gb * B) := by grind
        _ = O * M * ga * w * d' * (C * K) := by rw [wd]
        _ = O * K * ((ga * d') * (w * (M * C))) := by grind
        _ = O * K * ((ga * d') * (w * whole)) := by rw [hwh]
    · have : oft goal z = 0 := by have := oft_nn goal z; omega
      rw [this, oft_zero hxg ho]
      simp
end
end J

set_option Elab.async false
set_option linter.all false
set_option maxRecDepth 100000
set_option maxHeartbeats 4000000
/-! J26: stakes that part; what is lowered; promises of the order's defs. -/
namespace J
open PySem PySem.Spec L2 RZ LP
theorem dot_sg : ∀ {n : Nat} {a b : List Int}, a.length = n → b.length = n → dot a b = sg n fun x => a.getD x 0 * b.getD x 0 := by
  intro n a b ha hb
  unfold dot
  have : ∀ (a b : List Int), a.length = b.length → ((a.zip b).map fun p => p.1 * p.2) = (List.range a.length).map fun x => a.getD x 0 * b.getD x 0 := fun a b h => by
    refine List.ext_getElem (by rw [List.length_map, List.length_zip, List.length_map, List.length_range]; omega) fun x h1 h2 => ?_
    rw [List.length_map, List.length_range] at h2
    simp [List.getD_eq_getElem?_getD, h2, show x < b.length by omega]
  rw [this a b (by omega), sg_list, ha]
/-- stakes by which other is worth more -/
structure Parts (d : Int) (rows : List (List Int)) (e : Int) (goal : List (List Int)) (g : List (List Int)) : Prop where
  sta : IsSta g
  wide : wid g = rows.length
  more : worthN rows g * e < worthN goal g * d
theorem parts_none {d e : Int} {rows goal g : List (List Int)} (ht : IsTel d rows) (hu : IsTel e goal) (len : goal.length = rows.length) (p : Parts d rows e goal g) : ¬ NoLess d rows e goal := fun ⟨w, m, h⟩ => by
  have := makes_worth ht hu len h (s := g) p.sta.l1
  have := p.more
  omega
def stG (n s : Nat) (Y : Nat → Int) (by' : Int) : List (List Int) := (List.range s).map fun z => fnL n fun x => Y (x * s + z) / by'
theorem gcdL_sub {l m : List Int} (h : ∀ x ∈ m, x ∈ l ∨ x = 0) : gcdL l ∣ gcdL m := by
  have key : ∀ (m : List Int) (a : Int), gcdL l ∣ a → (∀ x ∈ m, x ∈ l ∨ x = 0) → gcdL l ∣ m.foldl gcdI a := by
    intro m
    induction m with
    | nil => intro a h _; exact h
    | cons x r ih =>
      intro a ha hm
      refine ih _ ?_ fun y hy => hm y (List.mem_cons_of_mem _ hy)
      unfold gcdI
      refine Int.dvd_coe_gcd ha ?_
      rcases hm x List.mem_cons_self with h | h
      · exact gcdL_dvd h
      · rw [h]; exact Int.dvd_zero _
  exact key m 0 (Int.dvd_zero _) h
theorem dvd_abs {g y : Int} (h : g ∣ (if y < 0 then -y else y)) : g ∣ y := by
  split at h
  · exact Int.dvd_neg.mp h
  · exact h
/-- what is told of plain forms parts the tellers -/
theorem told_parts {d e d' e' : Int} {rows goal rows' goal' : List (List Int)} {Y : Nat → Int} {by' : Int} (ht : IsTel d rows) (hu : IsTel e goal) (len : goal.length = rows.length) (P : PlainOf d rows d' rows') (Q : PlainOf e goal e' goal') (T : ToldN d' rows' e' goal' Y)
    (b0 : 0 < by') (bd : ∀ l, l < rows'.length * wid goal' + wid rows' → by' ∣ Y l) : Parts d rows e goal (stG rows'.length (wid goal') Y by') := by
  obtain ⟨u, hu1, hu2⟩ := T.le
  have n1 := P.tel.ok.l1
  have s1 := Q.tel.ok.w1
  have s2 := Q.tel.ok.w2
  have lg : (stG rows'.length (wid goal') Y by').length = wid goal' := by rw [stG, List.length_map, List.length_range]
  have lr : ∀ r ∈ stG rows'.length (wid goal') Y by', r.length = rows'.length := fun r hr => by
    obtain ⟨z, _, rfl⟩ := List.mem_map.mp hr
    exact fnL_len _ _
  have hw := wid_of (g := stG rows'.length (wid goal') Y by') (by rw [lg]; exact s1) lr
  have hsm : ∀ r ∈ stG rows'.length (wid goal') Y by', ∀ x ∈ r, Sm 400000 x := fun r hr x hx => by
    obtain ⟨z, hz, rfl⟩ := List.mem_map.mp hr
    obtain ⟨i, hi, rfl⟩ := List.mem_map.mp hx
    have := T.ys (i * wid goal' + z) (by have := blk_lt (n := rows'.length) (List.mem_range.mp hi) (List.mem_range.mp hz); omega)
    exact this.div.mono (by decide)
  have sta : IsSta (stG rows'.length (wid goal') Y by') := ⟨by rw [lg]; exact s1, by rw [lg]; exact s2, by rw [hw]; exact n1, by rw [hw]; exact P.tel.ok.l2, fun r hr => by rw [hw]; exact lr r hr, hsm⟩
  refine ⟨sta, by rw [hw]; exact P.len, ?_⟩
  have lc : ∀ (rs : List (List Int)) (y : Nat), (colW rs y).length = rs.length := fun rs y => by unfold colW; rw [List.length_map]
  have dotz : ∀ (rs : List (List Int)) (y z : Nat), rs.length = rows'.length → z < wid goal' → by' * dot (fnL rows'.length fun x => Y (x * wid goal' + z) / by') (colW rs y) = sg rows'.length fun x => Y (x * wid goal' + z) * (rs.getD x []).getD y 0 := fun rs y z hl hz => by
    rw [dot_sg (fnL_len _ _) (by rw [lc, hl]), ← sg_mul]
    refine sg_congr fun x hx => ?_
    rw [fnL_getD hx, colW_at (by rw [hl]; exact hx), ← Int.mul_assoc, Int.mul_ediv_cancel' (bd _ (by have := blk_lt (n := rows'.length) hx hz; omega))]
  have key : worthN rows' (stG rows'.length (wid goal') Y by') * e' < worthN goal' (stG rows'.length (wid goal') Y by') * d' := by
    have e0 : 0 ≤ e' := by have := Q.tel.d1; omega
    have d0 : 0 ≤ d' := by have := P.tel.d1; omega
    have a1 : by' * (worthN rows' (stG rows'.length (wid goal') Y by') * e') ≤ sg (wid rows') u := by
      have e1 : by' * (worthN rows' (stG rows'.length (wid goal') Y by') * e') = sg (wid rows') fun y => (by' * e') * maxL (sumsAt (stG rows'.length (wid goal') Y by') (colW rows' y)) := by
        rw [sg_mul, worthN, cols_sg]
        grind
      rw [e1]
      have le : ∀ k, k ≤ wid rows' → sg k (fun y => (by' * e') * maxL (sumsAt (stG rows'.length (wid goal') Y by') (colW rows' y))) ≤ sg k u := fun k => by
        induction k with
        | zero => intro _; exact Int.le_refl 0
        | succ k ih =>
          intro hk
          unfold sg
          have h1 := ih (by omega)
          obtain ⟨v, hv, ev⟩ := mem_sumsAt.mp (maxL_ex (sumsAt_ne (g := stG rows'.length (wid goal') Y by') (c := colW rows' k) (by rw [lg]; exact s1)))
          obtain ⟨z, hz, rfl⟩ := List.mem_map.mp hv
          have hz := List.mem_range.mp hz
          have h2 := hu1 k (by omega) z hz
          have h3 := dotz rows' k z rfl hz
          have h4 : sg rows'.length (fun x => Y (x * wid goal' + z) * ((rows'.getD x []).getD k 0 * e')) = e' * sg rows'.length fun x => Y (x * wid goal' + z) * (rows'.getD x []).getD k 0 := by
            rw [← sg_mul]
            exact sg_congr fun x _ => by grind
          rw [h4, ← h3] at h2
          rw [← ev]
          have h5 : by' * e' * dot (fnL rows'.length fun x => Y (x * wid goal' + z) / by') (colW rows' k) = e' * (by' * dot (fnL rows'.length fun x => Y (x * wid goal' + z) / by') (colW rows' k)) := by grind
          rw [h5]
          omega
      exact le _ (Nat.le_refl _)
    have a2 : sg rows'.length (fun x => sg (wid goal') fun z => Y (x * wid goal' + z) * ((goal'.getD x []).getD z 0 * d')) ≤ by' * (worthN goal' (stG rows'.length (wid goal') Y by') * d') := by
      have e1 : by' * (worthN goal' (stG rows'.length (wid goal') Y by') * d') = sg (wid goal') fun z => (by' * d') * maxL (sumsAt (stG rows'.length (wid goal') Y by') (colW goal' z)) := by
        rw [sg_mul, worthN, cols_sg]
        grind
      rw [e1, sg_swap]
      have le : ∀ k, k ≤ wid goal' → sg k (fun z => sg rows'.length fun x => Y (x * wid goal' + z) * ((goal'.getD x []).getD z 0 * d')) ≤ sg k fun z => (by' * d') * maxL (sumsAt (stG rows'.length (wid goal') Y by') (colW goal' z)) := fun k => by
        induction k with
        | zero => intro _; exact Int.le_refl 0
        | succ k ih =>
          intro hk
          unfold sg
          have h1 := ih (by omega)
          have hk' : k < wid goal' := by omega
          have hgl : goal'.length = rows'.length := by rw [Q.len, P.len, len]
          have h3 := dotz goal' k k hgl hk'
          have h4 : sg rows'.length (fun x => Y (x * wid goal' + k) * ((goal'.getD x []).getD k 0 * d')) = d' * sg rows'.length fun x => Y (x * wid goal' + k) * (goal'.getD x []).getD k 0 := by
            rw [← sg_mul]
            exact sg_congr fun x _ => by grind
          have hm : dot (fnL rows'.length fun x => Y (x * wid goal' + k) / by') (colW goal' k) ≤ maxL (sumsAt (stG rows'.length (wid goal') Y by') (colW goal' k)) :=
            le_maxL (mem_sumsAt.mpr ⟨_, List.mem_map.mpr ⟨k, List.mem_range.mpr hk', rfl⟩, rfl⟩)
          rw [h4, ← h3]
          have h5 : d' * (by' * dot (fnL rows'.length fun x => Y (x * wid goal' + k) / by') (colW goal' k)) = by' * d' * dot (fnL rows'.length fun x => Y (x * wid goal' + k) / by') (colW goal' k) := by grind
          rw [h5]
          have := Int.mul_le_mul_of_nonneg_left hm (Int.mul_nonneg (Int.le_of_lt b0) d0)
          omega
      exact le _ (Nat.le_refl _)
    refine Int.lt_of_mul_lt_mul_left (a := by') ?_ (Int.le_of_lt b0)
    omega
  -- led back by the worths of plain forms
  have w1 := P.worth (stG rows'.length (wid goal') Y by')
  have w2 := Q.worth (stG rows'.length (wid goal') Y by')
  have d1 := ht.d1
  have e1 := hu.d1
  have d1' := P.tel.d1
  have e1' := Q.tel.d1
  apply Classical.byContradiction
  intro hn
  have := ratN_nlt (a := worthN rows (stG rows'.length (wid goal') Y by')) (b := d) (a' := worthN goal (stG rows'.length (wid goal') Y by')) (b' := e) (by omega) (by omega) (by omega)
  rw [← w1, ← w2] at this
  obtain ⟨q1, q2, _⟩ := ratN_spec (worthN rows' (stG rows'.length (wid goal') Y by')) (b := d') (by omega)
  obtain ⟨q3, q4, _⟩ := ratN_spec (worthN goal' (stG rows'.length (wid goal') Y by')) (b := e') (by omega)
  apply this
  generalize (ratN (worthN rows' (stG rows'.length (wid goal') Y by')) d') = R1 at *
  generalize (ratN (worthN goal' (stG rows'.length (wid goal') Y by')) e') = R2 at *
  generalize worthN rows' (stG rows'.length (wid goal') Y by') = A at *
  generalize worthN goal' (stG rows'.length (wid goal') Y by') = B at *
  -- R1.1 * d' = A * R1.2, R2.1 * e' = B * R2.2, A * e' < B * d'
  refine Int.lt_of_mul_lt_mul_left (a := d' * e') ?_ (Int.mul_nonneg (by omega) (by omega))
  have x1 : d' * e' * (R1.1 * R2.2) = (A * e') * (R1.2 * R2.2) := by
    calc d' * e' * (R1.1 * R2.2) = (R1.1 * d') * (e' * R2.2) := by grind
      _ = (A * R1.2) * (e' * R2.2) := by rw [q1]
      _ = (A * e') * (R1.2 * R2.2) := by grind
  have x2 : d' * e' * (R2.1 * R1.2) = (B * d') * (R1.2 * R2.2) := by
    calc d' * e' * (R2.1 * R1.2) = (R2.1 * e') * (d' * R1.2) := by grind
      _ = (B * R2.2) * (d' * R1.2) := by rw [q3]
      _ = (B * d') * (R1.2 * R2.2) := by grind
  rw [x1, x2]
  exact Int.mul_lt_mul_of_pos_right key (Int.mul_pos q2 q4)
/-- some number is told -/
theorem told_some {d e : Int} {rows goal : List (List Int)} {Y : Nat → Int} (s1 : 1 ≤ wid goal) (T : ToldN d rows e goal Y) : ∃ l, l < rows.length * wid goal + wid rows ∧ Y l ≠ 0 := by
  apply Classical.byContradiction
  intro hn
  have hz : ∀ l, l < rows.length * wid goal + wid rows → Y l = 0 := fun l hl => Classical.byContradiction fun z => hn ⟨l, hl, z⟩
  obtain ⟨u, h1, h2⟩ := T.le
  have a : sg rows.length (fun x => sg (wid goal) fun z => Y (x * wid goal + z) * ((goal.getD x []).getD z 0 * d)) = 0 := sg_zero fun x hx => sg_zero fun z hzz => by
    rw [hz _ (by have := blk_lt (n := rows.length) hx hzz; omega), Int.zero_mul]
  have b : 0 ≤ sg (wid rows) u := sg_nn fun y hy => by
    have := h1 y hy 0 (by omega)
    rw [sg_zero fun x hx => by rw [hz _ (by have := blk_lt (n := rows.length) (s := wid goal) (k := 0) hx (by omega); omega), Int.zero_mul]] at this
    exact this
  omega
end J

set_option Elab.async false
set_option linter.all false
set_option maxRecDepth 100000
set_option maxHeartbeats 4000000
/-! J27: what is lowered; least common multiples; promises of the order's defs. -/
namespace J
open PySem PySem.Spec L2 RZ LP
theorem low_getD {g : Int} {rows : List (List Int)} (y z : Nat) (hg : 0 < g) : ((lowR g rows).getD y []).getD z 0 = (rows.getD y []).getD z 0 / g := by
  unfold lowR
  simp only [List.getD_eq_getElem?_getD, List.getElem?_map]
  cases rows[y]? with
  | none => simp
  | some r =>
    simp only [Option.map_some, Option.getD_some, List.getElem?_map]
    cases r[z]? with
    | none => simp
    | some x => rfl
theorem prod_low {g : Int} {rows : List (List Int)} {r : List Int} {z : Nat} (hg : 0 < g) (h : ∀ r ∈ rows, ∀ x ∈ r, g ∣ x) : prodAt r (lowR g rows) z * g = prodAt r rows z := by
  rw [prodAt_sg rfl, prodAt_sg rfl, Int.mul_comm, ← sg_mul]
  refine sg_congr fun y hy => ?_
  rw [low_getD y z hg]
  have : g ∣ (rows.getD y []).getD z 0 := by
    simp only [List.getD_eq_getElem?_getD]
    cases e : rows[y]? with
    | none => simp
    | some r =>
      simp only [Option.getD_some]
      cases e2 : r[z]? with
      | none => simp
      | some x => exact h r (List.mem_of_getElem? e) x (List.mem_of_getElem? e2)
  have e := Int.mul_ediv_cancel' this
  calc g * (r.getD y 0 * ((rows.getD y []).getD z 0 / g)) = r.getD y 0 * (g * ((rows.getD y []).getD z 0 / g)) := by grind
    _ = _ := by rw [e]
theorem makes_low {d e w : Int} {rows goal g : List (List Int)} (m : Makes d rows e goal w g) : Makes d rows e goal (w / gcdL (w :: g.flatten)) (lowR (gcdL (w :: g.flatten)) g) := by
  have w1 := m.gar.d1
  have hg := (gcdL_pos (d := w) (l := g.flatten) (by omega)).1
  have hd : ∀ r ∈ g, ∀ x ∈ r, gcdL (w :: g.flatten) ∣ x := fun r hr x hx => gcdL_dvd (List.mem_cons_of_mem _ (List.mem_flatten.mpr ⟨r, hr, hx⟩))
  have hw : gcdL (w :: g.flatten) ∣ w := gcdL_dvd List.mem_cons_self
  have ro := rows_low hg m.gar.ok hd
  have ew := Int.mul_ediv_cancel' hw
  refine ⟨⟨?_, ro⟩, by rw [lowR, List.length_map]; exact m.heard, by rw [wid_low]; exact m.said, fun x hx z hz => ?_⟩
  · have : 0 < w / gcdL (w :: g.flatten) := Int.ediv_pos_of_pos_of_dvd (by omega) (by omega) hw
    omega
  · have h1 := m.eq x hx z hz
    have h2 := prod_low (r := rows.getD x []) (z := z) hg hd
    refine cancel_mul hg ?_
    calc gcdL (w :: g.flatten) * (prodAt (rows.getD x []) (lowR (gcdL (w :: g.flatten)) g) z * e) = (prodAt (rows.getD x []) (lowR (gcdL (w :: g.flatten)) g) z * gcdL (w :: g.flatten)) * e := by grind
      _ = prodAt (rows.getD x []) g z * e := by rw [h2]
      _ = (goal.getD x []).getD z 0 * (d * w) := h1
      _ = (goal.getD x []).getD z 0 * (d * (gcdL (w :: g.flatten) * (w / gcdL (w :: g.flatten)))) := by rw [ew]
      _ = _ := by grind
/-- the least common multiple, as it is folded up -/
def lcmL (ns : List Int) : Int := ns.foldl (fun a n => a * n / gcdL [a, n]) 1
theorem lcm_step {a n : Int} (ha : 0 < a) (hn : 0 < n) : 0 < a * n / gcdL [a, n] ∧ a ∣ a * n / gcdL [a, n] ∧ n ∣ a * n / gcdL [a, n] ∧ a * n / gcdL [a, n] ≤ a * n := by
  have hg := (gcdL_pos (d := a) (l := [n]) ha).1
  have d1 : gcdL [a, n] ∣ a := gcdL_dvd List.mem_cons_self
  have d2 : gcdL [a, n] ∣ n := gcdL_dvd (List.mem_cons_of_mem _ List.mem_cons_self)
  obtain ⟨a', ea⟩ := d1
  obtain ⟨n', en⟩ := d2
  have e1 : a * n / gcdL [a, n] = a * n' := by
    generalize hG : gcdL [a, n] = G at *
    have : a * n = G * (a * n') := by rw [en]; grind
    rw [this, Int.mul_ediv_cancel_left _ (by omega)]
  have e2 : a * n / gcdL [a, n] = a' * n := by
    generalize hG : gcdL [a, n] = G at *
    have : a * n = G * (a' * n) := by conv => lhs; rw [ea]
                                      grind
    rw [this, Int.mul_ediv_cancel_left _ (by omega)]
  have hn' : 0 < n' := by
    rcases Int.lt_or_le 0 n' with h | h
    · exact h
    · have := Int.mul_nonpos_of_nonneg_of_nonpos (Int.le_of_lt hg) h
      omega
  refine ⟨by rw [e1]; exact Int.mul_pos ha hn', ⟨n', e1⟩, ⟨a', by rw [e2, Int.mul_comm]⟩, ?_⟩
  exact Int.ediv_le_self _ (Int.le_of_lt (Int.mul_pos ha hn))
theorem lcm_take {ns : List Int} {k : Nat} {n : Int} (h : ns[k]? = some n) : lcmL (ns.take (k + 1)) = lcmL (ns.take k) * n / gcdL [lcmL (ns.take k), n] := by
  rw [take_succ_at h]
  unfold lcmL
  rw [List.foldl_append]
  rfl
theorem lcm_ok {ns : List Int} {b : Nat} (h : ∀ n ∈ ns, 0 < n ∧ Sm b n) : ∀ k, 0 < lcmL (ns.take k) ∧ (∀ n ∈ ns.take k, n ∣ lcmL (ns.take k)) ∧ Sm (b * k + 1) (lcmL (ns.take k)) := by
  intro k
  induction k with
  | zero =>
    refine ⟨by show (0 : Int) < 1; decide, fun n hn => by simp at hn, ?_⟩
    show (1 : Nat) < 2 ^ (b * 0 + 1)
    simp
  | succ k ih =>
    cases e : ns[k]? with
    | none =>
      have hl := List.getElem?_eq_none_iff.mp e
      have e1 : ns.take (k + 1) = ns.take k := by rw [List.take_of_length_le (by omega), List.take_of_length_le (by omega)]
      rw [e1]
      exact ⟨ih.1, ih.2.1, ih.2.2.mono (by rw [Nat.mul_succ]; omega)⟩
    | some n =>
      obtain ⟨n0, ns'⟩ := h n (List.mem_of_getElem? e)
      obtain ⟨i1, i2, i3⟩ := ih
      obtain ⟨s1, s2, s3, s4⟩ := lcm_step i1 n0
      rw [lcm_take e]
      refine ⟨s1, fun m hm => ?_, ?_⟩
      · rw [take_succ_at e, List.mem_append] at hm
        rcases hm with hm | hm
        · exact Int.dvd_trans (i2 m hm) s2
        · rw [List.mem_singleton.mp hm]; exact s3
      · have hm : Sm (b * k + 1 + b) (lcmL (ns.take k) * n) := wide_lt i3 ns'
        refine (hm.le (by omega) s4).mono ?_
        rw [Nat.mul_succ]; omega
end J

set_option Elab.async false
set_option linter.all false
set_option maxRecDepth 100000
set_option maxHeartbeats 4000000
/-! J28: promises of the order's defs. -/
namespace J
open PySem PySem.Spec L2 RZ LP
def evR (k : Int) (rows : List (List Int)) : List (List Int) := rows.map fun r => r.map (· * k)
/-- two tellers of as many states, not too great -/
structure Pair2 (d : Int) (rows : List (List Int)) (e : Int) (goal : List (List Int)) : Prop where
  one : IsTel d rows
  two : IsTel e goal
  len : goal.length = rows.length
  sm : d * e < 2 ^ 60
def fs_check_pair : FS := fun ds Φ => ∃ d rows e goal, ds = [dTel d rows, dTel e goal] ∧ IsTel d rows ∧ IsTel e goal ∧ goal.length = rows.length ∧ Φ .non
def fs_evened : FS := fun ds Φ => ∃ d rows e goal, ds = [dTel d rows, dTel e goal] ∧ IsTel d rows ∧ IsTel e goal ∧ Φ (.tup [dLL (evR (e / gcdL [d, e]) rows), dLL (evR (d / gcdL [d, e]) goal)])
def eqsD (d e : Int) (rows goal : List (List Int)) : D := .tup [dMx (rows.length * wid goal + wid rows) (wid rows * wid goal) (fun r l => eqA rows.length (wid goal) (eqR (e / gcdL [d, e]) rows) l r), dLI (fnL (rows.length * wid goal + wid rows) (eqB rows.length (wid goal) (eqR (d / gcdL [d, e]) goal)))]
def fs_equations : FS := fun ds Φ => ∃ d rows e goal, ds = [dTel d rows, dTel e goal] ∧ IsTel d rows ∧ IsTel e goal ∧ goal.length = rows.length ∧ Φ (eqsD d e rows goal)
def fs_column_of : FS := fun ds Φ => ∃ d rows, ∃ y : Nat, ds = [dTel d rows, .int y] ∧ IsTel d rows ∧ y < wid rows ∧ Φ (dLI (colW rows y))
def dirD (rows : List (List Int)) (y : Nat) : D := if 0 < oft rows y then .tup [dI (dirL (colW rows y)), .int (oft rows y)] else .tup [.non, .int 0]
def fs_direction_of_order : FS := fun ds Φ => ∃ d rows, ∃ y : Nat, ds = [dTel d rows, .int y] ∧ IsTel d rows ∧ y < wid rows ∧ Φ (dirD rows y)
def plD (rows rows' : List (List Int)) : D := .lst ((List.range (wid rows)).map fun y => .tup [.int (plW rows rows' y : Nat), .int (oft rows y)])
def fs_placed : FS := fun ds Φ => ∃ d rows d' rows', ds = [dTel d rows, dTel d' rows'] ∧ IsTel d rows ∧ PlainOf d rows d' rows' ∧ Φ (plD rows rows')
def wholesL (goal goal' : List (List Int)) : List Int := fnL (wid goal') (wholeJ goal goal')
def wideD (w : Int) (f : Nat → Int) (rows goal rows' goal' : List (List Int)) : D :=
  dGar (w * lcmL (wholesL goal goal') / gcdL (w * lcmL (wholesL goal goal') :: (wideR rows rows' goal goal' f (lcmL (wholesL goal goal'))).flatten)) (lowR (gcdL (w * lcmL (wholesL goal goal') :: (wideR rows rows' goal goal' f (lcmL (wholesL goal goal'))).flatten)) (wideR rows rows' goal goal' f (lcmL (wholesL goal goal'))))
def fs_widened : FS := fun ds Φ => ∃ d rows e goal d' rows' e' goal' f w, ds = [dTel d rows, dTel e goal, dTel d' rows', dTel e' goal', .tup [dLI (fnL (wid rows' * wid goal') f), .int w]] ∧
  Pair2 d rows e goal ∧ PlainOf d rows d' rows' ∧ PlainOf e goal e' goal' ∧ FoundN d' rows' e' goal' f w ∧ Φ (wideD w f rows goal rows' goal')
def fs_searched : FS := fun ds Φ => ∃ d rows e goal, ds = [dTel d rows, dTel e goal] ∧ Pair2 d rows e goal ∧
  ∀ d' rows' e' goal' fd, PlainOf d rows d' rows' → PlainOf e goal e' goal' → FoundOk d' rows' e' goal' fd → Φ (.tup [dTel d' rows', dTel e' goal', fd])
/-- a garbler as it is told: in lowest terms -/
structure LowG (w : Int) (g : List (List Int)) : Prop where
  one : gcdL (w :: g.flatten) = 1
  sm : Sm 7000 w
def fs_garbler_for : FS := fun ds Φ => ∃ d rows e goal, ds = [dTel d rows, dTel e goal] ∧ Pair2 d rows e goal ∧ (∀ w g, Makes d rows e goal w g → LowG w g → Φ (dGar w g)) ∧ (¬ NoLess d rows e goal → Φ .non)
def fs_no_less : FS := fun ds Φ => ∃ d rows e goal, ds = [dTel d rows, dTel e goal] ∧ Pair2 d rows e goal ∧ ∀ b : Bool, (b = true ↔ NoLess d rows e goal) → Φ (.bl b)
def fs_stakes_against : FS := fun ds Φ => ∃ d rows e goal, ds = [dTel d rows, dTel e goal] ∧ Pair2 d rows e goal ∧ (NoLess d rows e goal → Φ .non) ∧ (∀ g, Parts d rows e goal g → Φ (dSta g))
def fs_both_ways : FS := fun ds Φ => ∃ d rows e goal, ds = [dTel d rows, dTel e goal] ∧ Pair2 d rows e goal ∧ ∀ a b : Bool, (a = true ↔ NoLess d rows e goal) → (b = true ↔ NoLess e goal d rows) →
  Φ (.str (if a = true then (if b = true then "equal" else "more") else (if b = true then "less" else "apart")))
theorem Pair2.swap {d e : Int} {rows goal : List (List Int)} (h : Pair2 d rows e goal) : Pair2 e goal d rows := ⟨h.two, h.one, h.len.symm, by rw [Int.mul_comm]; exact h.sm⟩
theorem found_noLess {d e d' e' w : Int} {rows goal rows' goal' : List (List Int)} {f : Nat → Int} (p : Pair2 d rows e goal) (P : PlainOf d rows d' rows') (Q : PlainOf e goal e' goal') (F : FoundN d' rows' e' goal' f w) :
    ∃ w0 g, wideD w f rows goal rows' goal' = dGar w0 g ∧ Makes d rows e goal w0 g ∧ LowG w0 g := by
  have hs : ∀ n ∈ wholesL goal goal', 0 < n ∧ Sm 63 n := fun n hn => by
    obtain ⟨j, hj, rfl⟩ := List.mem_map.mp hn
    have hj := List.mem_range.mp hj
    have h1 := Q.whole_pos hj
    have h2 := Q.whole_le p.two (i := j)
    refine ⟨h1, ?_⟩
    have d1 := p.one.d1
    have e1 := p.two.d1
    have h3 : e ≤ d * e := by
      have := Int.mul_le_mul_of_nonneg_right d1 (show 0 ≤ e by omega)
      omega
    have h4 := p.sm
    show (wholeJ goal goal' j).natAbs < 2 ^ 63
    omega
  obtain ⟨l0, l1, l2⟩ := lcm_ok hs (wholesL goal goal').length
  rw [List.take_length] at l0 l1 l2
  have m := wide_makes p.one p.two p.len P Q F l0 fun j hj => l1 _ (List.mem_map.mpr ⟨j, List.mem_range.mpr hj, rfl⟩)
  refine ⟨_, _, rfl, makes_low m, ?_, ?_⟩
  · have h0 : 0 < w * lcmL (wholesL goal goal') := Int.mul_pos F.w0 l0
    have hg := (gcdL_pos (d := w * lcmL (wholesL goal goal')) (l := (wideR rows rows' goal goal' f (lcmL (wholesL goal goal'))).flatten) h0).1
    have := gcdL_dir hg
    unfold dirL at this
    rw [List.map_cons] at this
    have e1 : ∀ (g : Int) (rs : List (List Int)), rs.flatten.map (· / g) = (lowR g rs).flatten := fun g rs => by
      induction rs with
      | nil => rfl
      | cons a b ih => rw [List.flatten_cons, List.map_append, ih]; rfl
    rw [e1] at this
    exact this
  · have hl : (wholesL goal goal').length ≤ 12 := by rw [wholesL, fnL_len]; exact Q.tel.ok.w2
    have : Sm (5640 + (63 * (wholesL goal goal').length + 1)) (w * lcmL (wholesL goal goal')) := wide_lt F.ws l2
    exact this.div.mono (by omega)
theorem found_yes {d e : Int} {rows goal : List (List Int)} {w : Int} {g : List (List Int)} (m : Makes d rows e goal w g) : NoLess d rows e goal := ⟨w, g, m⟩
theorem told_no {d e d' e' : Int} {rows goal rows' goal' : List (List Int)} {Y : Nat → Int} (p : Pair2 d rows e goal) (P : PlainOf d rows d' rows') (Q : PlainOf e goal e' goal') (T : ToldN d' rows' e' goal' Y) : ¬ NoLess d rows e goal :=
  parts_none p.one p.two p.len (told_parts p.one p.two p.len P Q T (by' := 1) (by decide) fun _ _ => Int.one_dvd _)
theorem ev_fn {k : Int} {rows : List (List Int)} {h : Nat} (hl : ∀ r ∈ rows, r.length = h) : (evR k rows).map (fun r => dLI r) = (List.range rows.length).map fun x => dLI (fnL h (eqR k rows x)) := by
  unfold evR
  rw [List.map_map]
  refine List.ext_getElem (by rw [List.length_map, List.length_map, List.length_range]) fun x h1 h2 => ?_
  rw [List.length_map] at h1
  have e : rows.getD x [] = rows[x] := by rw [List.getD_eq_getElem?_getD, List.getElem?_eq_getElem h1]; rfl
  have hr := hl rows[x] (List.getElem_mem h1)
  simp only [List.getElem_map, List.getElem_range, Function.comp]
  congr 1
  refine list_ext0 (by rw [List.length_map, fnL_len, hr]) fun y hy => ?_
  rw [List.length_map, hr] at hy
  rw [fnL_getD hy]
  unfold eqR
  rw [e]
  simp [List.getD_eq_getElem?_getD, hr, hy]
theorem flat_rng {α : Type} (h s : Nat) (f : Nat → Nat → α) : ((List.range h).flatMap fun y => (List.range s).map (f y)) = (List.range (h * s)).map fun l => f (l / s) (l % s) := by
  induction h with
  | zero => rw [Nat.zero_mul]; rfl
  | succ h ih =>
    rw [List.range_succ, List.flatMap_append, ih, Nat.succ_mul, List.range_add, List.map_append, List.map_map]
    congr 1
    simp only [List.flatMap_cons, List.flatMap_nil, List.append_nil]
    refine List.map_congr_left fun k hk => ?_
    have hk := List.mem_range.mp hk
    simp only [Function.comp]
    rw [blk_div hk, blk_mod hk]
theorem colW_len (rows : List (List Int)) (y : Nat) : (colW rows y).length = rows.length := by unfold colW; rw [List.length_map]
theorem colW_nn {d : Int} {rows : List (List Int)} {a b y : Nat} (h : RowsOk rows d a b) (hy : y < wid rows) : ∀ x ∈ colW rows y, 0 ≤ x := fun x hx => by
  obtain ⟨r, hr, hxr⟩ := cols_mem h.len (colW_mem hy) hx
  exact h.nn r hr x hxr
theorem oft_sm {d : Int} {rows : List (List Int)} {y : Nat} (ht : IsTel d rows) (hy : y < wid rows) : Sm 100 (oft rows y) := by
  by_cases h : 0 < oft rows y
  · exact gcdL_sm (fun x hx => ⟨colW_nn ht.ok hy x hx, cols_sm ht.ok (small_d ht) (colW_mem hy) hx⟩) h
  · have : oft rows y = 0 := by have := oft_nn rows y; omega
    rw [this]
    show (0 : Nat) < 2 ^ 100
    decide
/-! dicts by a comprehension, the keys all unlike -/
theorem putD_new {kvs : List (List Int × D)} {k : List Int} {v : D} (h : ∀ kv ∈ kvs, kv.1 ≠ k) : putD kvs k v = kvs ++ [(k, v)] := by
  unfold putD
  rw [if_neg]
  rw [List.any_eq_true]
  rintro ⟨kv, h1, h2⟩
  exact h kv h1 (by simpa using h2)
theorem dcRun_keys {T : Type} {f : D → (List Int → D → T → Prop) → (T → Prop) → T → Prop} {n : Nat} (enc : Nat → D) (κ : Nat → List Int) (v : Nat → D) {Φ : List (List Int × D) → T → Prop} {t : T} (hn : n ≤ 1000) (inj : ∀ i j, i < n → j < n → κ i = κ j → i = j)
    (h : ∀ i, i < n → ∀ Y N, Y (κ i) (v i) t → f (enc i) Y N t) (q : Φ ((List.range n).map fun i => (κ i, v i)) t) : dcRun f ((List.range n).map enc) [] Φ t := by
  have key : ∀ (r k : Nat), r = n - k → k ≤ n → dcRun f (((List.range n).map enc).drop k) ((List.range k).map fun i => (κ i, v i)) Φ t := by
    intro r
    induction r with
    | zero =>
      intro k e hk
      have : k = n := by omega
      subst this
      rw [List.drop_eq_nil_of_le (by rw [List.length_map, List.length_range]; exact Nat.le_refl _)]
      exact q
    | succ r ih =>
      intro k e hk
      have hlt : k < n := by omega
      rw [List.drop_eq_getElem_cons (by rw [List.length_map, List.length_range]; exact hlt)]
      simp only [List.getElem_map, List.getElem_range]
      refine h k hlt _ _ ⟨by rw [List.length_map, List.length_range, sizeL]; omega, ?_⟩
      have := ih (k + 1) (by omega) (by omega)
      rw [List.range_succ, List.map_append] at this
      rw [putD_new fun kv hkv => ?_]
      · exact this
      · obtain ⟨i, hi, rfl⟩ := List.mem_map.mp hkv
        have hi := List.mem_range.mp hi
        intro z
        have := inj i k (by omega) hlt z
        omega
  exact key _ 0 rfl (Nat.zero_le _)
theorem lookK_rng {n i : Nat} {κ : Nat → List Int} {v : Nat → D} (hi : i < n) (inj : ∀ i j, i < n → j < n → κ i = κ j → i = j) : lookK ((List.range n).map fun i => (κ i, v i)) (κ i) = some (v i) := by
  unfold lookK
  have : ((List.range n).map fun i => (κ i, v i)).find? (fun kv => decide (kv.1 = κ i)) = some (κ i, v i) := by
    rw [List.find?_map]
    have e : (List.range n).find? ((fun kv : List Int × D => decide (kv.1 = κ i)) ∘ fun i => (κ i, v i)) = some i := by
      rw [List.find?_range_eq_some]
      refine ⟨by simp, List.mem_range.mpr hi, fun j hj => ?_⟩
      simp only [Function.comp, Bool.not_eq_true', decide_eq_false_iff_not]
      intro z
      have := inj j i (by omega) hi z
      omega
    rw [e]; rfl
  rw [this]; rfl
theorem PlainOf.inj {d d' : Int} {rows rows' : List (List Int)} (P : PlainOf d rows d' rows') : ∀ i j, i < wid rows' → j < wid rows' → dirL (colW rows' i) = dirL (colW rows' j) → i = j := fun i j hi hj e => by
  have k1 := key_at (rows' := rows') hi
  have k2 := key_at (rows' := rows') hj
  rw [e, ← k2] at k1
  exact (List.getElem?_inj (by rw [P.keys_len]; exact hi) P.nd).mp k1
theorem dbd_small {m : Nat} (h : m ≤ 84) : (m + 2) * dbd m (2 ^ 60) < 2 ^ 5640 := by
  have h1 : dbd m (2 ^ 60) ≤ (84 * 2 ^ 60) ^ m := dbd_le m h
  have h2 : (84 * 2 ^ 60) ^ m ≤ (2 ^ 67) ^ m := Nat.pow_le_pow_left (by decide) m
  have h3 : (2 ^ 67) ^ m ≤ (2 ^ 67) ^ 84 := Nat.pow_le_pow_right (by decide) h
  rw [← Nat.pow_mul, ← Nat.pow_mul] at h3
  rw [← Nat.pow_mul] at h2
  have h4 : dbd m (2 ^ 60) ≤ 2 ^ (67 * 84) := Nat.le_trans h1 (Nat.le_trans h2 h3)
  have h5 : (m + 2) * dbd m (2 ^ 60) ≤ 2 ^ 7 * 2 ^ (67 * 84) := Nat.mul_le_mul (Nat.le_trans (by omega) (show 86 ≤ 2 ^ 7 by decide)) h4
  rw [← Nat.pow_add] at h5
  exact Nat.lt_of_le_of_lt h5 (Nat.pow_lt_pow_right (by decide) (by decide))
theorem eqR_bd {d e : Int} {rows : List (List Int)} (ht : IsTel d rows) {k : Int} (k0 : 0 ≤ k) (k1 : k ≤ e) (hp : d * e < 2 ^ 60) {x y : Nat} (hx : x < rows.length) : 0 ≤ eqR k rows x y ∧ (eqR k rows x y).natAbs ≤ 2 ^ 60 := by
  have hr := getD_row (m := rows) hx
  have h0 : 0 ≤ (rows.getD x []).getD y 0 := getD_nn (ht.ok.nn _ hr) y
  have h1 : (rows.getD x []).getD y 0 ≤ d := by
    rw [List.getD_eq_getElem?_getD]
    cases e : (rows.getD x [])[y]? with
    | none => have := ht.d1; simp; omega
    | some v => exact ht.ok.le hr (List.mem_of_getElem? e)
  have h2 : (rows.getD x []).getD y 0 * k ≤ d * e := Int.mul_le_mul h1 k1 k0 (by omega)
  have h3 := Int.mul_nonneg h0 k0
  refine ⟨h3, ?_⟩
  unfold eqR
  have : ((2 ^ 60 : Nat) : Int) = 2 ^ 60 := by decide
  omega
theorem eqR_bd' {d e : Int} {rows : List (List Int)} (ht : IsTel d rows) {k : Int} (k0 : 0 ≤ k) (k1 : k ≤ e) (hp : d * e < 2 ^ 60) : ∀ x, x < rows.length → ∀ y, y < wid rows → 0 ≤ eqR k rows x y ∧ (eqR k rows x y).natAbs ≤ 2 ^ 60 := fun _ hx _ _ => eqR_bd ht k0 k1 hp hx
theorem plain_small {d e d' e' : Int} {rows goal rows' goal' : List (List Int)} (p : Pair2 d rows e goal) (P : PlainOf d rows d' rows') (Q : PlainOf e goal e' goal') : d' * e' < 2 ^ 60 := by
  obtain ⟨g, hg, ed, _⟩ := P.sums
  obtain ⟨k, hk, ee, _⟩ := Q.sums
  have d1 := P.tel.d1
  have e1 := Q.tel.d1
  have h1 : d' ≤ d := by
    rw [ed]
    have := Int.mul_le_mul_of_nonneg_right (show 1 ≤ g by omega) (show 0 ≤ d' by omega)
    omega
  have h2 : e' ≤ e := by
    rw [ee]
    have := Int.mul_le_mul_of_nonneg_right (show 1 ≤ k by omega) (show 0 ≤ e' by omega)
    omega
  have := Int.mul_le_mul h1 h2 (by omega) (by have := p.one.d1; omega)
  have := p.sm
  omega
theorem fm_map (n : Nat) (p : Nat → Prop) [DecidablePred p] (g : Nat → Int) : ((List.range n).flatMap fun z => if p z then [D.int (g z)] else []) = ((List.range n).flatMap fun z => if p z then [g z] else []).map D.int := by
  have key : ∀ l : List Nat, (l.flatMap fun z => if p z then [D.int (g z)] else []) = (l.flatMap fun z => if p z then [g z] else []).map D.int := fun l => by
    induction l with
    | nil => rfl
    | cons a b ih =>
      rw [List.flatMap_cons, List.flatMap_cons, List.map_append, ih]
      split <;> rfl
  exact key _
theorem fm_sum (n : Nat) (p : Nat → Prop) [DecidablePred p] (g : Nat → Int) : ((List.range n).flatMap fun z => if p z then [g z] else []).sum = sg n fun z => if p z then g z else 0 := by
  induction n with
  | zero => rfl
  | succ n ih =>
    unfold sg
    rw [List.range_succ, List.flatMap_append, List.sum_append, ih]
    simp only [List.flatMap_cons, List.flatMap_nil, List.append_nil]
    split <;> simp
theorem lcRun_fmS {T : Type} {α : Type} {f : D → (List D → T → Prop) → T → Prop} (enc : α → D) (g : α → List D) (xs : List α) {Φ : List D → T → Prop} {t : T} (h : ∀ x ∈ xs, ∀ K, K (g x) t → f (enc x) K t) (q : Φ (xs.flatMap g) t) : lcRun f (xs.map enc) [] Φ t := by
  refine lcRun_inv (fun k acc t' => t' = t ∧ acc = (xs.take k).flatMap g) _ ⟨rfl, rfl⟩ (fun k d acc K t' hd ⟨e1, e2⟩ hK => ?_) ?_
  · subst e1 e2
    obtain ⟨x, hx, rfl⟩ := map_at hd
    refine h x (List.mem_of_getElem? hx) K (hK _ t' ⟨rfl, ?_⟩)
    rw [take_succ_at hx, List.flatMap_append]
    simp
  · rintro acc t' ⟨rfl, rfl⟩
    rw [List.length_map, List.take_length]
    exact q
theorem flat_rl (h s : Nat) : ((List.range h).flatMap fun _ => List.range s).length = h * s := by
  induction h with
  | zero => rw [Nat.zero_mul]; rfl
  | succ h ih =>
    rw [List.range_succ, List.flatMap_append, List.length_append, ih, Nat.succ_mul]
    simp
end J

set_option maxRecDepth 100000
set_option linter.all false
set_option maxHeartbeats 1000000
namespace ZS
open PySem
open PySem.Sem (wp)
theorem typeCall_zip_n (vs : List Value) : checkTypeCall "zip" ⟨vs, []⟩ = pure () := by kernel_rfl
theorem newCall_zip_s (v : Value) (vs : List Value) : checkBuiltinCall "zip.__new__" ⟨.type "zip" :: v :: vs, []⟩ = pure () := by kernel_rfl
theorem args_object_init_n (obj : Value) (vs : List Value) : argsOk "object.__init__" ⟨obj :: vs, []⟩ := by unfold argsOk; kernel_rfl
def itsFrom (b : Nat) (k m : Nat) : List (Value × Nat) := (List.range' k m).map fun j => (Value.ref (b + j), j)
def itsN (b n : Nat) : Array Value := ((List.range n).map fun k => Value.ref (b + k)).toArray
theorem itsN_zip (b n : Nat) : (itsN b n).toList.zipIdx = itsFrom b 0 n := by
  unfold itsN itsFrom
  refine List.ext_getElem (by simp) fun i h1 h2 => ?_
  simp
theorem itsN_list (b n : Nat) : (itsN b n).toList = (itsFrom b 0 n).map (·.1) := by
  unfold itsN itsFrom
  refine List.ext_getElem (by simp) fun i h1 h2 => ?_
  simp
abbrev ZipAt (h : Heap) (b n : Nat) (f0 f1 : Value) : Prop := h.get? (b + n + 2) = some { cls := .type "zip", dict := none, data := .fields #[f0, f1, .bool false, .ref (b + n), .ref (b + n + 1)], slots := #[] }
abbrev TupN (h : Heap) (a : Addr) (arr : Array Value) : Prop := h.get? a = some { cls := .type "tuple", data := .seq arr }
structure ZN (h : Heap) (b n : Nat) (l : Nat → Addr) (i : Nat) : Prop where
  z : ∃ f0 t, (f0 = .none ∨ ∃ T : Nat, f0 = rawInt T) ∧ ZipAt h b n f0 (.bool t)
  ti : TupN h (b + n) (itsN b n)
  to : ∃ arr : Array Value, arr.size = n ∧ TupN h (b + n + 1) arr
  it : ∀ k, k < n → h.IsTupleIter (b + k) (l k) i
section
variable {prog : Program} {w : World} {A : Around} {E : Value → Shared → Prop} {s : Shared}
theorem neN {x y : Nat} (h : x < y ∨ y < x) : x ≠ y := by omega
theorem wpAny_lia {M : Model} {a : Addr} {Q : Option Obj → Shared → Prop} (h : Q (s.heap.get? a) s) : wpAny M A (loadIfAlive a) Q E s := fun Γ p _ => h
def F0 (v : Value) : Prop := v = .none ∨ ∃ T : Nat, v = rawInt T
theorem isFree {b n : Nat} {f0 : Value} {t : Bool} {Q : Bool → Shared → Prop} (hz : ZipAt s.heap b n f0 (.bool t)) (hf : F0 f0)
    (hQ : ∀ r h' f1 t', F0 f1 → ZipAt h' b n f1 (.bool t') → Heap.SameBut (b + n + 2) s.heap h' → Q r { s with heap := h' }) :
    wpAny (model prog w) A (Builtin.SmallTypes.ownedTupleIsFree (.ref (b + n + 2))) Q E s := by
  unfold Builtin.SmallTypes.ownedTupleIsFree
  refine wpAny_bind (wpAny_field hz rfl (x := f0) rfl ?_)
  rcases hf with rfl | ⟨T, rfl⟩
  · exact wpAny_pure (hQ true s.heap _ _ (.inl rfl) hz ⟨rfl, fun _ _ => rfl⟩)
  · show wpAny _ _ (loadIfAlive _ >>= _) _ _ _
    refine wpAny_bind (wpAny_lia ?_)
    cases hg : s.heap.get? (T : Int).toNat with
    | none =>
      simp only [Option.isNone_none, if_true]
      exact wpAny_pure (hQ true s.heap _ _ (.inr ⟨T, rfl⟩) hz ⟨rfl, fun _ _ => rfl⟩)
    | some o =>
      simp only [Option.isNone_some, Bool.false_eq_true, if_false]
      refine wpAny_bind (wpAny_field hz rfl (x := .bool t) rfl ?_)
      cases t with
      | true =>
        simp only [bne_self_eq_false, Bool.false_eq_true, if_false]
        exact wpAny_pure (hQ false s.heap _ _ (.inr ⟨T, rfl⟩) hz ⟨rfl, fun _ _ => rfl⟩)
      | false =>
        rw [if_pos (by decide)]
        refine wpAny_bind (wpAny_setField_rec hz (by simp) fun h₁ hz₁ hs₁ => ?_)
        exact wpAny_pure (hQ false h₁ _ true (.inr ⟨T, rfl⟩) hz₁ hs₁)
theorem updN {T : Addr} {arr : Array Value} {x : Value} {k : Nat} {Q : Unit → Shared → Prop} (hT : TupN s.heap T arr) (hz : arr.size ≤ sizeLine)
    (h : ∀ h', TupN h' T (arr.setIfInBounds k x) → Heap.SameBut T s.heap h' → Q () { s with heap := h' }) :
    wpAny (model prog w) A (updateSeq T (·.setIfInBounds k x)) Q E s := by
  refine wpAny_updateSeq hT rfl (h _ ?_ (Heap.SameBut.update ..)) hz (by rw [Array.size_setIfInBounds]; omega)
  show Heap.get? _ _ = _
  rw [Heap.get?_update_self _ hT rfl]
  simp [Obj.mapSeq]
/-- what stands while the iterators turn, k of them turned -/
structure Mid (h0 h : Heap) (b n : Nat) (l : Nat → Addr) (i k : Nat) (x : Nat → Value) (f0 f1 : Value) : Prop where
  z : ZipAt h b n f0 f1
  to : ∃ arr : Array Value, arr.size = n ∧ TupN h (b + n + 1) arr
  old : ∀ j, k ≤ j → j < n → h.IsTupleIter (b + j) (l j) i
  new : ∀ j, j < k → h.IsTupleIter (b + j) (l j) (i + 1)
  sz : h.objs.size = h0.objs.size
  keep : ∀ (c : Nat) o, (c < b ∨ b + n + 2 < c ∨ c = b + n) → h0.get? c = some o → h.get? c = some o
theorem Mid.turn {h0 h h' : Heap} {b n : Nat} {l : Nat → Addr} {i k : Nat} {x : Nat → Value} {f0 f1 : Value} (M : Mid h0 h b n l i k x f0 f1) (hk : k < n) (ht : h'.IsTupleIter (b + k) (l k) (i + 1)) (hs : Heap.SameBut (b + k) h h') :
    Mid h0 h' b n l i (k + 1) x f0 f1 := by
  refine ⟨hs.extBut _ _ (neN (by omega)) M.z, ?_, fun j h1 h2 => (M.old j (by omega) h2).at fun o q => hs.extBut _ _ (neN (by omega)) q, fun j hj => ?_, hs.1.trans M.sz, fun (c : Nat) o hc e => hs.extBut _ _ (neN (by omega)) (M.keep c o hc e)⟩
  · obtain ⟨arr, h1, h2⟩ := M.to
    exact ⟨arr, h1, hs.extBut _ _ (neN (by omega)) h2⟩
  · by_cases e : j = k
    · rw [e]; exact ht
    · exact (M.new j (by omega)).at fun o q => hs.extBut _ _ (neN (by omega)) q
theorem Mid.fin {h0 h h' : Heap} {b n : Nat} {l : Nat → Addr} {i : Nat} {x : Nat → Value} {f0 f1 g0 : Value} {t : Bool} (M : Mid h0 h b n l i n x f0 f1) (hti : TupN h0 (b + n) (itsN b n)) (hg : F0 g0) (hz : ZipAt h' b n g0 (.bool t))
    (hk : ∀ c o, c ≠ b + n + 2 → h.get? c = some o → h'.get? c = some o) : ZN h' b n l (i + 1) := by
  refine ⟨⟨g0, t, hg, hz⟩, hk _ _ (neN (by omega)) (M.keep _ _ (.inr (.inr rfl)) hti), ?_, fun k hk' => (M.new k hk').at fun o q => hk _ _ (neN (by omega)) q⟩
  obtain ⟨arr, h1, h2⟩ := M.to
  exact ⟨arr, h1, hk _ _ (neN (by omega)) h2⟩
theorem itsFrom_cons {b k m : Nat} {p : Value × Nat} {r : List (Value × Nat)} (h : p :: r = itsFrom b k m) : ∃ m', m = m' + 1 ∧ p = (.ref (b + k), k) ∧ r = itsFrom b (k + 1) m' := by
  cases m with
  | zero => simp [itsFrom] at h
  | succ m =>
    unfold itsFrom at h ⊢
    rw [List.range'_succ, List.map_cons] at h
    injection h with h1 h2
    exact ⟨m, rfl, h1, h2⟩
theorem itsFrom_nil {b k m : Nat} (h : [] = itsFrom b k m) : m = 0 := by
  cases m with
  | zero => rfl
  | succ m => unfold itsFrom at h; rw [List.range'_succ, List.map_cons] at h; cases h
theorem zipN_next_item {b n i : Nat} {l : Nat → Addr} {xs : Nat → Array Value} {x : Nat → Value} {Q : Value → Shared → Prop} (hn : 0 < n) (hn2 : n ≤ sizeLine) (Z : ZN s.heap b n l i) (hl : ∀ k, k < n → l k < b)
    (hx : ∀ k, k < n → s.heap.IsTuple (l k) (xs k) ∧ (xs k)[i]? = some (x k))
    (hQ : ∀ h', ZN h' b n l (i + 1) → TupN h' s.heap.objs.size ((List.range n).map x).toArray →
      (∀ (c : Nat) o, (c < b ∨ b + n + 2 < c) → s.heap.get? c = some o → h'.get? c = some o) → Q (.ref s.heap.objs.size) { s with heap := h' }) :
    wpAny (model prog w) A (Builtin.«zip.__next__» ⟨[.ref (b + n + 2)], []⟩) (fun fin s' => ∃ v, fin = .done (.ret v) ∧ Q v s') E s := by
  obtain ⟨⟨f0, t, hf0, hz⟩, hTI, ⟨arr0, ha0, hTO⟩, hit⟩ := Z
  have hzl : b + n + 2 < s.heap.objs.size := Heap.lt_size hz
  show wpAny _ _ (field (.ref (b + n + 2)) 2 >>= _) _ _ _
  refine wpAny_bind (wpAny_field hz rfl (x := .bool false) rfl ?_)
  show wpAny _ _ (field (.ref (b + n + 2)) 3 >>= _) _ _ _
  refine wpAny_bind (wpAny_field hz rfl (x := .ref (b + n)) rfl ?_)
  refine wpAny_bind (wpAny_seqItems hTI rfl ?_)
  have hne : ((itsN b n).isEmpty = true) = False := by
    rw [Array.isEmpty_iff]; refine propext ⟨fun h => ?_, False.elim⟩
    have := congrArg Array.size h; simp [itsN] at this; omega
  simp only [hne, if_false]
  show wpAny _ _ (Builtin.SmallTypes.ownedTupleIsFree (.ref (b + n + 2)) >>= _) _ _ _
  refine wpAny_bind (isFree hz hf0 fun r h₁ f1 t1 hf1 hz₁ hs₁ => ?_)
  have up1 : ∀ c o, c ≠ b + n + 2 → s.heap.get? c = some o → h₁.get? c = some o := fun (c : Nat) o hc e => hs₁.extBut _ _ hc e
  have hl1 : ∀ h : Heap, (∀ (c : Nat) o, (c < b ∨ b + n + 2 < c ∨ c = b + n) → s.heap.get? c = some o → h.get? c = some o) → ∀ k, k < n → h.IsTuple (l k) (xs k) := fun h hk k hkn => by
    obtain ⟨o, e, r⟩ := (hx k hkn).1
    exact ⟨o, hk _ _ (.inl (hl k hkn)) e, r⟩
  cases r with
  | true =>
    simp only [if_true]
    refine wpAny_bind (wpAny_rule ?_)
    refine wpAny_bind (wpAny_field hz₁ rfl (x := .ref (b + n + 1)) rfl ?_)
    refine wpAny_bind (wpAny_setField_rec hz₁ (by simp) fun h₂ hz₂ hs₂ => ?_)
    replace hz₂ : ZipAt h₂ b n .ellipsis (.bool t1) := hz₂
    have up2 : ∀ c o, c ≠ b + n + 2 → s.heap.get? c = some o → h₂.get? c = some o := fun (c : Nat) o hc e => hs₂.extBut _ _ hc (up1 c o hc e)
    have M0 : Mid s.heap h₂ b n l i 0 x .ellipsis (.bool t1) := ⟨hz₂, ⟨arr0, ha0, up2 _ _ (neN (by omega)) hTO⟩, fun j _ h2 => (hit j h2).at fun o q => up2 _ _ (neN (by omega)) q, fun j hj => by omega, by rw [hs₂.1, hs₁.1], fun (c : Nat) o hc e => up2 c o (neN (by omega)) e⟩
    rw [itsN_zip]
    refine wpAny_bind (wpAny_forIn_list _ (fun rest bb s' => bb.1 = none ∧ ∃ k h, k ≤ n ∧ rest = itsFrom b k (n - k) ∧ s' = { s with heap := h } ∧ Mid s.heap h b n l i k x .ellipsis (.bool t1) ∧ ∃ arr : Array Value, TupN h (b + n + 1) arr ∧ arr.size = n ∧ ∀ j, j < k → arr[j]? = some (x j)) _ ?_ ?_ _ _ ⟨rfl, 0, h₂, Nat.zero_le _, rfl, rfl, M0, arr0, up2 _ _ (neN (by omega)) hTO, ha0, fun j hj => by omega⟩)
    · rintro p rest bb s' ⟨hb, k, h, hk, er, rfl, M, arr, hT, hsz, hxs⟩
      obtain ⟨m', em, rfl, rfl⟩ := itsFrom_cons er
      have hkn : k < n := by omega
      refine wpAny_bind (wpAny_onRaise ?_)
      show wpAny _ _ (Builtin.SmallTypes.nextOf (.ref (b + k)) >>= _) _ _ _
      refine wpAny_bind (RZ.nextOf_tuple_item (M.old k (Nat.le_refl _) hkn) (hl1 h M.keep k hkn) (hx k hkn).2 fun h3 ht hs3 => wpAny_pure ?_)
      have M3 := M.turn hkn ht hs3
      have hT3 : TupN h3 (b + n + 1) arr := hs3.extBut _ _ (neN (by omega)) hT
      refine wpAny_bind (wpAny_seqItems hT3 rfl ?_)
      refine wpAny_bind (updN hT3 (by rw [hsz]; exact hn2) fun h4 hT4 hs4 => ?_)
      refine wpAny_bind (wpAny_letGo (wpAny_pure ?_))
      refine ⟨rfl, k + 1, h4, by omega, by rw [show n - (k + 1) = m' by omega], rfl, ?_, _, hT4, by simp [hsz], fun j hj => ?_⟩
      · exact ⟨hs4.extBut _ _ (neN (by omega)) M3.z, ⟨_, by simp [hsz], hT4⟩, fun j h1 h2 => (M3.old j h1 h2).at fun o q => hs4.extBut _ _ (neN (by omega)) q, fun j h1 => (M3.new j h1).at fun o q => hs4.extBut _ _ (neN (by omega)) q, hs4.1.trans M3.sz, fun (c : Nat) o hc e => hs4.extBut _ _ (neN (by omega)) (M3.keep c o hc e)⟩
      · by_cases e : j = k
        · rw [e, Array.getElem?_setIfInBounds_self_of_lt (by omega)]
        · rw [Array.getElem?_setIfInBounds_ne (fun z => e z.symm)]; exact hxs j (by omega)
    · rintro bb s' ⟨hb, k, h, hk, er, rfl, M, arr, hT, hsz, hxs⟩
      have ek : k = n := by have := itsFrom_nil er; omega
      subst ek
      obtain ⟨b1, b2⟩ := bb
      cases hb
      have earr : arr.toList = (List.range k).map x := by
        refine List.ext_getElem? fun j => ?_
        by_cases hj : j < k
        · rw [Array.getElem?_toList, hxs j hj, List.getElem?_map, List.getElem?_range hj]; rfl
        · rw [List.getElem?_eq_none (by simpa [hsz] using hj), List.getElem?_eq_none (by simpa using hj)]
      refine wpAny_bind (wpAny_seqItems hT rfl ?_)
      show wpAny _ _ (newTuple arr.toList >>= _) _ _ _
      rw [earr]
      refine wpAny_bind (wpAny_newTuple ?_ (by simpa using hn2))
      show wpAny _ _ (Builtin.SmallTypes.ownedTupleHandOut (.ref (b + k + 2)) (.ref h.objs.size) >>= _) _ _ _
      refine wpAny_bind ?_
      unfold Builtin.SmallTypes.ownedTupleHandOut
      have hz₆ : ZipAt (h.push { cls := .type "tuple", data := .seq ((List.range k).map x).toArray }) b k .ellipsis (.bool t1) := Heap.get?_push_of_some _ M.z
      refine wpAny_bind (wpAny_setField_rec hz₆ (by simp) fun h₇ hz₇ hs₇ => ?_)
      replace hz₇ : ZipAt h₇ b k (rawInt h.objs.size) (.bool t1) := hz₇
      refine wpAny_setField_rec hz₇ (by simp) fun h₈ hz₈ hs₈ => ?_
      replace hz₈ : ZipAt h₈ b k (rawInt h.objs.size) (.bool false) := hz₈
      have up : ∀ c o, c ≠ b + k + 2 → h.get? c = some o → h₈.get? c = some o := fun c o c1 e => hs₈.extBut _ _ c1 (hs₇.extBut _ _ c1 (Heap.get?_push_of_some _ e))
      refine wpAny_pure ⟨_, rfl, ?_⟩
      show Q (.ref h.objs.size) _
      have hT8 : TupN h₈ h.objs.size ((List.range k).map x).toArray := hs₈.extBut _ _ (neN (by rw [M.sz]; omega)) (hs₇.extBut _ _ (neN (by rw [M.sz]; omega)) (Heap.get?_push_size _ rfl))
      rw [M.sz] at hT8 ⊢
      exact hQ h₈ (M.fin hTI (.inr ⟨_, rfl⟩) hz₈ up) hT8 fun (c : Nat) o hc e => up c o (neN (by omega)) (M.keep c o (by omega) e)
  | false =>
    simp only [Bool.false_eq_true, if_false]
    have M0 : Mid s.heap h₁ b n l i 0 x f1 (.bool t1) := ⟨hz₁, ⟨arr0, ha0, up1 _ _ (neN (by omega)) hTO⟩, fun j _ h2 => (hit j h2).at fun o q => up1 _ _ (neN (by omega)) q, fun j hj => by omega, hs₁.1, fun (c : Nat) o hc e => up1 c o (neN (by omega)) e⟩
    rw [← Array.forIn_toList]
    refine wpAny_bind (wpAny_forIn_list _ (fun rest bb s' => bb.1 = none ∧ ∃ k h, k ≤ n ∧ rest = (itsFrom b k (n - k)).map (·.1) ∧ s' = { s with heap := h } ∧ Mid s.heap h b n l i k x f1 (.bool t1) ∧ bb.2.toList = (List.range k).map x) _ ?_ ?_ _ _ ⟨rfl, 0, h₁, Nat.zero_le _, itsN_list b n, rfl, M0, rfl⟩)
    · rintro p rest bb s' ⟨hb, k, h, hk, er, rfl, M, hxs⟩
      cases hq : itsFrom b k (n - k) with
      | nil => rw [hq] at er; cases er
      | cons q qs =>
        obtain ⟨m', em, eq, es⟩ := itsFrom_cons hq.symm
        rw [hq, List.map_cons] at er
        injection er with e1 e2
        subst e1
        have hkn : k < n := by omega
        rw [eq]
        refine wpAny_bind (wpAny_holding ?_)
        show wpAny _ _ (Builtin.SmallTypes.nextOf (.ref (b + k)) >>= _) _ _ _
        refine wpAny_bind (RZ.nextOf_tuple_item (M.old k (Nat.le_refl _) hkn) (hl1 h M.keep k hkn) (hx k hkn).2 fun h3 ht hs3 => wpAny_pure ?_)
        refine wpAny_pure ⟨rfl, k + 1, h3, by omega, by rw [e2, es, show n - (k + 1) = m' by omega], rfl, M.turn hkn ht hs3, ?_⟩
        show (bb.2.push (x k)).toList = _
        rw [Array.toList_push, hxs, List.range_succ, List.map_append]; rfl
    · rintro bb s' ⟨hb, k, h, hk, er, rfl, M, hxs⟩
      have ek : k = n := by
        cases hq : itsFrom b k (n - k) with
        | nil => have := itsFrom_nil hq.symm; omega
        | cons q qs => rw [hq] at er; cases er
      subst ek
      obtain ⟨b1, b2⟩ := bb
      cases hb
      show wpAny _ _ (newTuple b2.toList >>= _) _ _ _
      rw [show b2.toList = (List.range k).map x from hxs]
      refine wpAny_bind (wpAny_newTuple ?_ (by simpa using hn2))
      refine wpAny_pure ⟨_, rfl, ?_⟩
      show Q (.ref h.objs.size) _
      have hT8 : TupN (h.push { cls := .type "tuple", data := .seq ((List.range k).map x).toArray }) h.objs.size ((List.range k).map x).toArray := Heap.get?_push_size _ rfl
      rw [M.sz] at hT8 ⊢
      exact hQ _ (M.fin hTI hf1 (Heap.get?_push_of_some _ M.z) fun c o _ e => Heap.get?_push_of_some _ e) hT8 fun c o hc e => Heap.get?_push_of_some _ (M.keep c o (by omega) e)
theorem zipN_next_end {b n i : Nat} {l : Nat → Addr} {xs0 : Array Value} {Q : Fin → Shared → Prop} (hh : A.handled = none) (hn : 0 < n) (Z : ZN s.heap b n l i) (hl : l 0 < b)
    (hx : s.heap.IsTuple (l 0) xs0) (hend : xs0[i]? = none)
    (hE : ∀ h' e, (∀ (c : Nat) o, (c < b ∨ b + n + 2 < c) → s.heap.get? c = some o → h'.get? c = some o) → (∃ o, h'.get? e = some o ∧ o.cls = .type "StopIteration") → E (.ref e) { s with heap := h' }) :
    wpAny (model prog w) A (Builtin.«zip.__next__» ⟨[.ref (b + n + 2)], []⟩) Q E s := by
  obtain ⟨⟨f0, t, hf0, hz⟩, hTI, ⟨arr0, ha0, hTO⟩, hit⟩ := Z
  have hzl : b + n + 2 < s.heap.objs.size := Heap.lt_size hz
  show wpAny _ _ (field (.ref (b + n + 2)) 2 >>= _) _ _ _
  refine wpAny_bind (wpAny_field hz rfl (x := .bool false) rfl ?_)
  show wpAny _ _ (field (.ref (b + n + 2)) 3 >>= _) _ _ _
  refine wpAny_bind (wpAny_field hz rfl (x := .ref (b + n)) rfl ?_)
  refine wpAny_bind (wpAny_seqItems hTI rfl ?_)
  have hne : ((itsN b n).isEmpty = true) = False := by
    rw [Array.isEmpty_iff]; refine propext ⟨fun h => ?_, False.elim⟩
    have := congrArg Array.size h; simp [itsN] at this; omega
  simp only [hne, if_false]
  show wpAny _ _ (Builtin.SmallTypes.ownedTupleIsFree (.ref (b + n + 2)) >>= _) _ _ _
  refine wpAny_bind (isFree hz hf0 fun r h₁ f1 t1 hf1 hz₁ hs₁ => ?_)
  have up1 : ∀ c o, c ≠ b + n + 2 → s.heap.get? c = some o → h₁.get? c = some o := fun c o hc e => hs₁.extBut _ _ hc e
  have hx1 : h₁.IsTuple (l 0) xs0 := by
    obtain ⟨o, e, r⟩ := hx
    exact ⟨o, up1 _ _ (neN (.inl (Nat.lt_of_lt_of_le hl (by omega)))) e, r⟩
  have ht1 : h₁.IsTupleIter (b + 0) (l 0) i := (hit 0 hn).at fun o q => up1 _ _ (neN (by omega)) q
  obtain ⟨m, rfl⟩ : ∃ m, n = m + 1 := ⟨n - 1, by omega⟩
  have eits : itsFrom b 0 (m + 1) = (Value.ref (b + 0), 0) :: itsFrom b 1 m := by unfold itsFrom; rw [List.range'_succ, List.map_cons]
  cases r with
  | true =>
    simp only [if_true]
    refine wpAny_bind (wpAny_rule ?_)
    refine wpAny_bind (wpAny_field hz₁ rfl (x := .ref (b + (m + 1) + 1)) rfl ?_)
    refine wpAny_bind (wpAny_setField_rec hz₁ (by simp) fun h₂ hz₂ hs₂ => ?_)
    replace hz₂ : ZipAt h₂ b (m + 1) .ellipsis (.bool t1) := hz₂
    rw [itsN_zip, eits]
    refine wpAny_bind ?_
    simp only [List.forIn_cons]
    refine wpAny_bind (wpAny_bind (wpAny_onRaise ?_))
    show wpAny _ _ (Builtin.SmallTypes.nextOf (.ref (b + 0)) >>= _) _ _ _
    have hx2 : h₂.IsTuple (l 0) xs0 := by
      obtain ⟨o, e, r⟩ := hx1
      exact ⟨o, hs₂.extBut _ _ (neN (.inl (Nat.lt_of_lt_of_le hl (by omega)))) e, r⟩
    refine wpAny_bind (RZ.nextOf_tuple_end hh (ht1.at fun o q => hs₂.extBut _ _ (neN (by omega)) q) hx2 hend fun h₃ e hs₃ he => ?_)
    obtain ⟨oe, hoe, hce⟩ := he
    have hz₃ : ZipAt h₃ b (m + 1) .ellipsis (.bool t1) := hs₃ _ _ (neN (by omega)) hz₂
    have hez : e ≠ b + (m + 1) + 2 := fun x => by subst x; rw [hz₃] at hoe; cases hoe; simp at hce
    exact wpAny_setField_rec hz₃ (by simp) fun h₄ _ hs₄ => hE h₄ e (fun (c : Nat) o hc x => hs₄.extBut _ _ (neN (by omega)) (hs₃ _ _ (neN (by omega)) (hs₂.extBut _ _ (neN (by omega)) (up1 c o (neN (by omega)) x)))) ⟨oe, hs₄.extBut _ _ hez hoe, hce⟩
  | false =>
    simp only [Bool.false_eq_true, if_false]
    rw [← Array.forIn_toList, itsN_list, eits]
    refine wpAny_bind ?_
    simp only [List.map_cons, List.forIn_cons]
    refine wpAny_bind (wpAny_bind (wpAny_holding ?_))
    show wpAny _ _ (Builtin.SmallTypes.nextOf (.ref (b + 0)) >>= _) _ _ _
    refine wpAny_bind (RZ.nextOf_tuple_end hh ht1 hx1 hend fun h₃ e hs₃ he => ?_)
    exact hE h₃ e (fun (c : Nat) o hc x => hs₃ _ _ (neN (by omega)) (up1 c o (neN (by omega)) x)) he
theorem pyNextN_item {b n i : Nat} {l : Nat → Addr} {xs : Nat → Array Value} {x : Nat → Value} {Q : Option Value → Shared → Prop} (hn : 0 < n) (hn2 : n ≤ sizeLine) (Z : ZN s.heap b n l i) (hl : ∀ k, k < n → l k < b)
    (hx : ∀ k, k < n → s.heap.IsTuple (l k) (xs k) ∧ (xs k)[i]? = some (x k))
    (hQ : ∀ h', ZN h' b n l (i + 1) → TupN h' s.heap.objs.size ((List.range n).map x).toArray →
      (∀ (c : Nat) o, (c < b ∨ b + n + 2 < c) → s.heap.get? c = some o → h'.get? c = some o) → Q (some (.ref s.heap.objs.size)) { s with heap := h' }) :
    wpAny (model prog w) A (pyNext (.ref (b + n + 2))) Q E s := by
  have hT : s.TypeIs (.ref (b + n + 2)) "zip" := by obtain ⟨⟨f0, t, _, hz⟩, _⟩ := Z; exact ⟨_, hz, rfl⟩
  unfold pyNext
  exact wpAny_bind (wpAny_attempt (wpAny_callSpecial?_slot (name := Str.ofString "__next__") hT F.slot_zip_next
    (wpAny_call_entry F.slot_zip_next hT F.entry_zip_next
      (zipN_next_item hn hn2 Z hl hx fun h' a1 a2 a3 => wpAny_pure (hQ h' a1 a2 a3)) (F.args_zip_next_1 _))))
theorem pyNextN_end {b n i : Nat} {l : Nat → Addr} {xs0 : Array Value} {Q : Option Value → Shared → Prop} (hh : A.handled = none) (hn : 0 < n) (Z : ZN s.heap b n l i) (hl : l 0 < b)
    (hx : s.heap.IsTuple (l 0) xs0) (hend : xs0[i]? = none)
    (hQ : ∀ h', (∀ (c : Nat) o, (c < b ∨ b + n + 2 < c) → s.heap.get? c = some o → h'.get? c = some o) → Q none { s with heap := h' }) : wpAny (model prog w) A (pyNext (.ref (b + n + 2))) Q E s := by
  have hT : s.TypeIs (.ref (b + n + 2)) "zip" := by obtain ⟨⟨f0, t, _, hz⟩, _⟩ := Z; exact ⟨_, hz, rfl⟩
  unfold pyNext
  refine wpAny_bind (wpAny_attempt (wpAny_callSpecial?_slot (name := Str.ofString "__next__") hT F.slot_zip_next
    (wpAny_call_entry F.slot_zip_next hT F.entry_zip_next (zipN_next_end hh hn Z hl hx hend fun h' e hk he => ?_) (F.args_zip_next_1 _))))
  obtain ⟨o, ho, hc⟩ := he
  refine wpAny_bind (wpAny_isInstance (T := "StopIteration") (b := true) ⟨o, ho, hc⟩ isSubtype_stop ?_)
  exact wpAny_pure (hQ _ hk)
theorem pyIterN {b n i : Nat} {l : Nat → Addr} {Q : Value → Shared → Prop} (Z : ZN s.heap b n l i) (h : Q (.ref (b + n + 2)) s) : wpAny (model prog w) A (pyIter (.ref (b + n + 2))) Q E s := by
  have hT : s.TypeIs (.ref (b + n + 2)) "zip" := by obtain ⟨⟨f0, t, _, hz⟩, _⟩ := Z; exact ⟨_, hz, rfl⟩
  refine wpAny_pyIter_slot hT F.slot_zip_iter (wpAny_call_entry F.slot_zip_iter hT F.entry_zip_iter ?_ (F.args_zip_iter_1 _))
  show wpAny _ _ (ret (.ref (b + n + 2))) _ _ s
  exact wpAny_pure ⟨_, rfl, "zip", _, hT, F.slot_zip_next.lookup, h⟩
theorem meets_zipN (n : Nat) (l : Nat → Addr) (xs : Nat → Array Value) (vs : List Value) (hv : vs = (List.range n).map fun k => Value.ref (l k)) (hn : n ≤ sizeLine) :
    Meets (Builtin.«zip.__new__» ⟨.type "zip" :: vs, []⟩) (fun _ R s => (∀ k, k < n → s.heap.IsTuple (l k) (xs k)) ∧
      ∀ h', ZN h' s.heap.objs.size n l 0 → (∀ c o, s.heap.get? c = some o → h'.get? c = some o) → R (.ok (.ret (.ref (s.heap.objs.size + n + 2)))) { s with heap := h' }) :=
  .of_wp fun prog w A R s h => by
    subst hv
    obtain ⟨hp, g, d, tk, os⟩ := s; obtain ⟨hl, h⟩ := h
    have hsub := sub_zip
    have hl : ∀ k, k < n → hp.IsTuple (l k) (xs k) := hl
    have h : ∀ h', ZN h' hp.objs.size n l 0 → (∀ c o, hp.get? c = some o → h'.get? c = some o) → R (.ok (.ret (.ref (hp.objs.size + n + 2)))) ⟨h', g, d, tk, os⟩ := h
    wp_walk using wpAny_forIn_list _ (fun rest its s' => ∃ k h', k ≤ n ∧ rest = (List.range' k (n - k)).map (fun k => Value.ref (l k)) ∧ its.toList = (List.range k).map (fun j => Value.ref (hp.objs.size + j)) ∧ s' = (⟨h', g, d, tk, os⟩ : Shared) ∧ h'.objs.size = hp.objs.size + k ∧ (∀ j, j < k → h'.IsTupleIter (hp.objs.size + j) (l j) 0) ∧ ∀ c o, hp.get? c = some o → h'.get? c = some o) _
    case turn =>
      rintro v rest its s' ⟨k, h', hk, er, ei, rfl, hsz, hit, hup⟩
      cases em : n - k with
      | zero => rw [em] at er; cases er
      | succ m =>
        rw [em, List.range'_succ, List.map_cons] at er
        injection er with e1 e2
        subst e1
        have hkn : k < n := by omega
        obtain ⟨o, eo, ro⟩ := hl k hkn
        have ht : h'.IsTuple (l k) (xs k) := ⟨o, hup _ _ eo, ro⟩
        refine wpAny_bind (wpAny_holding (wpAny_pyIter_tuple (s := ⟨h', g, d, tk, os⟩) ht ?_))
        refine wpAny_pure ⟨k + 1, _, hkn, by rw [e2, show n - (k + 1) = m by omega], ?_, rfl, by show (Heap.push _ _).objs.size = _; rw [Heap.size_push, hsz]; omega, fun j hj => ?_, fun c o e => Heap.get?_push_of_some _ (hup c o e)⟩
        · show (its.push (.ref h'.objs.size)).toList = _
          rw [Array.toList_push, ei, hsz, List.range_succ, List.map_append]; rfl
        · by_cases e : j = k
          · subst e
            rw [← hsz]
            exact ⟨_, Heap.get?_push_size _ rfl, rfl, rfl⟩
          · exact (hit j (by omega)).at fun o q => Heap.get?_push_of_some _ q
    case fin =>
      rintro its s' ⟨k, h', hk, er, ei, rfl, hsz, hit, hup⟩
      have ek : k = n := by
        cases em : n - k with
        | zero => omega
        | succ m => rw [em, List.range'_succ, List.map_cons] at er; cases er
      subst ek
      show wpAny _ _ (pure its.toList) _ _ _
      refine wpAny_pure ?_
      rw [ei]
      refine wpAny_bind (wpAny_newTuple ?_ (by simpa using hn))
      refine wpAny_bind (wpAny_newTuple ?_ (by simpa using hn))
      have e1 : (h'.push { cls := .type "tuple", data := .seq ((List.range k).map fun j => Value.ref (hp.objs.size + j)).toArray }).objs.size = hp.objs.size + k + 1 := by rw [Heap.size_push, hsz]
      have e2 : ((h'.push { cls := .type "tuple", data := .seq ((List.range k).map fun j => Value.ref (hp.objs.size + j)).toArray }).push { cls := .type "tuple", data := .seq (((List.range k).map fun j => Value.ref (hp.objs.size + j)).map fun _ => Value.none).toArray }).objs.size = hp.objs.size + k + 2 := by rw [Heap.size_push, e1]
      show wpAny _ _ (newObj (.type "zip") (.fields #[.none, .bool false, .bool false, .ref h'.objs.size, .ref (h'.push { cls := .type "tuple", data := .seq ((List.range k).map fun j => Value.ref (hp.objs.size + j)).toArray }).objs.size]) >>= _) _ _ _
      rw [hsz, e1]
      refine wpAny_bind (wpAny_newObj_type ?_ (by size_fits))
      refine wpAny_pure ⟨_, rfl, ?_⟩
      show R (.ok (.ret (.ref ((h'.push { cls := .type "tuple", data := .seq ((List.range k).map fun j => Value.ref (hp.objs.size + j)).toArray }).push { cls := .type "tuple", data := .seq (((List.range k).map fun j => Value.ref (hp.objs.size + j)).map fun _ => Value.none).toArray }).objs.size))) _
      have gz := Heap.get?_push_size ((h'.push { cls := .type "tuple", data := .seq ((List.range k).map fun j => Value.ref (hp.objs.size + j)).toArray }).push { cls := .type "tuple", data := .seq (((List.range k).map fun j => Value.ref (hp.objs.size + j)).map fun _ => Value.none).toArray }) (o := { cls := .type "zip", data := .fields #[.none, .bool false, .bool false, .ref (hp.objs.size + k), .ref (hp.objs.size + k + 1)] }) rfl
      have gT := Heap.get?_push_size h' (o := { cls := .type "tuple", data := .seq ((List.range k).map fun j => Value.ref (hp.objs.size + j)).toArray }) rfl
      have gO := Heap.get?_push_size (h'.push { cls := .type "tuple", data := .seq ((List.range k).map fun j => Value.ref (hp.objs.size + j)).toArray }) (o := { cls := .type "tuple", data := .seq (((List.range k).map fun j => Value.ref (hp.objs.size + j)).map fun _ => Value.none).toArray }) rfl
      rw [e2] at gz ⊢
      rw [hsz] at gT
      rw [e1] at gO
      refine h _ ⟨⟨_, _, .inl rfl, gz⟩, Heap.get?_push_of_some _ (Heap.get?_push_of_some _ gT), ⟨_, ?_, Heap.get?_push_of_some _ gO⟩, fun j hj => (hit j hj).at fun o q => Heap.get?_push_of_some _ (Heap.get?_push_of_some _ (Heap.get?_push_of_some _ q))⟩ fun c o q => Heap.get?_push_of_some _ (Heap.get?_push_of_some _ (Heap.get?_push_of_some _ (hup c o q)))
      simp
    exact ⟨0, hp, Nat.zero_le _, by rw [List.range_eq_range']; rfl, rfl, rfl, rfl, fun j hj => absurd hj (Nat.not_lt_zero _), fun _ _ q => q⟩
theorem call_zipN {n : Nat} {l : Nat → Addr} {xs : Nat → Array Value} {Q : Value → Shared → Prop} (h0 : 0 < n) (hn : n ≤ sizeLine) (hl : ∀ k, k < n → s.heap.IsTuple (l k) (xs k))
    (h : ∀ h', ZN h' s.heap.objs.size n l 0 → (∀ c o, s.heap.get? c = some o → h'.get? c = some o) → Q (.ref (s.heap.objs.size + n + 2)) { s with heap := h' }) :
    wpAny (model prog w) A (call (.type "zip") ((List.range n).map fun k => Value.ref (l k))) Q E s := by
  obtain ⟨v, vs, e⟩ : ∃ v vs, (List.range n).map (fun k => Value.ref (l k)) = v :: vs := by
    obtain ⟨m, rfl⟩ : ∃ m, n = m + 1 := ⟨n - 1, by omega⟩
    exact ⟨_, _, by rw [List.range_succ_eq_map, List.map_cons]⟩
  have hc := newCall_zip_s v vs
  rw [← e] at hc
  refine callType_new F.called_zip (by decide) (typeCall_zip_n _) hc (fun obj => args_object_init_n obj _) F.entry_zip_new (meets_zipN n l xs _ rfl hn) ⟨hl, fun h' Z up => ?_⟩
  refine ⟨?_, h h' Z up⟩
  obtain ⟨⟨f0, t, _, hz⟩, _⟩ := Z
  exact ⟨_, hz, rfl⟩
end
end ZS

set_option linter.all false
set_option maxRecDepth 100000
set_option maxHeartbeats 1000000
namespace J
open PySem PySem.Spec PyProof.Rows L2 RZ
def ItzN (K : PySem.W.Frag) (n : Nat) (l : Nat → Addr) : It :=
  ⟨fun i H => ∃ y : Nat → V, ∀ k, k < n → ∃ xs, SqT K H (l k) xs ∧ xs[i]? = some (y k),
    fun i H v H' => ∃ T, ∃ y : Nat → V, v = .ref T ∧ H T = none ∧ H' = upd H T (.tup ((List.range n).map y)) ∧ ∀ k, k < n → ∀ xs, SqT K H (l k) xs → xs[i]? = some (y k),
    fun i H => ∃ xs, SqT K H (l 0) xs ∧ xs.length ≤ i⟩
theorem vals_map {L : List Nat} {y : Nat → V} {x : Nat → Value} (h : ∀ k, k ∈ L → RelV (y k) (x k)) : Vals (L.map y) (L.map x) := by
  induction L with
  | nil => exact .nil
  | cons a L ih => exact .cons (h a (List.mem_cons_self ..)) (ih fun k hk => h k (List.mem_cons_of_mem _ hk))
def fpN (b n : Nat) : List Addr := (List.range (n + 3)).map fun k => b + k
theorem mem_fpN {b n c : Nat} : c ∈ fpN b n ↔ b ≤ c ∧ c ≤ b + n + 2 := by
  unfold fpN
  constructor
  · intro h
    obtain ⟨k, hk, e⟩ := List.mem_map.mp h
    have := List.mem_range.mp hk
    have e' : b + k = c := e
    omega
  · intro h
    exact List.mem_map.mpr ⟨c - b, List.mem_range.mpr (by omega), by show b + (c - b) = c; omega⟩
theorem out_fpN {b n c : Nat} (h : c ∉ fpN b n) : c < b ∨ b + n + 2 < c := by
  rcases Nat.lt_or_ge c b with h1 | h1
  · exact .inl h1
  · rcases Nat.lt_or_ge (b + n + 2) c with h2 | h2
    · exact .inr h2
    · exact absurd (mem_fpN.mpr ⟨h1, h2⟩) h
theorem fpN_it {b n c : Nat} (e1 : ¬ c = b + n + 2) (e2 : ¬ c = b + n + 1) (e3 : ¬ c = b + n) (g1 : b ≤ c) (g2 : c ≤ b + n + 2) : ∃ k, k < n ∧ c = b + k := ⟨c - b, by omega, by omega⟩
theorem turn_zipN {P : Program} {w : World} {K : PySem.W.Frag} {x : PySem.Str} {tp : Pos} {b n : Nat} {l : Nat → Addr} (h0 : 0 < n) (hn : n ≤ sizeLine) (hl : ∀ k, k < n → l k < b) :
    Turn P w K (.Name x tp) (ItzN K n l) (fpN b n) (b + n + 2) (fun i h => ZS.ZN h b n l i) where
  mem := mem_fpN.mpr (by omega)
  obj := fun i h Z c hc => by
    obtain ⟨⟨f0, t, _, hz⟩, hTI, ⟨arr, _, hTO⟩, hit⟩ := Z
    have hc' := mem_fpN.mp hc
    by_cases e1 : c = b + n + 2
    · rw [e1]; exact ⟨_, hz, fun v q => nomatch q⟩
    by_cases e2 : c = b + n + 1
    · rw [e2]; exact ⟨_, hTO, fun v q => nomatch q⟩
    by_cases e3 : c = b + n
    · rw [e3]; exact ⟨_, hTI, fun v q => nomatch q⟩
    · obtain ⟨k, hk, ek⟩ := fpN_it e1 e2 e3 hc'.1 hc'.2
      obtain ⟨o, eo, _, d⟩ := hit k hk
      rw [← ek] at eo
      exact ⟨o, eo, fun v q => by rw [d] at q; cases q⟩
  keep := fun i h h' Z k => by
    obtain ⟨⟨f0, t, hf, hz⟩, hTI, ⟨arr, ha, hTO⟩, hit⟩ := Z
    exact ⟨⟨f0, t, hf, k _ (mem_fpN.mpr (by omega)) _ hz⟩, k _ (mem_fpN.mpr (by omega)) _ hTI, ⟨arr, ha, k _ (mem_fpN.mpr (by omega)) _ hTO⟩, fun j hj => (hit j hj).at fun o q => k _ (mem_fpN.mpr (by omega)) o q⟩
  item := by
    intro X hP hw hK hc i pins s σ H E I hf Z hg
    subst hP hw hK
    obtain ⟨y, hy⟩ := hg
    have hch : ∀ k, ∃ q : Array Value × Value, k < n → s.heap.IsTuple (l k) q.1 ∧ q.1[i]? = some q.2 ∧ RelV (y k) q.2 := fun k => by
      by_cases hk : k < n
      · obtain ⟨xs, hq, hx⟩ := hy k hk
        obtain ⟨its, rv, p, _⟩ := I.tuple hq
        obtain ⟨u, hu, ru⟩ := rv.get hx
        exact ⟨(its.toArray, u), fun _ => ⟨p, by simpa using hu, ru⟩⟩
      · exact ⟨(#[], .none), fun z => absurd z hk⟩
    obtain ⟨q, hq⟩ := Classical.axiomOfChoice hch
    have hzl : b + n + 2 < s.heap.objs.size := by obtain ⟨⟨_, _, _, hz⟩, _⟩ := Z; exact Heap.lt_size hz
    refine ZS.pyNextN_item (xs := fun k => (q k).1) (x := fun k => (q k).2) h0 hn Z hl (fun k hk => ⟨(hq k hk).1, (hq k hk).2.1⟩) fun h' Z' hT hk => ?_
    refine ⟨_, rfl, wpAny_pure ?_⟩
    have new : ObjOk X.prog X.w (upd H s.heap.objs.size (.tup ((List.range n).map y))) h' s.heap.objs.size (.tup ((List.range n).map y)) :=
      ⟨by simpa using hn, (List.range n).map fun k => (q k).2, vals_map fun k hk => (hq k (List.mem_range.mp hk)).2.2, ⟨_, hT, rfl, _, rfl⟩⟩
    have I1 : Inv X pins σ (upd H s.heap.objs.size (.tup ((List.range n).map y))) { s with heap := h' } :=
      I.turnedNew (t' := s.toks) (ch := fpN b n) (fun (c : Nat) o hb q => hk c o (out_fpN hb) q) hf (Nat.le_refl _) new
    refine ⟨.ref s.heap.objs.size, _, I1, rfl, ⟨_, y, rfl, I.hok.fresh (Nat.le_refl _), rfl, fun k hk' xs' hq' => ?_⟩, Z', fun c hcm => ?_⟩
    · obtain ⟨xs, hqq, hx⟩ := hy k hk'
      rw [I.tuple_inj hq' hqq]; exact hx
    · have hlt : c < s.heap.objs.size := Nat.lt_of_le_of_lt (mem_fpN.mp hcm).2 hzl
      rw [upd_ne (Nat.ne_of_lt hlt)]
      exact (hf c hcm).1
  done := by
    intro X hP hw hK hc i pins s σ H E I hf Z hg
    subst hP hw hK
    obtain ⟨xs, hq, hend⟩ := hg
    obtain ⟨its, rv, p, _⟩ := I.tuple hq
    have l1 := rv.length
    exact ZS.pyNextN_end (I.ok.hd hc) h0 Z (hl 0 h0) p (by simp; omega) fun h' hk => ⟨rfl, I.turnedL (t' := s.toks) (ch := fpN b n) (fun (c : Nat) o hb q => hk c o (out_fpN hb) q) hf⟩
  self := fun A i s Q E Z h => ZS.pyIterN Z h
def iZipS (K : PySem.W.Frag) (te : TE) : TI := fun σ H R => te σ H fun x H1 => ∃ (a : Addr) (vs : List V) (n : Nat) (l : Nat → Addr), x = .ref a ∧ (SqT K H1 a vs ∨ SqL K H1 a vs) ∧ vs = (List.range n).map (fun k => V.ref (l k)) ∧ 0 < n ∧ n ≤ sizeLine ∧ (∀ k, k < n → ∃ xs, SqT K H1 (l k) xs) ∧ R (ItzN K n l) H1
theorem vals_refs {L : List Nat} {l : Nat → Addr} {us : List Value} (h : Vals (L.map fun k => V.ref (l k)) us) : us = L.map fun k => Value.ref (l k) := by
  induction L generalizing us with
  | nil => cases h; rfl
  | cons a L ih => cases h with | cons r t => cases r; rw [ih t]; rfl
theorem pi_zipS {X : Cx} {e : Expr} {te : TE} {p p2 pos tpos : Pos} {x : PySem.Str} (hg : Gl X "zip") (hm : X.mg "zip" = none) (he : PE X e te)
    (hst : starEach [.Starred e p2] X.env = [(true, eval e X.env)] := by rfl) :
    PI X (.Name x tpos) (.Call (.Name "zip" p) [.Starred e p2] [] pos) (iZipS X.K te) := by
  refine ⟨fun pins s σ H R I h => ?_⟩
  refine Call_ (ld_blt I hg hm PyProof.Rows.boot_zip ?_)
  rw [hst]
  refine PySem.W.ks_call (P := fun _ => True) rfl (fun h _ => ⟨.machine, .inr (.inl rfl), .of_pure rfl⟩) (PySem.W.ks_lone (thn (he.run pins s σ H _ I h) fun v s1 ⟨y, H1, I1, ry, a, vs, n, l, ey, hx, ev, h0, hn, hl, q⟩ => ?_))
  subst ey
  obtain rfl : v = Value.ref a := ry
  refine StX.star_any I1 hx fun us s2 I2 rv => ⟨trivial, ?_⟩
  subst ev
  have eu := vals_refs rv
  subst eu
  have hch : ∀ k, ∃ ys : Array Value, k < n → s2.heap.IsTuple (l k) ys := fun k => by
    by_cases hk : k < n
    · obtain ⟨xs, hq⟩ := hl k hk
      obtain ⟨its, rv, p, _⟩ := I2.tuple hq
      exact ⟨its.toArray, fun _ => p⟩
    · exact ⟨#[], fun z => absurd z hk⟩
  obtain ⟨xs, hxs⟩ := Classical.axiomOfChoice hch
  refine ZS.call_zipN h0 hn hxs fun h' Z up => ZS.pyIterN Z ?_
  refine ⟨_, fpN s2.heap.objs.size n, _, _, H1, rfl, I2.kept (t' := s2.toks) up, turn_zipN h0 hn fun k hk => ?_, Z, fun c hc => I2.fpOk (mem_fpN.mp hc).1 (I2.hok.fresh (mem_fpN.mp hc).1), q⟩
  obtain ⟨o, e, _⟩ := hxs k hk
  exact Heap.lt_size e
/-! ### the same over data -/
theorem walk_zipN {K : PySem.W.Frag} {n m : Nat} {l : Nat → Addr} (h0 : 0 < n) : Walk (ItzN K n l) m (fun H => ∀ k, k < n → ∃ xs, SqT K H (l k) xs ∧ xs.length = m)
    (fun i H v H' => ∃ T, ∃ y : Nat → V, v = .ref T ∧ H T = none ∧ H' = upd H T (.tup ((List.range n).map y)) ∧ ∀ k, k < n → ∀ xs, SqT K H (l k) xs → xs[i]? = some (y k)) := by
  refine ⟨fun i H hi G => ?_, fun H G => ?_, fun i H v H' hi G y => y⟩
  · have hch : ∀ k, ∃ y : V, k < n → ∃ xs, SqT K H (l k) xs ∧ xs[i]? = some y := fun k => by
      by_cases hk : k < n
      · obtain ⟨xs, h1, h2⟩ := G k hk
        exact ⟨xs[i]'(by omega), fun _ => ⟨xs, h1, List.getElem?_eq_getElem (by omega)⟩⟩
      · exact ⟨.non, fun z => absurd z hk⟩
    exact Classical.axiomOfChoice hch
  · obtain ⟨xs, h1, h2⟩ := G 0 h0
    exact ⟨xs, h1, by omega⟩
def zipRows (rows : List (List D)) (m : Nat) : List D := (List.range m).map fun j => D.tup (rows.map fun r => r.getD j .non)
def addrV : V → Addr
  | .ref a => a
  | _ => 0
theorem dens_tups {K : PySem.W.Frag} {H : Hp} : ∀ {rows : List (List D)} {vs : List V}, Dens K H (rows.map .tup) vs → vs = (List.range rows.length).map (fun k => V.ref (addrV (vs.getD k .non))) ∧ ∀ k (hk : k < rows.length), ∃ xs, H (addrV (vs.getD k .non)) = some (.tup xs) ∧ Dens K H rows[k] xs
  | [], _, .nil => ⟨rfl, fun k hk => absurd hk (Nat.not_lt_zero _)⟩
  | r :: rows, v :: vs, .cons hd hs => by
    obtain ⟨e, h⟩ := dens_tups hs
    cases hd with
    | @tup _ xs a hT hx =>
      refine ⟨?_, fun k hk => ?_⟩
      · rw [List.length_cons, List.range_succ_eq_map, List.map_cons, List.map_map]
        exact congrArg (List.cons _) e
      · cases k with
        | zero => exact ⟨xs, hT, hx⟩
        | succ k => exact h k (Nat.lt_of_succ_lt_succ hk)
theorem dens_at {K : PySem.W.Frag} {H : Hp} {rows : List (List D)} {y : Nat → V} {i : Nat} (h : ∀ k (hk : k < rows.length), Den K H (rows[k].getD i .non) (y k)) : Dens K H (rows.map fun r => r.getD i .non) ((List.range rows.length).map y) := by
  induction rows generalizing y with
  | nil => exact .nil
  | cons r rows ih =>
    rw [List.length_cons, List.range_succ_eq_map, List.map_cons, List.map_cons, List.map_map]
    exact .cons (h 0 (Nat.succ_pos _)) (ih fun k hk => h (k + 1) (Nat.succ_lt_succ hk))
section
variable {T : Type} {X : Cx} {R : Rg T} {pos : Pos}
theorem wd_zipN {H : Hp} {rows : List (List D)} {vs : List V} {m : Nat} (h0 : 0 < rows.length) (hs : Dens R.K H (rows.map .tup) vs) (hm : ∀ r, r ∈ rows → r.length = m) :
    WD R (ItzN R.K rows.length fun k => addrV (vs.getD k .non)) H (zipRows rows m) := by
  obtain ⟨_, hd⟩ := dens_tups hs
  unfold WD
  rw [show (zipRows rows m).length = m by simp [zipRows]]
  refine (walk_zipN h0).mono (fun H2 g k hk => ?_) fun i H2 x H3 hi g y => ?_
  · obtain ⟨xs, e, d⟩ := hd k hk
    exact ⟨xs, .inl (.inl (g.1.tup _ _ e)), by rw [← d.len]; exact hm _ (List.getElem_mem _)⟩
  · obtain ⟨T, y, rfl, nT, rfl, hy⟩ := y
    have hD : Dens R.K H2 (rows.map fun r => r.getD i .non) ((List.range rows.length).map y) := dens_at fun k hk => by
      obtain ⟨xs, e, d⟩ := hd k hk
      have e2 := hy k hk xs (.inl (.inl (g.1.tup _ _ e)))
      obtain ⟨d', e', hd'⟩ := (d.ext g.1).getV e2
      rw [List.getD_eq_getElem?_getD, e']
      exact hd'
    obtain ⟨_, D2⟩ := new_tup (R := R) g.2.choose_spec nT hD
    exact ⟨fun t gd => .new gd nT, _, by simp [zipRows, hi], D2⟩
def wZipS (w : W T) : WL T := fun ρ Φ => w ρ fun d t => ∃ (rows : List (List D)) (m : Nat), d.items = some (rows.map .tup) ∧ 0 < rows.length ∧ rows.length ≤ sizeLine ∧ (∀ r, r ∈ rows → r.length = m) ∧ Φ (zipRows rows m) t
theorem EI_zipS {x : PySem.Str} {tp : Pos} {iter e : Expr} {w : W T} (h : ∀ {te}, PE X e te → PI X (.Name x tp) iter (iZipS X.K te)) (he : PE X e (E R w)) (hK : X.K = R.K := by rfl) : PI X (.Name x tp) iter (EI R (wZipS w)) := PI_imp (h he) fun σ H Q ⟨ρ, t, Φ, ok, q, k⟩ =>
  ⟨ρ, _, _, ok, q, fun H1 t1 v d g hD ⟨rows, m, hi, h0, hn, hm, hq⟩ => by
    rw [hK]
    cases hD with
    | lst hL hds =>
      cases hi
      obtain ⟨e, hx⟩ := dens_tups hds
      exact ⟨_, _, _, _, rfl, .inr hL.sq, e, h0, hn, fun k hk => (hx k hk).imp fun xs z => .inl (.inl z.1), k H1 _ _ _ g (wd_zipN h0 hds hm) hq⟩
    | tup hL hds =>
      cases hi
      obtain ⟨e, hx⟩ := dens_tups hds
      exact ⟨_, _, _, _, rfl, .inl (.inl (.inl hL)), e, h0, hn, fun k hk => (hx k hk).imp fun xs z => .inl (.inl z.1), k H1 _ _ _ g (wd_zipN h0 hds hm) hq⟩
    | _ => cases hi⟩
end
end J

set_option Elab.async false
set_option linter.all false
set_option maxRecDepth 100000
set_option maxHeartbeats 4000000
/-! J29: tellers put together (beside, either), guessing. -/
namespace J
open PySem PySem.Spec L2 RZ LP
def mulV (a b : List Int) : List Int := (a.zip b).map fun p => p.1 * p.2
def besC (cs ds : List (List Int)) : List (List Int) := cs.flatMap fun m => ds.map fun y => mulV m y
def besR (rows goal : List (List Int)) : List (List Int) := tran rows.length (besC (cols rows) (cols goal))
def telLow (d : Int) (rows : List (List Int)) : D := dTel (d / gcdL (d :: rows.flatten)) (lowR (gcdL (d :: rows.flatten)) rows)
def eitR (a b : Int) (rows goal : List (List Int)) : List (List Int) := (rows.zip goal).map fun p => p.1.map (a * ·) ++ p.2.map (b * ·)
def guessN (rows : List (List Int)) : Int := ((cols rows).map maxL).sum
def fs_check_one : FS := fun ds Φ => ∃ d rows, ds = [dTel d rows] ∧ IsTel d rows ∧ Φ .non
def fs_check_other : FS := fs_check_pair
def fs_check_both : FS := fs_check_pair
def fs_made_of_columns : FS := fun ds Φ => ∃ d cs, ∃ n : Nat, ds = [.int d, .lst (cs.map fun c => dI c)] ∧ 1 ≤ n ∧ n ≤ 12 ∧ 1 ≤ cs.length ∧ cs.length ≤ 12 ∧ (∀ c ∈ cs, c.length = n) ∧ 0 < d ∧ Sm 8000 d ∧ d / gcdL (d :: (tran n cs).flatten) ≤ 10 ^ 30 ∧ Φ (telLow d (tran n cs))
def fs_beside_columns : FS := fun ds Φ => ∃ cs es, ∃ n : Nat, ds = [.lst (cs.map fun c => dI c), .lst (es.map fun c => dI c)] ∧ n ≤ 12 ∧ cs.length ≤ 12 ∧ es.length ≤ 12 ∧ (∀ c ∈ cs, c.length = n ∧ ∀ x ∈ c, Sm 400000 x) ∧ (∀ c ∈ es, c.length = n ∧ ∀ x ∈ c, Sm 400000 x) ∧ Φ (.lst ((besC cs es).map fun c => dI c))
def fs_beside : FS := fun ds Φ => ∃ d rows e goal, ds = [dTel d rows, dTel e goal] ∧ IsTel d rows ∧ IsTel e goal ∧ goal.length = rows.length ∧ wid rows * wid goal ≤ 12 ∧ (d * e) / gcdL ((d * e) :: (besR rows goal).flatten) ≤ 10 ^ 30 ∧ Φ (telLow (d * e) (besR rows goal))
def fs_check_part : FS := fun ds Φ => ∃ k n : Int, ds = [.int k, .int n] ∧ 0 ≤ k ∧ k ≤ n ∧ 1 ≤ n ∧ n ≤ 10 ^ 9 ∧ Φ .non
def fs_weighed : FS := fun ds Φ => ∃ d rows e goal, ∃ k n : Int, ds = [dTel d rows, dTel e goal, .int k, .int n] ∧ IsTel d rows ∧ IsTel e goal ∧ 0 ≤ k ∧ k ≤ n ∧ n ≤ 10 ^ 9 ∧ Φ (.tup [dLL (rows.map fun r => r.map (k * e * ·)), dLL (goal.map fun r => r.map ((n - k) * d * ·))])
def fs_either : FS := fun ds Φ => ∃ d rows e goal, ∃ k n : Int, ds = [dTel d rows, dTel e goal, .int k, .int n] ∧ IsTel d rows ∧ IsTel e goal ∧ goal.length = rows.length ∧ wid rows + wid goal ≤ 12 ∧ 0 ≤ k ∧ k ≤ n ∧ 1 ≤ n ∧ n ≤ 10 ^ 9 ∧
  (d * e * n) / gcdL ((d * e * n) :: (eitR (k * e) ((n - k) * d) rows goal).flatten) ≤ 10 ^ 30 ∧ Φ (telLow (d * e * n) (eitR (k * e) ((n - k) * d) rows goal))
def fs_guessing : FS := fun ds Φ => ∃ d rows, ds = [dTel d rows] ∧ IsTel d rows ∧ Φ (dRat (ratN (guessN rows) d))
def fs_are_stakes_against : FS := fun ds Φ => ∃ d rows e goal g, ds = [dTel d rows, dTel e goal, dSta g] ∧ IsTel d rows ∧ IsTel e goal ∧ goal.length = rows.length ∧ IsSta g ∧ wid g = rows.length ∧ Sm 9000 (worthN rows g) ∧ Sm 9000 (worthN goal g) ∧
  Φ (.bl (decide ((ratN (worthN rows g) d).1 * (ratN (worthN goal g) e).2 < (ratN (worthN goal g) e).1 * (ratN (worthN rows g) d).2)))
theorem sm_le9 {x : Int} (h0 : 0 ≤ x) (h1 : x ≤ 10 ^ 9) : Sm 100 x := sm30.le h0 (Int.le_trans h1 (by decide))
/-! ### plain -/
theorem mulV_len {a b : List Int} (h : b.length = a.length) : (mulV a b).length = a.length := by unfold mulV; rw [List.length_map, List.length_zip]; omega
theorem mulV_at {a b : List Int} (h : b.length = a.length) (x : Nat) : (mulV a b).getD x 0 = a.getD x 0 * b.getD x 0 := by
  unfold mulV
  by_cases hx : x < a.length
  · rw [List.getD_eq_getElem?_getD, List.getD_eq_getElem?_getD, List.getD_eq_getElem?_getD, List.getElem?_map, List.getElem?_eq_getElem (show x < (a.zip b).length by rw [List.length_zip]; omega), List.getElem?_eq_getElem hx, List.getElem?_eq_getElem (show x < b.length by omega)]
    simp
  · rw [List.getD_eq_getElem?_getD, List.getD_eq_getElem?_getD (l := a), List.getElem?_eq_none (by rw [List.length_map, List.length_zip]; omega), List.getElem?_eq_none (by omega)]
    simp
theorem besC_len (cs es : List (List Int)) : (besC cs es).length = cs.length * es.length := by
  unfold besC
  induction cs with
  | nil => simp
  | cons c cs ih => rw [List.flatMap_cons, List.length_append, ih, List.length_map, List.length_cons, Nat.succ_mul, Nat.add_comm]
theorem besC_mem {cs es : List (List Int)} {n : Nat} (hc : ∀ c ∈ cs, c.length = n) (he : ∀ c ∈ es, c.length = n) {c : List Int} (h : c ∈ besC cs es) : c.length = n := by
  obtain ⟨m, hm, h⟩ := List.mem_flatMap.mp h
  obtain ⟨y, hy, rfl⟩ := List.mem_map.mp h
  rw [mulV_len (by rw [hc m hm, he y hy]), hc m hm]
theorem fm_sum2 {α β : Type} (f : α → β → Int) (m : List β) : ∀ l : List α, (l.flatMap fun x => m.map fun y => f x y).sum = (l.map fun x => (m.map fun y => f x y).sum).sum
  | [] => rfl
  | a :: l => by rw [List.flatMap_cons, List.sum_append, fm_sum2 f m l, List.map_cons, List.sum_cons]
theorem col_len {rows : List (List Int)} {c : List Int} (h : c ∈ cols rows) : c.length = rows.length := by
  obtain ⟨y, _, rfl⟩ := List.mem_map.mp h
  rw [List.length_map]
theorem col_nn {rows : List (List Int)} (h : ∀ r ∈ rows, ∀ x ∈ r, 0 ≤ x) {c : List Int} (hc : c ∈ cols rows) (x : Nat) : 0 ≤ c.getD x 0 := by
  obtain ⟨y, _, rfl⟩ := List.mem_map.mp hc
  rw [List.getD_eq_getElem?_getD, List.getElem?_map]
  cases e : rows[x]? with
  | none => simp
  | some r =>
    show 0 ≤ r.getD y 0
    rw [List.getD_eq_getElem?_getD]
    cases e2 : r[y]? with
    | none => simp
    | some v => exact h r (List.mem_of_getElem? e) v (List.mem_of_getElem? e2)
theorem besR_ok {d e : Int} {rows goal : List (List Int)} (ht : IsTel d rows) (hu : IsTel e goal) (len : goal.length = rows.length) (hw : wid rows * wid goal ≤ 12) : RowsOk (besR rows goal) (d * e) 6 12 ∧ wid (besR rows goal) = wid rows * wid goal ∧ (besR rows goal).length = rows.length := by
  have l1 := ht.ok.l1
  have hl : (besR rows goal).length = rows.length := tran_len _ _
  have wl : wid (besR rows goal) = wid rows * wid goal := by unfold besR; rw [tran_wid l1, besC_len, cols_len, cols_len]
  have p : 0 < wid rows * wid goal := Nat.mul_pos ht.ok.w1 hu.ok.w1
  refine ⟨⟨by rw [hl]; exact l1, by rw [hl]; exact ht.ok.l2, by rw [wl]; exact p, by rw [wl]; exact hw, fun r hr => ?_, fun r hr x hx => ?_, fun r hr => ?_⟩, wl, hl⟩
  · rw [wl]; unfold besR at hr; rw [tran_row hr, besC_len, cols_len, cols_len]
  · obtain ⟨k, hk, rfl⟩ := List.mem_map.mp hr
    obtain ⟨c, hc, rfl⟩ := List.mem_map.mp hx
    obtain ⟨m, hm, h⟩ := List.mem_flatMap.mp hc
    obtain ⟨y, hy, rfl⟩ := List.mem_map.mp h
    rw [mulV_at (by rw [col_len hm, col_len hy, len])]
    exact Int.mul_nonneg (col_nn ht.ok.nn hm k) (col_nn hu.ok.nn hy k)
  · obtain ⟨k, hk, rfl⟩ := List.mem_map.mp hr
    have hk := List.mem_range.mp hk
    have e1 : (besC (cols rows) (cols goal)).map (fun c => c.getD k 0) = (cols rows).flatMap fun m => (cols goal).map fun y => m.getD k 0 * y.getD k 0 := by
      unfold besC
      rw [List.map_flatMap]
      have key : ∀ cs : List (List Int), (∀ c ∈ cs, c.length = rows.length) → (cs.flatMap fun a => ((cols goal).map fun y => mulV a y).map fun c => c.getD k 0) = cs.flatMap fun m => (cols goal).map fun y => m.getD k 0 * y.getD k 0 := fun cs hcs => by
        induction cs with
        | nil => rfl
        | cons c cs ih =>
          rw [List.flatMap_cons, List.flatMap_cons, ih fun c' h' => hcs c' (List.mem_cons_of_mem _ h'), List.map_map]
          congr 1
          refine List.map_congr_left fun y hy => ?_
          exact mulV_at (by rw [hcs c List.mem_cons_self, col_len hy, len]) k
      exact key _ fun c hc => col_len hc
    rw [e1, fm_sum2 (fun (m y : List Int) => m.getD k 0 * y.getD k 0)]
    rw [sum_congr (g := fun (m : List Int) => m.getD k 0 * e) fun m _ => ?_]
    · rw [sum_mulR, cols_at hk ht.ok.len, ht.ok.sum _ (getD_row hk)]
    · rw [sum_mulL, cols_at (show k < goal.length by omega) hu.ok.len, hu.ok.sum _ (getD_row (by omega))]
theorem zip_fst {α β : Type} {a : List α} {b : List β} (h : b.length = a.length) : (a.zip b).map (·.1) = a := List.map_fst_zip (by omega)
theorem zip_snd {α β : Type} {a : List α} {b : List β} (h : b.length = a.length) : (a.zip b).map (·.2) = b := List.map_snd_zip (by omega)
theorem eitR_ok {d e k n : Int} {rows goal : List (List Int)} (ht : IsTel d rows) (hu : IsTel e goal) (len : goal.length = rows.length) (hw : wid rows + wid goal ≤ 12) (hk : 0 ≤ k) (hn : k ≤ n) :
    RowsOk (eitR (k * e) ((n - k) * d) rows goal) (d * e * n) 6 12 ∧ wid (eitR (k * e) ((n - k) * d) rows goal) = wid rows + wid goal ∧ (eitR (k * e) ((n - k) * d) rows goal).length = rows.length := by
  have l1 := ht.ok.l1
  have d1 := ht.d1
  have e1 := hu.d1
  have hl : (eitR (k * e) ((n - k) * d) rows goal).length = rows.length := by unfold eitR; rw [List.length_map, List.length_zip]; omega
  have rl : ∀ r ∈ eitR (k * e) ((n - k) * d) rows goal, r.length = wid rows + wid goal := fun r hr => by
    obtain ⟨p, hp, rfl⟩ := List.mem_map.mp hr
    obtain ⟨h1, h2⟩ := List.of_mem_zip (a := p.1) (b := p.2) hp
    rw [List.length_append, List.length_map, List.length_map, ht.ok.len _ h1, hu.ok.len _ h2]
  have wl : wid (eitR (k * e) ((n - k) * d) rows goal) = wid rows + wid goal := wid_of (by omega) rl
  have k1 : 0 ≤ k * e := Int.mul_nonneg hk (by omega)
  have k2 : 0 ≤ (n - k) * d := Int.mul_nonneg (by omega) (by omega)
  refine ⟨⟨by rw [hl]; exact l1, by rw [hl]; exact ht.ok.l2, by rw [wl]; have := ht.ok.w1; omega, by rw [wl]; exact hw, fun r hr => by rw [wl]; exact rl r hr, fun r hr x hx => ?_, fun r hr => ?_⟩, wl, hl⟩
  · obtain ⟨p, hp, rfl⟩ := List.mem_map.mp hr
    obtain ⟨h1, h2⟩ := List.of_mem_zip (a := p.1) (b := p.2) hp
    rcases List.mem_append.mp hx with h | h
    · obtain ⟨y, hy, rfl⟩ := List.mem_map.mp h
      exact Int.mul_nonneg k1 (ht.ok.nn _ h1 y hy)
    · obtain ⟨y, hy, rfl⟩ := List.mem_map.mp h
      exact Int.mul_nonneg k2 (hu.ok.nn _ h2 y hy)
  · obtain ⟨p, hp, rfl⟩ := List.mem_map.mp hr
    obtain ⟨h1, h2⟩ := List.of_mem_zip (a := p.1) (b := p.2) hp
    rw [List.sum_append, sum_mulL (k * e) (fun x => x) p.1, sum_mulL ((n - k) * d) (fun x => x) p.2, List.map_id', List.map_id', ht.ok.sum _ h1, hu.ok.sum _ h2]
    rw [Int.mul_assoc (n - k) d e, Int.mul_comm (n - k) (d * e), Int.mul_sub, Int.mul_assoc k e d, Int.mul_comm k (e * d), Int.mul_comm e d]
    omega
/-! ### guessing is the worth of one for each state -/
def idG (n : Nat) : List (List Int) := (List.range n).map fun k => (List.range n).map fun s => if s = k then 1 else 0
theorem idG_at {n : Nat} {c : List Int} (h : c.length = n) : sumsAt (idG n) c = c := by
  unfold sumsAt idG
  rw [List.map_map]
  conv => rhs; rw [← range_getD c, h]
  refine List.map_congr_left fun k hk => ?_
  have hk := List.mem_range.mp hk
  show dot _ c = _
  rw [dot_sg (n := n) (by rw [List.length_map, List.length_range]) h]
  rw [sg_one hk fun i hi hik => ?_]
  · rw [List.getD_eq_getElem?_getD, List.getElem?_map, List.getElem?_range hk]; simp
  · rw [List.getD_eq_getElem?_getD, List.getElem?_map, List.getElem?_range hi]; simp [hik]
theorem guess_worth (rows : List (List Int)) : guessN rows = worthN rows (idG rows.length) := by
  unfold guessN worthN
  refine sum_congr fun c hc => ?_
  rw [idG_at (col_len hc)]
theorem idG_sta {n : Nat} (h1 : 1 ≤ n) (h2 : n ≤ 6) : IsSta (idG n) ∧ wid (idG n) = n ∧ (idG n).length = n ∧ maxL ((idG n).map List.sum) = 1 := by
  have hl : (idG n).length = n := by unfold idG; rw [List.length_map, List.length_range]
  have hr : ∀ r ∈ idG n, r.length = n ∧ ∀ x ∈ r, x = 0 ∨ x = 1 := fun r hr => by
    obtain ⟨k, hk, rfl⟩ := List.mem_map.mp hr
    refine ⟨by rw [List.length_map, List.length_range], fun x hx => ?_⟩
    obtain ⟨s, hs, rfl⟩ := List.mem_map.mp hx
    split <;> simp
  have hw : wid (idG n) = n := wid_of (by omega) fun r h => (hr r h).1
  have hs : ∀ x ∈ (idG n).map List.sum, x = 1 := fun x hx => by
    obtain ⟨r, hr, rfl⟩ := List.mem_map.mp hx
    obtain ⟨k, hk, rfl⟩ := List.mem_map.mp hr
    have hk := List.mem_range.mp hk
    rw [show ((List.range n).map fun s => if s = k then (1 : Int) else 0).sum = sg n fun s => if s = k then 1 else 0 from sg_list n _]
    rw [sg_one hk fun i hi hik => by rw [if_neg hik], if_pos rfl]
  refine ⟨⟨by omega, by omega, by omega, by omega, fun r h => by rw [hw]; exact (hr r h).1, fun r h x hx => ?_⟩, hw, hl, ?_⟩
  · have s1 : Sm 20 x := by
      show x.natAbs < 2 ^ 20
      rcases (hr r h).2 x hx with rfl | rfl <;> decide
    exact s1.mono (by decide)
  · exact hs _ (maxL_ex fun e => by have := congrArg List.length e; rw [List.length_map, hl] at this; simp at this; omega)
theorem guess_low {d : Int} {rows : List (List Int)} {a b : Nat} (d1 : 1 ≤ d) (h : RowsOk rows d a b) : ratN (guessN (lowR (gcdL (d :: rows.flatten)) rows)) (d / gcdL (d :: rows.flatten)) = ratN (guessN rows) d := by
  rw [guess_worth, guess_worth, show (lowR (gcdL (d :: rows.flatten)) rows).length = rows.length by unfold lowR; rw [List.length_map]]
  exact low_rat d1 h
theorem cols_eit {a b : Int} {rows goal : List (List Int)} (len : goal.length = rows.length) (l1 : 1 ≤ rows.length) (hl : ∀ r ∈ rows, r.length = wid rows) (hl' : ∀ r ∈ goal, r.length = wid goal) (wl : wid (eitR a b rows goal) = wid rows + wid goal) :
    cols (eitR a b rows goal) = (cols rows).map (fun c => c.map (a * ·)) ++ (cols goal).map fun c => c.map (b * ·) := by
  unfold cols
  rw [wl, List.range_add, List.map_append, List.map_map, List.map_map, List.map_map]
  congr 1
  · refine List.map_congr_left fun y hy => ?_
    have hy := List.mem_range.mp hy
    simp only [Function.comp]
    unfold eitR
    rw [List.map_map]
    conv => rhs; rw [← zip_fst len]
    rw [List.map_map, List.map_map]
    refine List.map_congr_left fun p hp => ?_
    obtain ⟨h1, h2⟩ := List.of_mem_zip (a := p.1) (b := p.2) hp
    have := hl _ h1
    simp only [Function.comp]
    rw [List.getD_eq_getElem?_getD, List.getElem?_append_left (by rw [List.length_map]; omega), List.getElem?_map, List.getD_eq_getElem?_getD, List.getElem?_eq_getElem (by omega)]
    rfl
  · refine List.map_congr_left fun y hy => ?_
    have hy := List.mem_range.mp hy
    simp only [Function.comp]
    unfold eitR
    rw [List.map_map]
    conv => rhs; rw [← zip_snd len]
    rw [List.map_map, List.map_map]
    refine List.map_congr_left fun p hp => ?_
    obtain ⟨h1, h2⟩ := List.of_mem_zip (a := p.1) (b := p.2) hp
    have := hl _ h1
    have := hl' _ h2
    simp only [Function.comp]
    rw [List.getD_eq_getElem?_getD, List.getElem?_append_right (by rw [List.length_map]; omega), List.length_map, show wid rows + y - p.1.length = y by omega, List.getElem?_map, List.getD_eq_getElem?_getD, List.getElem?_eq_getElem (by omega)]
    rfl
theorem guess_eit {a b : Int} {rows goal : List (List Int)} (ha : 0 ≤ a) (hb : 0 ≤ b) (h : cols (eitR a b rows goal) = (cols rows).map (fun c => c.map (a * ·)) ++ (cols goal).map fun c => c.map (b * ·)) :
    guessN (eitR a b rows goal) = a * guessN rows + b * guessN goal := by
  unfold guessN
  rw [h, List.map_append, List.sum_append, List.map_map, List.map_map, ← sum_mulL, ← sum_mulL]
  congr 1
  · exact sum_congr fun c _ => maxL_mul ha
  · exact sum_congr fun c _ => maxL_mul hb
/-! ### worth between what one gets unheard and what is guessed -/
theorem dot_le {M : Int} : ∀ {a c : List Int}, (∀ x ∈ a, 0 ≤ x) → (∀ x ∈ c, x ≤ M) → a.length = c.length → dot a c ≤ a.sum * M
  | [], c, _, _, _ => by rw [dot_nil]; simp
  | x :: a, [], _, _, h => by simp at h
  | x :: a, y :: c, ha, hc, h => by
    rw [dot_cons, List.sum_cons, Int.add_mul]
    have h1 := dot_le (M := M) (a := a) (c := c) (fun z hz => ha z (List.mem_cons_of_mem _ hz)) (fun z hz => hc z (List.mem_cons_of_mem _ hz)) (by simpa using h)
    have h2 := Int.mul_le_mul_of_nonneg_left (hc y List.mem_cons_self) (ha x List.mem_cons_self)
    omega
theorem worth_le_guess {rows g : List (List Int)} (hg : 1 ≤ g.length) (lg : ∀ a ∈ g, a.length = rows.length ∧ ∀ x ∈ a, 0 ≤ x) (hnn : ∀ r ∈ rows, ∀ x ∈ r, 0 ≤ x) (l1 : 1 ≤ rows.length) : worthN rows g ≤ guessN rows * maxL (g.map List.sum) := by
  unfold worthN guessN
  rw [← sum_mulR]
  refine sum_le fun c hc => ?_
  have hcl := col_len hc
  refine maxL_le (sumsAt_ne hg) fun x hx => ?_
  obtain ⟨a, ha, rfl⟩ := mem_sumsAt.mp hx
  have h1 := dot_le (M := maxL c) (lg a ha).2 (fun x hx => le_maxL hx) (by rw [(lg a ha).1, hcl])
  have h2 : a.sum ≤ maxL (g.map List.sum) := le_maxL (List.mem_map.mpr ⟨a, ha, rfl⟩)
  have h3 : 0 ≤ maxL c := by
    have hne : c ≠ [] := fun e => by rw [e] at hcl; simp at hcl; omega
    obtain ⟨i, hi, e⟩ := List.mem_iff_getElem.mp (maxL_ex hne)
    have := col_nn hnn hc i
    rw [List.getD_eq_getElem?_getD, List.getElem?_eq_getElem hi] at this
    rw [← e]; exact this
  have h4 := Int.mul_le_mul_of_nonneg_right h2 h3
  rw [Int.mul_comm (maxL c)]
  omega
end J

set_option Elab.async false
set_option linter.all false
set_option maxRecDepth 100000
set_option maxHeartbeats 4000000
/-! J30: what law k92 asks, plainly. -/
namespace J
open PySem PySem.Spec L2 RZ LP
theorem k92_most {D S W M : Int} (hD : 0 < D) (h : W ≤ S * M) : ¬ ((ratN ((ratN S D).1 * M) (ratN S D).2).1 * (ratN W D).2 < (ratN W D).1 * (ratN ((ratN S D).1 * M) (ratN S D).2).2) := by
  obtain ⟨e1, p1, _⟩ := ratN_spec S hD
  refine ratN_nlt p1 hD ?_
  have h1 : W * (ratN S D).2 ≤ S * M * (ratN S D).2 := Int.mul_le_mul_of_nonneg_right h (by omega)
  have h2 : (ratN S D).1 * M * D = S * M * (ratN S D).2 := by
    rw [Int.mul_right_comm, e1, Int.mul_right_comm]
  omega
theorem k92_least {D U W : Int} (hD : 0 < D) (h : U * D ≤ W) : ¬ ((ratN W D).1 * 1 < U * (ratN W D).2) := by
  have := ratN_nlt (a := W) (b := D) (a' := U) (b' := 1) hD (by decide) (by rw [Int.mul_one]; exact h)
  rw [ratN_one] at this
  exact this
theorem k92_mean {d e k n S T : Int} (hd : 0 < d) (he : 0 < e) (hn : 0 < n) :
    ratN (k * e * S + (n - k) * d * T) (d * e * n) = ratN ((ratN S d).1 * k * (ratN T e).2 + (ratN T e).1 * (n - k) * (ratN S d).2) ((ratN S d).2 * (ratN T e).2 * n) := by
  obtain ⟨e1, p1, _⟩ := ratN_spec S hd
  obtain ⟨e2, p2, _⟩ := ratN_spec T he
  refine ratN_eq (Int.mul_pos (Int.mul_pos hd he) hn) (Int.mul_pos (Int.mul_pos p1 p2) hn) ?_
  generalize (ratN S d).1 = a at *
  generalize (ratN S d).2 = b at *
  generalize (ratN T e).1 = u at *
  generalize (ratN T e).2 = v at *
  rw [Int.add_mul, Int.add_mul]
  have h1 : k * e * S * (b * v * n) = a * k * v * (d * e * n) := by
    have : k * e * S * (b * v * n) = (S * b) * (k * e * v * n) := by simp only [Int.mul_assoc, Int.mul_comm, Int.mul_left_comm]
    rw [this, ← e1]
    simp only [Int.mul_assoc, Int.mul_comm, Int.mul_left_comm]
  have h2 : (n - k) * d * T * (b * v * n) = u * (n - k) * b * (d * e * n) := by
    have : (n - k) * d * T * (b * v * n) = (T * v) * ((n - k) * d * b * n) := by simp only [Int.mul_assoc, Int.mul_comm, Int.mul_left_comm]
    rw [this, ← e2]
    simp only [Int.mul_assoc, Int.mul_comm, Int.mul_left_comm]
  rw [h1, h2]
theorem k92_less {d e : Int} {rows goal : List (List Int)} (ht : IsTel d rows) (hu : IsTel e goal) (len : goal.length = rows.length) (h : (ratN (guessN rows) d).1 * (ratN (guessN goal) e).2 < (ratN (guessN goal) e).1 * (ratN (guessN rows) d).2) : ¬ NoLess d rows e goal := by
  rintro ⟨w, g, m⟩
  have l1 := ht.ok.l1
  have d1 := ht.d1
  have e1 := hu.d1
  have := makes_worth ht hu len m (s := idG rows.length) (by unfold idG; rw [List.length_map, List.length_range]; exact l1)
  have e2 := guess_worth goal
  rw [len] at e2
  rw [← guess_worth rows, ← e2] at this
  exact ratN_nlt (by omega) (by omega) this h
theorem tel_telLow {D : Int} {R : List (List Int)} (d1 : 1 ≤ D) (ok : RowsOk R D 6 12) (h : D ≤ 10 ^ 30) : IsTel (D / gcdL (D :: R.flatten)) (lowR (gcdL (D :: R.flatten)) R) ∧ (lowR (gcdL (D :: R.flatten)) R).length = R.length ∧ D / gcdL (D :: R.flatten) ≤ 10 ^ 30 := by
  have h1 : D / gcdL (D :: R.flatten) ≤ 10 ^ 30 := Int.le_trans (Int.ediv_le_self _ (by omega)) h
  exact ⟨tel_low d1 ok h1, by unfold lowR; rw [List.length_map], h1⟩
theorem mul12 {d e : Nat} (h1 : d ≤ 12) (h2 : e ≤ 12) : (d : Int) * e ≤ 144 := by
  have := Nat.mul_le_mul h1 h2
  have : ((d * e : Nat) : Int) ≤ 144 := by omega
  rw [Int.natCast_mul] at this
  exact this
theorem guess_sm {d : Int} {rows : List (List Int)} (ht : IsTel d rows) : Sm 300 (guessN rows) := by
  rw [guess_worth]
  have l1 := ht.ok.l1
  have hs : Sg rows.length 1 (idG rows.length) := ⟨by unfold idG; rw [List.length_map, List.length_range]; exact l1, fun r hr => by
    obtain ⟨k, _, rfl⟩ := List.mem_map.mp hr
    rw [List.length_map, List.length_range], fun r hr x hx => by
    obtain ⟨k, _, rfl⟩ := List.mem_map.mp hr
    obtain ⟨s, _, rfl⟩ := List.mem_map.mp hx
    split <;> omega⟩
  exact W_sm ht hs (by decide) (by decide)
theorem rat_sm2 {d : Int} {rows : List (List Int)} (ht : IsTel d rows) : Sm 300 (ratN (guessN rows) d).1 ∧ Sm 300 (ratN (guessN rows) d).2 ∧ 0 < (ratN (guessN rows) d).2 :=
  ⟨(guess_sm ht).div, ((small_d ht).mono (by decide)).div, (ratN_spec _ (by have := ht.d1; omega)).2.1⟩
theorem sta_idG {n : Nat} : dSta (idG n) = .tup [.str "stakes", .tup ((List.range n).map fun k => dI ((List.range n).map fun s => if s = k then (1 : Int) else 0))] := by
  rw [dSta, dRows, idG, List.map_map]; rfl
end J

set_option Elab.async false
set_option linter.all false
set_option maxRecDepth 100000
set_option maxHeartbeats 4000000
namespace J
open PySem PySem.Spec L2 RZ
def topS (i : Nat) : Stmt := PySem.Challenge.pw_toldnoless_k92_whole_across_the_greatest.main.body.getD i (.Pass ⟨0, 0, 0, 0⟩)
structure Txt (mg : Str → Option Value) : Prop where
  bt : Bt mg
  k_STATES : ∃ t, mg "STATES" = some (.int (6) t)
  k_WORDS : ∃ t, mg "WORDS" = some (.int (12) t)
  k_DIGITS : ∃ t, mg "DIGITS" = some (.int (30) t)
  k_MOST : ∃ t, mg "MOST" = some (.int (10 ^ 30) t)
  k_DEEDS : ∃ t, mg "DEEDS" = some (.int (12) t)
  k_PARTS : ∃ t, mg "PARTS" = some (.int (10 ^ 9) t)
structure TxtC_Table (K : PySem.W.Frag) (C : Addr) : Prop where
  cl_Table : Cls K C
  na_Table_many : NoAttr K C "many"
  na_Table_scale : NoAttr K C "scale"
  na_Table_rows : NoAttr K C "rows"
  na_Table_base : NoAttr K C "base"
  na_Table_costs : NoAttr K C "costs"
end J

set_option Elab.async false
set_option linter.all false
set_option maxRecDepth 100000
set_option maxHeartbeats 4000000
namespace J
open PySem PySem.Spec L2 RZ
local macro_rules | `(tactic| walk_at "jv") => `(tactic| simp only [wSq, wIfS, wOrT, wAndT, wNotT, wB, wIsi, wName, wRet, wC, wNilS, wAndV, wOrV, wNotV, wBin, wUn, wIf, wChain, fI0, fI, fIsN, fNotN, fB, fAdd, fEq, fNe, fIx, wCall, wCons, wNil, wTup, wDrop, wSet, wOwn, wFrzA, wFrzB, wAsg, wPar, wxVal, wxOwn, wxNil, bindX, bindP, bindN, wLs, wLst, wLc, wLc2, lcBody, wYes, wipeE, J.wSeq, wRange1, wRange2, wEnum, wZip, wSl, wSlL, wNoO, wSomeO, wAppend, wExtend, wSetIx, wOwnIx, wOwnLen, wFor, wWhile, fLen, fAbs, fMin2, fMax2, fInt, fSum, fMax, fAll, fAny, fTuple, fList, fCat, fRep, startE, List.map, List.cons_append, List.nil_append, List.getElem?_cons_zero, List.getElem?_cons_succ, List.set_cons_zero, List.set_cons_succ, List.length_cons, List.length_nil, List.replicate, Option.some.injEq, Sl.val.injEq, Sl.own.injEq, D.int.injEq, D.bl.injEq, D.tup.injEq, D.lst.injEq, exists_eq_left', exists_eq_left, exists_eq_right, true_and, and_true, if_true, List.cons.injEq, exists_and_left, exists_const, items_tup, items_lst, isT_tup, isT_lst, atI_0, atI_1, atI_2, addD_int, addD_tup, intD_int, intD_bl, dTel, dRows, dI, dSta, dGar, dRat, tyq_tup, tyq_lst, tyq_int, tyq_str, tyq_bl, tyq_non, isi_tt, isi_ss, isi_ii, isi_ib, shp_eq_int, shp_eq_teller, shp_eq_stakes, shp_eq_garbler, eq_str_self, eq_int, Bool.not_true, Bool.not_false, Bool.false_eq_true, if_false, List.length_map, decide_eq_true_eq, Bool.not_eq_true', decide_eq_false_iff_not, Nat.zero_add, Nat.reduceAdd, ite_true, ite_false, Int.reduceAdd, wDctNew, wDctGet, wDctIx, wDctPut, wDctSorted, fRepT, Sl.dct.injEq, wCallT, fsT, lenI_tup, lenI_lst, lenI_scr, fsD, wDrTurn, wDrRest, wDrCells, wDrAny, wDrPop, wDrSetR, wDrSetT, drIs, wFld, wSetF, wSetFL, wCIx, wCApp, wCSet, wCFrz, wMeth, wMake, fsC, Cell.ins.injEq, Cell.lst.injEq, D.hdl.injEq, lk_many, lk_scale, lk_rows, lk_base, lk_costs, lk_m1, lk_m2, lk_m3, lk_m4, lk_m5, pu_scale, pu_rows, pu_base, pu_costs, setC_same, pp_1, pp_2, pp_3, pp_3', pp_4, pp_5, lk3_rows, lk3_many, lk4_many, ln_0, ln_1, ln_2, ln_3, ln_4, ln_5, wDctC, wDc, dcBody, wDctGetN, wListRg])
abbrev s__law_mixed : Stmt := topS 74
theorem sc__law_mixed : FnScope ["draw", "turn", "found", "prime", "blend", "grain"] ["draw"] (defScope s__law_mixed) := ⟨rfl, rfl, rfl, by decide +kernel, rfl, by decide +kernel, by decide +kernel⟩
abbrev s__law_take : Stmt := topS 75
theorem sc__law_take : FnScope ["draw", "many", "found"] ["draw", "many"] (defScope s__law_take) := ⟨rfl, rfl, rfl, by decide +kernel, rfl, by decide +kernel, by decide +kernel⟩
abbrev s__law_gcd : Stmt := topS 77
theorem sc__law_gcd : FnScope ["one", "other"] ["one", "other"] (defScope s__law_gcd) := ⟨rfl, rfl, rfl, by decide +kernel, rfl, by decide +kernel, by decide +kernel⟩
abbrev s__law_ratio : Stmt := topS 78
theorem sc__law_ratio : FnScope ["above", "below", "part"] ["above", "below"] (defScope s__law_ratio) := ⟨rfl, rfl, rfl, by decide +kernel, rfl, by decide +kernel, by decide +kernel⟩
abbrev s__law_pick : Stmt := topS 76
theorem sc__law_pick : FnScope ["draw", "some"] ["draw", "some"] (defScope s__law_pick) := ⟨rfl, rfl, rfl, by decide +kernel, rfl, by decide +kernel, by decide +kernel⟩
abbrev s__law_row : Stmt := topS 80
theorem sc__law_row : FnScope ["draw", "size", "many", "found", "some", "k", "at"] ["draw", "size", "many"] (defScope s__law_row) := ⟨rfl, rfl, rfl, by decide +kernel, rfl, by decide +kernel, by decide +kernel⟩
abbrev s__law_teller : Stmt := topS 81
theorem sc__law_teller : FnScope ["draw", "many", "most", "size", "count", "rows", "state"] ["draw", "many", "most"] (defScope s__law_teller) := ⟨rfl, rfl, rfl, by decide +kernel, rfl, by decide +kernel, by decide +kernel⟩
abbrev s_is_number : Stmt := topS 13
theorem sc_is_number : FnScope ["thing", "low", "high"] ["thing", "low", "high"] (defScope s_is_number) := ⟨rfl, rfl, rfl, by decide +kernel, rfl, by decide +kernel, by decide +kernel⟩
section
variable {P : Program} {w : World} {K : PySem.W.Frag} {mg : Str → Option Value} {base : Heap}
theorem ok__law_mixed (T : Txt mg)  {f : Addr} {fd : FuncData} (F : Fun K "_law_mixed" "_law_mixed" s__law_mixed f fd) : FnOk P w K mg base CX0 1 f fd ["draw"] (spD K 1 fs__law_mixed) := by
  refine ok_D F sc__law_mixed rfl (fun cdv A outer s H E dl dl2 dc dt hr =>
    (S_cons (S_par2 (i := 1) (j := 2) (by decide) (ps_par (by rfl) sc__law_mixed.nd rfl rfl (by decide) rfl rfl (EX_val (E_bin op_addIT opd_add (E_drTurn (i := 0) (pe_dget (hu1 hr) (pv 0) pe_str (fun _ _ => rfl))) E_int) (EX_val E_int EX_nil)) (by rfl)))
      (S_cons (S_drSetT (i := 0) (ps_dput (hu1 hr) (pv 0) pe_str (E_name (pv 1)) rfl))
      (S_cons (S_for PassesOwn.never rfl (EI_new (EL_lst (EA_cons E_int (EA_cons E_int (EA_cons E_int (EA_cons E_int EA_nil)))))) (EG_name (pg_name (i := 3) sc__law_mixed.nd rfl (by first | exact Or.inl rfl | exact Or.inr rfl))) (S_cons (S_set (i := 4) (ps_set (i := 4) sc__law_mixed.nd rfl (by first | exact Or.inl rfl | exact Or.inr rfl) (E_bin op_addIT opd_add (E_bin op_mulW opd_I E_int (E_name (pv 1))) (E_bin op_fdivW opd_I (E_name (pv 3)) E_int))))
      (S_cons (S_for PassesOwn.never rfl (EI_seq (E_drCells (i := 0) (pe_dget (hu1 hr) (pv 0) pe_str (fun _ _ => rfl)))) (EG_name (pg_name (i := 5) sc__law_mixed.nd rfl (by first | exact Or.inl rfl | exact Or.inr rfl))) (S_one (S_set (i := 4) (ps_set (i := 4) sc__law_mixed.nd rfl (by first | exact Or.inl rfl | exact Or.inr rfl) (E_bin op_modN opd_I (E_cb (fun h => pe_callTy call_int1 rfl T.bt.b_int b_int h) opn_int (EA_cons (E_bin op_addIT opd_add (E_bin op_addIT opd_add (E_bin op_mulW opd_I (E_name (pv 4)) E_int) (E_name (pv 5))) (E_name (pv 1))) EA_nil)) (E_name (pv 3)))))))
      (S_one (S_set (i := 2) (ps_set (i := 2) sc__law_mixed.nd rfl (by first | exact Or.inl rfl | exact Or.inr rfl) (E_bin op_addIT opd_add (E_bin op_mulW opd_I (E_name (pv 2)) E_int) (E_name (pv 4)))))))))
      (S_one (S_ret (E_name (pv 2)))))))) (fun dr ds Φ t hn h => ?_)
  obtain ⟨rfl, h0, h1, hq⟩ := h
  walk_at "jv"
  refine ⟨trivial, by rw [sizeL]; decide, ?_⟩
  refine ⟨fun k ρ t1 => t1 = { t with turn := t.turn + 1 } ∧ ∃ v p b g, ρ = [.val (.hdl dr), .val (.int (t.turn + 1)), .val (.int v), p, b, g] ∧ 0 ≤ v ∧ Sm (200 + 40 * k) v, ⟨rfl, _, _, _, _, rfl, by decide, by unfold Sm; decide⟩, ?_, ?_⟩
  · rintro k ρ t1 e ⟨rfl, v, p, b, g, rfl, hv, sv⟩ he
    have hk : k < 4 := (List.getElem?_eq_some_iff.mp he).1
    obtain ⟨pr, rfl, p0, p1⟩ : ∃ pr : Int, e = .int pr ∧ 0 < pr ∧ pr < 2147483648 := by
      rcases k with _ | _ | _ | _ | k
      · simp at he; exact ⟨_, he.symm, by decide, by decide⟩
      · simp at he; exact ⟨_, he.symm, by decide, by decide⟩
      · simp at he; exact ⟨_, he.symm, by decide, by decide⟩
      · simp at he; exact ⟨_, he.symm, by decide, by decide⟩
      · omega
    have st : Sm 101 (t.turn + 1) := by
      unfold Sm
      have : (2 : Int) ^ 100 + 1 < 2 ^ 101 := by decide
      have e1 : ((2 ^ 101 : Nat) : Int) = 2 ^ 101 := by decide
      omega
    have c1 : CMulW 48271 (t.turn + 1) := Sm.cmul (a := 16) (b := 101) (by unfold Sm; decide) st (by decide) (by decide) (by decide)
    have c2 : CDivW pr 37 := Sm.cdiv (b := 10) (by unfold Sm; decide) (by decide) (by decide) (by decide)
    walk_at "jv"
    refine ⟨c1, c2, trivial, ?_⟩
    have b0 : 0 ≤ 48271 * (t.turn + 1) + pr / 37 := by
      have := Int.ediv_nonneg (Int.le_of_lt p0) (show (0 : Int) ≤ 37 by decide)
      omega
    have b1 : Sm 190 (48271 * (t.turn + 1) + pr / 37) := by
      unfold Sm
      have h2 : pr / 37 ≤ pr := Int.ediv_le_self _ (by omega)
      have e0 : 48271 * ((2 : Int) ^ 100 + 1) + 2147483648 < 2 ^ 190 := by decide
      have e1 : ((2 ^ 190 : Nat) : Int) = 2 ^ 190 := by decide
      omega
    refine ⟨fun j ρ t2 => t2 = { t with turn := t.turn + 1 } ∧ ∃ b g, ρ = [.val (.hdl dr), .val (.int (t.turn + 1)), .val (.int v), .val (.int pr), .val (.int b), g] ∧ 0 ≤ b ∧ Sm 190 b, ⟨rfl, _, _, rfl, b0, b1⟩, ?_, ?_⟩
    · rintro j ρ t2 d ⟨rfl, b, g, rfl, hb, sb⟩ hd
      obtain ⟨gr, _, rfl⟩ := map_at hd
      have c3 : CMulW b 69621 := Sm.cmul (a := 190) (b := 17) sb (by unfold Sm; decide) (by decide) (by decide) (by decide)
      walk_at "jv"
      refine ⟨c3, trivial, trivial, by omega, ?_⟩
      refine ⟨_, _, ⟨rfl, rfl⟩, Int.fmod_nonneg_of_pos _ p0, ?_⟩
      have h1 := Int.fmod_nonneg_of_pos (b * 69621 + gr + (t.turn + 1)) p0
      have h2 := Int.fmod_lt_of_pos (b * 69621 + gr + (t.turn + 1)) p0
      unfold Sm
      have e1 : ((2 ^ 190 : Nat) : Int) = 2 ^ 190 := by decide
      have e2 : (2147483648 : Int) < 2 ^ 190 := by decide
      omega
    · rintro ρ t2 ⟨rfl, b, g, rfl, hb, sb⟩
      have c4 : CMulW v 2147483648 := Sm.cmul (a := 400) (b := 32) (sv.mono (by omega)) (by unfold Sm; decide) (by decide) (by decide) (by decide)
      walk_at "jv"
      refine ⟨c4, trivial, _, _, _, _, ⟨rfl, rfl, rfl, rfl⟩, by omega, ?_⟩
      have s1 : (v * 2147483648).natAbs < 2 ^ (200 + 40 * k + 32) := Sm.mul sv (show Sm 32 2147483648 by unfold Sm; decide)
      unfold Sm at sb ⊢
      have e1 : 2 ^ (200 + 40 * (k + 1)) = 2 ^ (200 + 40 * k + 32) * 2 ^ 8 := by rw [← Nat.pow_add, show 200 + 40 * (k + 1) = 200 + 40 * k + 32 + 8 by omega]
      have e2 : 2 ^ 190 ≤ 2 ^ (200 + 40 * k + 32) := Nat.pow_le_pow_right (by decide) (by omega)
      rw [e1]
      omega
  · rintro ρ t1 ⟨rfl, v, p, b, g, rfl, hv, sv⟩
    walk_at "jv"
    exact hq v hv

theorem ok__law_take (T : Txt mg) (c__law_mixed : Cal P w K mg base 1 "_law_mixed" ["draw"] (spD K 1 fs__law_mixed)) {f : Addr} {fd : FuncData} (F : Fun K "_law_take" "_law_take" s__law_take f fd) : FnOk P w K mg base CX0 2 f fd ["draw", "many"] (spD K 2 fs__law_take) := by
  refine ok_D F sc__law_take rfl (fun cdv A outer s H E dl dl2 dc dt hr =>
    (S_cons (S_if (EB_cmp (op_eqD hr.units) opd_eq (E_drRest (i := 0) (pe_dget (hu1 hr) (pv 0) pe_str (fun _ _ => rfl))) E_int (nomark _)) (S_one (S_drSetR (i := 0) (ps_dput (hu1 hr) (pv 0) pe_str (E_if (EB_drAny (i := 0) (pt_cmpR (op_neD hr.units) (pe_dget (hu1 hr) (pv 0) pe_str (fun _ _ => rfl)) (pe_lst pa_nil) (nomark _))) (E_drPop (i := 0) (pe_bm PySem.F.plainAttrs_list PySem.F.slot_list_pop PySem.F.type_list_pop mt_popAt (pe_dget (hu1 hr) (pv 0) pe_str (fun _ _ => rfl)) (pa_cons pe_int pa_nil))) (E_callC c__law_mixed (hr.mono (by decide)) rfl tk_D (EA_cons (E_name (pv 0)) EA_nil))) rfl))) S_nil)
      (S_cons (S_set (i := 2) (ps_set (i := 2) sc__law_take.nd rfl (by first | exact Or.inl rfl | exact Or.inr rfl) (E_bin op_modN opd_I (E_cb (fun h => pe_callTy call_int1 rfl T.bt.b_int b_int h) opn_int (EA_cons (E_drRest (i := 0) (pe_dget (hu1 hr) (pv 0) pe_str (fun _ _ => rfl))) EA_nil)) (E_name (pv 1)))))
      (S_cons (S_drSetR (i := 0) (ps_dput (hu1 hr) (pv 0) pe_str (E_bin op_fdivW opd_I (E_cb (fun h => pe_callTy call_int1 rfl T.bt.b_int b_int h) opn_int (EA_cons (E_drRest (i := 0) (pe_dget (hu1 hr) (pv 0) pe_str (fun _ _ => rfl))) EA_nil)) (E_name (pv 1))) rfl))
      (S_one (S_ret (E_name (pv 2)))))))) (fun dr ds Φ t hn h => ?_)
  obtain ⟨many, rfl, h0, h1, n, hb, hn9, hq⟩ := h
  have hm : many ≠ 0 := by omega
  have cd : ∀ x, CDivW x many := fun x => Sm.cdiv h1 h0 (by decide) (by decide)
  have fin : ∀ (x : Int) (t' : DS), 0 ≤ x → Dr (n + 1) t' → t'.rest = x / many → Φ (.int (x.fmod many)) t' := fun x t' hx ht _ => hq _ _ (Int.fmod_nonneg_of_pos _ h0) (Int.fmod_lt_of_pos _ h0) ht
  have dv : ∀ x : Int, 0 ≤ x → 0 ≤ x / many := fun x hx => Int.ediv_nonneg hx (by omega)
  walk_at "jv"
  by_cases hr : t.rest = 0
  · rw [if_pos hr]
    cases hl : t.large with
    | cons x r =>
      simp
      have hx : 0 ≤ x := hb.l0 x (by rw [hl]; exact List.mem_cons_self)
      refine ⟨x, r, ⟨rfl, rfl⟩, hm, cd x, fin x _ hx ⟨dv x hx, fun y hy => hb.l0 y (by rw [hl]; exact List.mem_cons_of_mem _ hy), hb.t0, ?_⟩ rfl⟩
      have := hb.tn
      show t.turn ≤ ((n + 1 : Nat) : Int)
      omega
    | nil =>
      simp
      have e2 : (1000000 : Int) < 2 ^ 100 := by decide
      have := hb.tn
      have t0 := hb.t0
      refine ⟨rfl, t0, by omega, fun v hv => ⟨v, rfl, hm, cd v, fin v _ hv ⟨dv v hv, fun y hy => by rw [hl] at hy; simp at hy, ?_, ?_⟩ rfl⟩⟩
      · show 0 ≤ t.turn + 1
        omega
      · show t.turn + 1 ≤ ((n + 1 : Nat) : Int)
        omega
  · rw [if_neg hr]
    refine ⟨hm, cd _, fin _ _ hb.r0 ⟨dv _ hb.r0, hb.l0, hb.t0, ?_⟩ rfl⟩
    have := hb.tn
    show t.turn ≤ ((n + 1 : Nat) : Int)
    omega

theorem ok__law_gcd (T : Txt mg)  {f : Addr} {fd : FuncData} (F : Fun K "_law_gcd" "_law_gcd" s__law_gcd f fd) : FnOk P w K mg base CX0 1 f fd ["one", "other"] (spP K 2 fs__law_gcd) := by
  refine ok_P F sc__law_gcd rfl (fun cdv A outer s H E hr =>
    (S_cons (S_while PassesOwn.never (EB_cmp (op_neD hr.units) opd_ne (E_name (pv 1)) E_int (nomark _)) (S_one (S_par2 (i := 0) (j := 1) (by decide) (ps_par (by rfl) sc__law_gcd.nd rfl rfl (by decide) rfl rfl (EX_val (E_name (pv 1)) (EX_val (E_bin op_modN opd_I (E_name (pv 0)) (E_name (pv 1))) EX_nil)) (by rfl)))))
      (S_one (S_ret (E_cb (fun h => pe_callB call_abs rfl T.bt.b_abs b_abs h) opn_abs (EA_cons (E_name (pv 0)) EA_nil)))))) (fun ds Φ hn h => ?_)
  obtain ⟨a, b, rfl, hq⟩ := h
  walk_at "jv"
  refine ⟨fun m ρ _ => ∃ x y : Int, ρ = [.val (.int x), .val (.int y)] ∧ gcdI x y = gcdI a b ∧ m = y.natAbs, ⟨_, a, b, rfl, rfl, rfl⟩, ?_⟩
  rintro m ρ _ ⟨x, y, rfl, hg, rfl⟩
  walk_at "jv"
  by_cases hy : y = 0
  · subst hy
    simp
    rw [← gcdI_zero, hg]
    exact hq
  · simp [hy]
    exact ⟨_, fmod_lt x hy, y, x.fmod y, ⟨rfl, rfl⟩, (gcdI_fmod x y).trans hg, rfl⟩

theorem ok__law_ratio (T : Txt mg) (c__law_gcd : Cal P w K mg base 1 "_law_gcd" ["one", "other"] (spP K 2 fs__law_gcd)) {f : Addr} {fd : FuncData} (F : Fun K "_law_ratio" "_law_ratio" s__law_ratio f fd) : FnOk P w K mg base CX0 2 f fd ["above", "below"] (spP K 2 fs__law_ratio) := by
  refine ok_P F sc__law_ratio rfl (fun cdv A outer s H E hr =>
    (S_cons (S_set (i := 2) (ps_set (i := 2) sc__law_ratio.nd rfl (by first | exact Or.inl rfl | exact Or.inr rfl) (E_callC c__law_gcd (hr.mono (by decide)) rfl tk_P (EA_cons (E_name (pv 0)) (EA_cons (E_name (pv 1)) EA_nil)))))
      (S_one (S_ret (E_tup (EA_cons (E_bin op_fdivW opd_I (E_name (pv 0)) (E_name (pv 2))) (EA_cons (E_bin op_fdivW opd_I (E_name (pv 1)) (E_name (pv 2))) EA_nil))))))) (fun ds Φ hn h => ?_)
  obtain ⟨a, b, rfl, hb, hs, hq⟩ := h
  walk_at "jv"
  refine ⟨a, b, rfl, ?_⟩
  have h1 : 0 < gcdI a b := gcdI_pos hb
  have h2 := gcdI_le (a := a) hb
  have h3 : CDivW a (gcdI a b) := wide_div h1 (wide_le (Int.le_of_lt h1) h2 hs) (by decide) (by decide)
  exact ⟨_, rfl, h3, _, rfl, h3, by decide, hq⟩

theorem ok__law_pick (T : Txt mg) (c__law_take : Cal P w K mg base 2 "_law_take" ["draw", "many"] (spD K 2 fs__law_take)) {f : Addr} {fd : FuncData} (F : Fun K "_law_pick" "_law_pick" s__law_pick f fd) : FnOk P w K mg base CX0 3 f fd ["draw", "some"] (spD K 2 fs__law_pick) := by
  refine ok_D F sc__law_pick rfl (fun cdv A outer s H E dl dl2 dc dt hr =>
    (S_one (S_ret (E_ix (E_name (pv 1)) (E_callC c__law_take (hr.mono (by decide)) rfl tk_D (EA_cons (E_name (pv 0)) (EA_cons (E_cb (fun h => pe_callB call_len_seq rfl T.bt.b_len b_len h) opn_len (EA_cons (E_name (pv 1)) EA_nil)) EA_nil))))))) (fun dr ds Φ t hn h => ?_)
  obtain ⟨d, xs, rfl, hi, h0, h1, n, hb, hn9, hq⟩ := h
  have hl : d.lenI = some xs := by
    cases d with
    | tup ds => exact hi
    | lst ds => exact hi
    | _ => cases hi
  walk_at "jv"
  refine ⟨xs, hl, _, rfl, by omega, sm_small (by omega) (by omega), n, hb, hn9, fun r t' r0 r1 ht => ?_⟩
  obtain ⟨j, rfl⟩ := Int.eq_ofNat_of_zero_le r0
  have hj : j < xs.length := by omega
  refine ⟨_, rfl, xs, hi, xs[j], atI_nat (List.getElem?_eq_getElem hj), hq _ _ (List.getElem_mem hj) ht⟩

theorem ok__law_row (T : Txt mg) (c__law_pick : Cal P w K mg base 3 "_law_pick" ["draw", "some"] (spD K 2 fs__law_pick)) (c__law_take : Cal P w K mg base 2 "_law_take" ["draw", "many"] (spD K 2 fs__law_take)) {f : Addr} {fd : FuncData} (F : Fun K "_law_row" "_law_row" s__law_row f fd) : FnOk P w K mg base CX0 4 f fd ["draw", "size", "many"] (spD K 3 fs__law_row) := by
  refine ok_D F sc__law_row rfl (fun cdv A outer s H E dl dl2 dc dt hr =>
    (S_cons (S_par2 (i := 3) (j := 4) (by decide) (ps_par (by rfl) sc__law_row.nd rfl rfl (by decide) rfl rfl (EX_own (EL_bin op_repR opd_rep (E_ls (EL_lst (EA_cons E_int EA_nil))) (E_name (pv 2))) (EX_val (E_ls (EL_lc (own := [("k", 5)]) rfl sc__law_row.nd (blkOk_by (by first | decide +kernel | rfl)) (by decide) (EI_range1 (fun h => pi_range1 rfl T.bt.b_range h) (EA_cons (E_bin op_addIT opd_add E_int (E_callC c__law_take (hr.mono (by decide)) rfl tk_D (EA_cons (E_name (pv 0)) (EA_cons E_int EA_nil)))) EA_nil)) (fun _ _ _ _ _ => (EG_name (pg_name (i := 5) sc__law_row.nd rfl (by first | exact Or.inl rfl | exact Or.inr rfl)))) (fun _ _ _ _ _ => ETs_nil) (fun _ _ _ _ _ => (E_callC c__law_take (hr.mono (by decide)) rfl tk_D (EA_cons (E_name (pv 0)) (EA_cons (E_name (pv 2)) EA_nil)))))) EX_nil)) (by rfl)))
      (S_cons (S_for PassesOwn.never rfl (EI_range1 (fun h => pi_range1 rfl T.bt.b_range h) (EA_cons (E_name (pv 1)) EA_nil)) (EG_name (pg_name (i := 5) sc__law_row.nd rfl (by first | exact Or.inl rfl | exact Or.inr rfl))) (S_cons (S_set (i := 6) (ps_set (i := 6) sc__law_row.nd rfl (by first | exact Or.inl rfl | exact Or.inr rfl) (E_callC c__law_pick (hr.mono (by decide)) rfl tk_D (EA_cons (E_name (pv 0)) (EA_cons (E_name (pv 4)) EA_nil)))))
      (S_one (S_setIx (i := 3) (ps_asg (E_bin op_addIT opd_add (E_ownIx (pe_ix ix_list (pv 3) (E_name (pv 6)) (fun _ _ => rfl))) E_int) (pg_sub (pv 3) (E_name (pv 6)) set_list))))))
      (S_one (S_frzB (i := 3) (S_ret (E_cb (fun h => pe_callTy call_tuple_of rfl T.bt.b_tuple b_tuple h) opn_tuple (EA_cons (E_name (pv 3)) EA_nil)))))))) (fun dr ds Φ t hn h => ?_)
  obtain ⟨size, many, rfl, hs, m1, m2, n, hb, hn, hq⟩ := h
  walk_at "jv"
  refine ⟨by rw [sizeL]; decide, by omega, by omega, by rw [sizeL]; omega, ?_⟩
  refine ⟨4, rfl, by decide, sm_small (by decide) (by decide), n, hb, by omega, fun r t' r0 r1 ht => ?_⟩
  walk_at "jv"
  refine ⟨trivial, by omega, by omega, by rw [rangeD_len, sizeL]; omega, ?_⟩
  refine lcRun_inv (fun k acc t => Dr (n + 1 + k) t ∧ ∃ ns : List Int, acc = ns.map .int ∧ ns.length = k ∧ ∀ x ∈ ns, 0 ≤ x ∧ x < many) _ ⟨ht, [], rfl, rfl, by simp⟩ ?_ ?_
  · rintro k d acc K t1 hd ⟨hb1, ns, rfl, hl, hx⟩ hK
    have hk : k < 4 := by
      have := (List.getElem?_eq_some_iff.mp hd).1
      rw [rangeD_len] at this
      omega
    walk_at "jv"
    refine ⟨many, rfl, by omega, sm_small (by omega) (by omega), _, hb1, by omega, fun r2 t2 r20 r21 ht2 => ?_⟩
    refine hK [.int r2] t2 ⟨ht2, ns ++ [r2], by simp, by simp [hl], fun x hx' => ?_⟩
    rcases List.mem_append.mp hx' with h | h
    · exact hx x h
    · simp at h; subst h; exact ⟨r20, r21⟩
  · rintro acc t1 ⟨hb1, ns, rfl, hl, hx⟩
    rw [rangeD_len] at hl hb1
    have hns : 0 < ns.length := by omega
    have hns4 : ns.length ≤ 4 := by omega
    have hb1 : Dr (n + 5) t1 := hb1.mono (by omega)
    refine ⟨by omega, by omega, ?_⟩
    rw [Int.toNat_natCast, Int.toNat_natCast]
    refine ⟨fun k ρ t => Dr (n + 5 + k) t ∧ ∃ (f : List Int) (u v : Sl), ρ = [.val (.hdl dr), .val (.int size), .val (.int many), .own (f.map .int), .val (.lst (ns.map .int)), u, v] ∧ f.length = many ∧ (∀ x ∈ f, 0 ≤ x) ∧ f.sum = k, ⟨hb1, List.replicate many 0, _, _, by rw [rep_ints], by simp, by simp, by rw [sum_rep0]; rfl⟩, ?_, ?_⟩
    · rintro k ρ t2 e ⟨hb2, f, u, v, rfl, fl, f0, fsum⟩ he
      obtain ⟨hk, rfl⟩ := range_at he
      walk_at "jv"
      refine ⟨_, _, rfl, rfl, by rw [List.length_map]; exact hns, by rw [List.length_map]; omega, _, hb2, by omega, fun x t3 hxm ht3 => ?_⟩
      obtain ⟨at', ham, rfl⟩ := List.mem_map.mp hxm
      obtain ⟨a0, a1⟩ := hx at' ham
      obtain ⟨j, rfl⟩ := Int.eq_ofNat_of_zero_le a0
      have hj : j < f.length := by omega
      walk_at "jv"
      refine ⟨.int f[j], by rw [atI_map, atI_nat (List.getElem?_eq_getElem hj)]; rfl, _, rfl, trivial, j, ixN_nat hj, ht3.mono (by omega), f.set j (f[j] + 1), _, _, ⟨by rw [List.map_set], rfl, rfl⟩, by rw [List.length_set]; exact fl, fun x hx' => ?_, ?_⟩
      · rcases List.mem_or_eq_of_mem_set hx' with h | h
        · exact f0 x h
        · have := f0 _ (List.getElem_mem hj)
          omega
      · rw [set_sum f j f[j] _ (List.getElem?_eq_getElem hj), fsum]
        omega
    · rintro ρ t2 ⟨hb2, f, u, v, rfl, fl, f0, fsum⟩
      rw [rangeD_len] at hb2 fsum
      walk_at "jv"
      exact hq f t2 fl f0 fsum (hb2.mono (by omega))

theorem ok__law_teller (T : Txt mg) (c__law_row : Cal P w K mg base 4 "_law_row" ["draw", "size", "many"] (spD K 3 fs__law_row)) (c__law_take : Cal P w K mg base 2 "_law_take" ["draw", "many"] (spD K 2 fs__law_take)) {f : Addr} {fd : FuncData} (F : Fun K "_law_teller" "_law_teller" s__law_teller f fd) : FnOk P w K mg base CX0 5 f fd ["draw", "many", "most"] (spD K 3 fs__law_teller) := by
  refine ok_D F sc__law_teller rfl (fun cdv A outer s H E dl dl2 dc dt hr =>
    (S_cons (S_asg (ps_asg (E_tup (EA_cons (E_bin op_addIT opd_add E_int (E_callC c__law_take (hr.mono (by decide)) rfl tk_D (EA_cons (E_name (pv 0)) (EA_cons E_int EA_nil)))) (EA_cons (E_bin op_addIT opd_add E_int (E_callC c__law_take (hr.mono (by decide)) rfl tk_D (EA_cons (E_name (pv 0)) (EA_cons (E_name (pv 2)) EA_nil)))) EA_nil))) (EG_tup (is := [3, 4]) rfl (pg_tup rfl (pgs_cons (pg_name (i := 3) sc__law_teller.nd rfl (by first | exact Or.inl rfl | exact Or.inr rfl)) (pgs_cons (pg_name (i := 4) sc__law_teller.nd rfl (by first | exact Or.inl rfl | exact Or.inr rfl)) pgs_nil))))))
      (S_cons (S_frzA (i := 5) (S_own (i := 5) (PS_setLc (i := 5) (own := [("state", 6)]) rfl sc__law_teller.nd (blkOk_by (by first | decide +kernel | rfl)) (by decide) (EI_range1 (fun h => pi_range1 rfl T.bt.b_range h) (EA_cons (E_name (pv 1)) EA_nil)) (fun _ _ _ _ _ => (EG_name (pg_name (i := 6) sc__law_teller.nd rfl (by first | exact Or.inl rfl | exact Or.inr rfl)))) (fun _ _ _ _ _ => ETs_nil) (fun _ _ _ _ _ => (E_callC c__law_row (hr.mono (by decide)) rfl tk_D (EA_cons (E_name (pv 0)) (EA_cons (E_name (pv 3)) (EA_cons (E_name (pv 4)) EA_nil))))))))
      (S_cons (S_if (EB_cmp (op_eqD hr.units) opd_eq (E_callC c__law_take (hr.mono (by decide)) rfl tk_D (EA_cons (E_name (pv 0)) (EA_cons E_int EA_nil))) E_int (nomark _)) (S_one (S_set (i := 5) (ps_set (i := 5) sc__law_teller.nd rfl (by first | exact Or.inl rfl | exact Or.inr rfl) (E_ls (EL_bin op_repR opd_rep (E_ls (EL_lst (EA_cons (E_ix (E_name (pv 5)) E_int) EA_nil))) (E_name (pv 1))))))) S_nil)
      (S_one (S_ret (E_tup (EA_cons E_str (EA_cons (E_name (pv 3)) (EA_cons (E_cb (fun h => pe_callTy call_tuple_of rfl T.bt.b_tuple b_tuple h) opn_tuple (EA_cons (E_name (pv 5)) EA_nil)) EA_nil)))))))))) (fun dr ds Φ t hn h => ?_)
  obtain ⟨many, most, rfl, m1, m2, o1, o2, n, hb, hn, hq⟩ := h
  walk_at "jv"
  refine ⟨12, rfl, by decide, sm_small (by decide) (by decide), n, hb, by omega, fun r t1 r0 r1 ht1 => ?_⟩
  obtain ⟨size, hsz⟩ := Int.eq_ofNat_of_zero_le (show 0 ≤ 1 + r by omega)
  walk_at "jv"
  rw [hsz]
  refine ⟨trivial, most, rfl, by omega, sm_small (by omega) (by omega), _, ht1, by omega, fun r2 t2 r20 r21 ht2 => ?_⟩
  obtain ⟨count, hct⟩ := Int.eq_ofNat_of_zero_le (show 0 ≤ 1 + r2 by omega)
  walk_at "jv"
  rw [hct]
  refine ⟨trivial, by rw [sizeL]; decide, by omega, by omega, by rw [rangeD_len, sizeL]; omega, ?_⟩
  rw [Int.toNat_natCast]
  refine lcRun_inv (fun k acc t => Dr (n + 2 + 17 * k) t ∧ ∃ rows : List (List Int), acc = rows.map (fun r => dI r) ∧ rows.length = k ∧ ∀ r ∈ rows, r.length = count ∧ (∀ x ∈ r, 0 ≤ x) ∧ r.sum = size) _ ⟨ht2, [], rfl, rfl, by simp⟩ ?_ ?_
  · rintro k d acc K t3 hd ⟨hb1, rows, rfl, hl, hx⟩ hK
    obtain ⟨hk, rfl⟩ := range_at hd
    walk_at "jv"
    refine ⟨size, count, rfl, by omega, by omega, by omega, _, hb1, by omega, fun r3 t4 h1 h2 h3 ht4 => ?_⟩
    refine hK [dI r3] t4 ⟨ht4.mono (by omega), rows ++ [r3], by simp, by simp [hl], fun r hr => ?_⟩
    rcases List.mem_append.mp hr with h | h
    · exact hx r h
    · simp at h; subst h; exact ⟨h1, h2, h3⟩
  · rintro acc t3 ⟨hb1, rows, rfl, hl, hx⟩
    rw [rangeD_len] at hl hb1
    have fin : ∀ (rows : List (List Int)) t', rows.length = many → (∀ r ∈ rows, r.length = count ∧ (∀ x ∈ r, 0 ≤ x) ∧ r.sum = size) → Dr (n + 105) t' → Φ (dTel size rows) t' := fun rows t' hl hx ht' => by
      obtain ⟨r9, rs, hr, hw⟩ := head_wid (rows := rows) (by omega)
      have hw' : wid rows = count := by rw [hw]; exact (hx r9 (by rw [hr]; exact List.mem_cons_self)).1
      have hsz : (1 : Int) ≤ size := by omega
      refine hq size rows t' (by omega) ⟨hsz, ?_, ⟨by omega, by omega, by omega, by omega, fun r h => by rw [hw']; exact (hx r h).1, fun r h => (hx r h).2.1, fun r h => (hx r h).2.2⟩⟩ hl (by omega) ht'
      have : (12 : Int) ≤ 10 ^ 30 := by decide
      omega
    refine ⟨6, rfl, by decide, sm_small (by decide) (by decide), _, hb1, by omega, fun r4 t4 r40 r41 ht4 => ?_⟩
    walk_at "jv"
    by_cases h6 : r4 = 0
    · rw [if_pos h6]
      obtain ⟨r9, rs, hr, hw⟩ := head_wid (rows := rows) (by omega)
      refine ⟨dI r9, by rw [hr, List.map_cons]; exact atI_0 _ _, by rw [sizeL]; decide, by omega, by omega, by rw [sizeL]; omega, by rw [sizeL]; decide, ?_⟩
      have := fin (List.replicate many r9) t4 (by rw [List.length_replicate]) (fun r h => by rw [List.eq_of_mem_replicate h]; exact hx r9 (by rw [hr]; exact List.mem_cons_self)) (ht4.mono (by omega))
      rw [rep_flat]
      rw [dTel, dRows, List.map_replicate] at this
      exact this
    · rw [if_neg h6]
      exact ⟨by rw [sizeL]; decide, fin rows t4 hl hx (ht4.mono (by omega))⟩

theorem ok_is_number (T : Txt mg)  {f : Addr} {fd : FuncData} (F : Fun K "is_number" "is_number" s_is_number f fd) : FnOk P w K mg base CX0 1 f fd ["thing", "low", "high"] (spP K 3 fs_is_number) := by
  refine ok_P F sc_is_number rfl (fun cdv A outer s H E hr =>
    (S_cons (S_if (PW.pt (EB_or (EB_val (E_isi (ty := "bool") (by decide) (fun h => pe_callB call_isi rfl T.bt.b_isinstance b_isinstance (pa_cons h (pa_cons (pe_bltn rfl T.bt.b_bool b_bool rfl) pa_nil))) (E_name (pv 0)))) (EB_or1 (EB_not (EB_val (E_isi (ty := "int") (by decide) (fun h => pe_callB call_isi rfl T.bt.b_isinstance b_isinstance (pa_cons h (pa_cons (pe_bltn rfl T.bt.b_int b_int rfl) pa_nil))) (E_name (pv 0)))))))) (S_one (S_ret E_bl)) S_nil)
      (S_one (S_ret (E_and (E_cmp op_ge opd_B0 (E_name (pv 0)) (E_name (pv 1)) (nomark _)) (E_one (E_or (E_cmp op_isN opd_isN (E_name (pv 2)) E_non (nomark _)) (E_one (E_cmp op_le opd_B0 (E_name (pv 0)) (E_name (pv 2)) (nomark _)))))))))) (fun ds Φ hn h => ?_)
  obtain ⟨d, lo, hi, rfl, hd, hq⟩ := h
  walk_at "jv"
  cases d <;> cases hi <;> simp_all [isNum, D.ty, isiB, optI] <;> split <;> simp_all

end
end J

set_option Elab.async false
set_option linter.all false
set_option maxRecDepth 100000
set_option maxHeartbeats 4000000
namespace J
open PySem PySem.Spec L2 RZ
local macro_rules | `(tactic| walk_at "jv") => `(tactic| simp only [wSq, wIfS, wOrT, wAndT, wNotT, wB, wIsi, wName, wRet, wC, wNilS, wAndV, wOrV, wNotV, wBin, wUn, wIf, wChain, fI0, fI, fIsN, fNotN, fB, fAdd, fEq, fNe, fIx, wCall, wCons, wNil, wTup, wDrop, wSet, wOwn, wFrzA, wFrzB, wAsg, wPar, wxVal, wxOwn, wxNil, bindX, bindP, bindN, wLs, wLst, wLc, wLc2, lcBody, wYes, wipeE, J.wSeq, wRange1, wRange2, wEnum, wZip, wSl, wSlL, wNoO, wSomeO, wAppend, wExtend, wSetIx, wOwnIx, wOwnLen, wFor, wWhile, fLen, fAbs, fMin2, fMax2, fInt, fSum, fMax, fAll, fAny, fTuple, fList, fCat, fRep, startE, List.map, List.cons_append, List.nil_append, List.getElem?_cons_zero, List.getElem?_cons_succ, List.set_cons_zero, List.set_cons_succ, List.length_cons, List.length_nil, List.replicate, Option.some.injEq, Sl.val.injEq, Sl.own.injEq, D.int.injEq, D.bl.injEq, D.tup.injEq, D.lst.injEq, exists_eq_left', exists_eq_left, exists_eq_right, true_and, and_true, if_true, List.cons.injEq, exists_and_left, exists_const, items_tup, items_lst, isT_tup, isT_lst, atI_0, atI_1, atI_2, addD_int, addD_tup, intD_int, intD_bl, dTel, dRows, dI, dSta, dGar, dRat, tyq_tup, tyq_lst, tyq_int, tyq_str, tyq_bl, tyq_non, isi_tt, isi_ss, isi_ii, isi_ib, shp_eq_int, shp_eq_teller, shp_eq_stakes, shp_eq_garbler, eq_str_self, eq_int, Bool.not_true, Bool.not_false, Bool.false_eq_true, if_false, List.length_map, decide_eq_true_eq, Bool.not_eq_true', decide_eq_false_iff_not, Nat.zero_add, Nat.reduceAdd, ite_true, ite_false, Int.reduceAdd, wDctNew, wDctGet, wDctIx, wDctPut, wDctSorted, fRepT, Sl.dct.injEq, wCallT, fsT, lenI_tup, lenI_lst, lenI_scr, fsD, wDrTurn, wDrRest, wDrCells, wDrAny, wDrPop, wDrSetR, wDrSetT, drIs, wFld, wSetF, wSetFL, wCIx, wCApp, wCSet, wCFrz, wMeth, wMake, fsC, Cell.ins.injEq, Cell.lst.injEq, D.hdl.injEq, lk_many, lk_scale, lk_rows, lk_base, lk_costs, lk_m1, lk_m2, lk_m3, lk_m4, lk_m5, pu_scale, pu_rows, pu_base, pu_costs, setC_same, pp_1, pp_2, pp_3, pp_3', pp_4, pp_5, lk3_rows, lk3_many, lk4_many, ln_0, ln_1, ln_2, ln_3, ln_4, ln_5, wDctC, wDc, dcBody, wDctGetN, wListRg])
abbrev s_are_rows_tellers : Stmt := topS 19
theorem sc_are_rows_tellers : FnScope ["thing", "total", "most", "wide", "row", "one"] ["thing", "total", "most", "wide"] (defScope s_are_rows_tellers) := ⟨rfl, rfl, rfl, by decide +kernel, rfl, by decide +kernel, by decide +kernel⟩
abbrev s_is_teller : Stmt := topS 20
theorem sc_is_teller : FnScope ["thing"] ["thing"] (defScope s_is_teller) := ⟨rfl, rfl, rfl, by decide +kernel, rfl, by decide +kernel, by decide +kernel⟩
abbrev s_check_one : Stmt := topS 22
theorem sc_check_one : FnScope ["one"] ["one"] (defScope s_check_one) := ⟨rfl, rfl, rfl, by decide +kernel, rfl, by decide +kernel, by decide +kernel⟩
abbrev s_check_other : Stmt := topS 23
theorem sc_check_other : FnScope ["one", "other"] ["one", "other"] (defScope s_check_other) := ⟨rfl, rfl, rfl, by decide +kernel, rfl, by decide +kernel, by decide +kernel⟩
abbrev s_check_both : Stmt := topS 24
theorem sc_check_both : FnScope ["one", "other"] ["one", "other"] (defScope s_check_both) := ⟨rfl, rfl, rfl, by decide +kernel, rfl, by decide +kernel, by decide +kernel⟩
abbrev s_divisor : Stmt := topS 14
theorem sc_divisor : FnScope ["one", "other"] ["one", "other"] (defScope s_divisor) := ⟨rfl, rfl, rfl, by decide +kernel, rfl, by decide +kernel, by decide +kernel⟩
abbrev s_common_tellers : Stmt := topS 15
theorem sc_common_tellers : FnScope ["numbers", "found", "number"] ["numbers"] (defScope s_common_tellers) := ⟨rfl, rfl, rfl, by decide +kernel, rfl, by decide +kernel, by decide +kernel⟩
abbrev s_made : Stmt := topS 25
theorem sc_made : FnScope ["d", "rows", "by", "row", "one"] ["d", "rows"] (defScope s_made) := ⟨rfl, rfl, rfl, by decide +kernel, rfl, by decide +kernel, by decide +kernel⟩
section
variable {P : Program} {w : World} {K : PySem.W.Frag} {mg : Str → Option Value} {base : Heap}
theorem ok_are_rows_tellers (T : Txt mg) (c_is_number : Cal P w K mg base 1 "is_number" ["thing", "low", "high"] (spP K 3 fs_is_number)) {f : Addr} {fd : FuncData} (F : Fun K "are_rows" "are_rows" s_are_rows_tellers f fd) : FnOk P w K mg base CX0 2 f fd ["thing", "total", "most", "wide"] (spP K 4 fs_are_rows_tellers) := by
  refine ok_P F sc_are_rows_tellers rfl (fun cdv A outer s H E hr =>
    (S_cons (S_if (PW.pt (EB_or (EB_not (EB_val (E_isi (ty := "tuple") (by decide) (fun h => pe_callB call_isi rfl T.bt.b_isinstance b_isinstance (pa_cons h (pa_cons (pe_bltn rfl T.bt.b_tuple b_tuple rfl) pa_nil))) (E_name (pv 0))))) (EB_or1 (EB_not (EB_chain op_le op_le opd_B0 opd_B0 E_int (E_cb (fun h => pe_callB call_len_seq rfl T.bt.b_len b_len h) opn_len (EA_cons (E_name (pv 0)) EA_nil)) (E_name (pv 2))))))) (S_one (S_ret E_bl)) S_nil)
      (S_cons (S_if (EB_not (EB_val (E_cb (fun h => pe_callB (cr_all rfl) rfl T.bt.b_all b_all h) opn_all (EA_cons (E_ls (EL_lc (own := [("row", 4)]) rfl sc_are_rows_tellers.nd (blkOk_by (by first | decide +kernel | rfl)) (by decide) (EI_seq (E_name (pv 0))) (fun _ _ _ _ _ => (EG_name (pg_name (i := 4) sc_are_rows_tellers.nd rfl (by first | exact Or.inl rfl | exact Or.inr rfl)))) (fun _ _ _ _ _ => ETs_nil) (fun _ _ _ _ _ => (E_and (E_isi (ty := "tuple") (by decide) (fun h => pe_callB call_isi rfl T.bt.b_isinstance b_isinstance (pa_cons h (pa_cons (pe_bltn rfl T.bt.b_tuple b_tuple rfl) pa_nil))) (E_name (pv 4))) (E_one (E_chain op_le op_le opd_B0 opd_B0 E_int (E_cb (fun h => pe_callB call_len_seq rfl T.bt.b_len b_len h) opn_len (EA_cons (E_name (pv 4)) EA_nil)) (E_name (pv 3)))))))) EA_nil)))) (S_one (S_ret E_bl)) S_nil)
      (S_cons (S_if (EB_not (EB_val (E_cb (fun h => pe_callB (cr_all rfl) rfl T.bt.b_all b_all h) opn_all (EA_cons (E_ls (EL_lc2 (own := [("row", 4), ("one", 5)]) (vs1 := [5]) rfl sc_are_rows_tellers.nd (blkOk_by (by first | decide +kernel | rfl)) (by decide) (by decide) (by decide) (EI_seq (E_name (pv 0))) (fun _ _ _ _ _ => (EG_name (pg_name (i := 4) sc_are_rows_tellers.nd rfl (by first | exact Or.inl rfl | exact Or.inr rfl)))) (fun _ _ _ _ _ => ETs_nil) (fun _ _ _ _ _ => (EI_seq (E_name (pv 4)))) (fun _ _ _ _ _ => (EG_name (pg_name (i := 5) sc_are_rows_tellers.nd rfl (by first | exact Or.inl rfl | exact Or.inr rfl)))) (fun _ _ _ _ _ => ETs_nil) (fun _ _ _ _ _ => (E_callC c_is_number (hr.mono (by decide)) rfl tk_P (EA_cons (E_name (pv 5)) (EA_cons E_int (EA_cons E_non EA_nil))))))) EA_nil)))) (S_one (S_ret E_bl)) S_nil)
      (S_one (S_ret (E_cb (fun h => pe_callB (cr_all rfl) rfl T.bt.b_all b_all h) opn_all (EA_cons (E_ls (EL_lc (own := [("row", 4)]) rfl sc_are_rows_tellers.nd (blkOk_by (by first | decide +kernel | rfl)) (by decide) (EI_seq (E_name (pv 0))) (fun _ _ _ _ _ => (EG_name (pg_name (i := 4) sc_are_rows_tellers.nd rfl (by first | exact Or.inl rfl | exact Or.inr rfl)))) (fun _ _ _ _ _ => ETs_nil) (fun _ _ _ _ _ => (E_and (E_cmp (op_eqD hr.units) opd_eq (E_cb (fun h => pe_callB call_len_seq rfl T.bt.b_len b_len h) opn_len (EA_cons (E_name (pv 4)) EA_nil)) (E_cb (fun h => pe_callB call_len_seq rfl T.bt.b_len b_len h) opn_len (EA_cons (E_ix (E_name (pv 0)) E_int) EA_nil)) (nomark _)) (E_one (E_cmp (op_eqD hr.units) opd_eq (E_cb (fun h => pe_callB (cr_sumS rfl) rfl T.bt.b_sum b_sum h) opn_sum (EA_cons (E_name (pv 4)) EA_nil)) (E_name (pv 1)) (nomark _))))))) EA_nil)))))))) (fun ds Φ hn h => ?_)
  obtain ⟨rows, total, most, wide, rfl, ok, hm, hw, hq⟩ := h
  have l1 := ok.l1
  have l2 := ok.l2
  obtain ⟨r0, hr0, hlr0, hat⟩ := head_at l1
  have i1 : (1 : Int) ≤ rows.length := by omega
  have i2 : (rows.length : Int) ≤ most := by omega
  walk_at "jv"
  simp only [i1, i2, if_true, if_false, not_true]
  refine ⟨by rw [sizeL]; omega, ?_⟩
  refine lcRun_mapOf _ (fun _ => D.bl true) _ (fun r hr K t hK => ?_) ?_
  · walk_at "jv"
    have h1 := ok.w1
    have h2 := ok.w2
    have h3 := ok.len r hr
    rw [if_pos (by omega)]
    rw [decide_eq_true (by omega)]
    exact hK
  refine ⟨rows.map fun _ => true, by simp [Function.comp_def], ?_⟩
  rw [if_neg (by simp)]
  refine lc2_mapOf _ (fun r => r) D.int (fun _ _ => D.bl true) rows (fun r hr => ?_) ?_ ?_
  · refine ⟨_, rfl, fun Kb t h => h, fun Kl t h => ?_, fun y hy => ⟨_, rfl, fun Kb t h => h, fun K' t h => ?_⟩⟩
    · walk_at "jv"; exact h
    · walk_at "jv"
      refine ⟨.int y, 0, none, rfl, by simp [D.ty], ?_⟩
      have := ok.nn r hr y hy
      simp [isNum, this]
      exact h
  · rw [flatMap_id', sizeL]
    exact Nat.le_trans (flat_len (a := 12) (b := 12) (by omega) (fun r hr => by rw [ok.len r hr]; have := ok.w2; omega)) (by decide)
  refine ⟨rows.flatMap fun r => r.map fun _ => true, by simp [List.map_flatMap, Function.comp_def], ?_⟩
  rw [if_neg (by simp [List.all_flatMap])]
  refine ⟨by rw [sizeL]; omega, ?_⟩
  refine lcRun_mapOf _ (fun _ => D.bl true) _ (fun r hr K t hK => ?_) ?_
  · walk_at "jv"
    refine ⟨_, hat, _, rfl, ?_⟩
    walk_at "jv"
    rw [if_pos (by rw [ok.len r hr, hlr0])]
    refine ⟨r, .inr rfl, ?_⟩
    rw [ok.sum r hr]
    simpa using hK
  refine ⟨rows.map fun _ => true, by simp [Function.comp_def], ?_⟩
  have e : (rows.map fun _ => true).all id = true := by simp
  rw [e]
  exact hq

theorem ok_is_teller (T : Txt mg) (c_is_number : Cal P w K mg base 1 "is_number" ["thing", "low", "high"] (spP K 3 fs_is_number)) (c_are_rows_tellers : Cal P w K mg base 2 "are_rows" ["thing", "total", "most", "wide"] (spP K 4 fs_are_rows_tellers)) {f : Addr} {fd : FuncData} (F : Fun K "is_teller" "is_teller" s_is_teller f fd) : FnOk P w K mg base CX0 3 f fd ["thing"] (spP K 1 fs_is_teller) := by
  obtain ⟨t_STATES, k_STATES⟩ := T.k_STATES
  obtain ⟨t_WORDS, k_WORDS⟩ := T.k_WORDS
  obtain ⟨t_MOST, k_MOST⟩ := T.k_MOST
  refine ok_P F sc_is_teller rfl (fun cdv A outer s H E hr =>
    (S_cons (S_if (PW.pt (EB_or (EB_not (EB_val (E_isi (ty := "tuple") (by decide) (fun h => pe_callB call_isi rfl T.bt.b_isinstance b_isinstance (pa_cons h (pa_cons (pe_bltn rfl T.bt.b_tuple b_tuple rfl) pa_nil))) (E_name (pv 0))))) (EB_or (EB_cmp (op_neD hr.units) opd_ne (E_cb (fun h => pe_callB call_len_seq rfl T.bt.b_len b_len h) opn_len (EA_cons (E_name (pv 0)) EA_nil)) E_int (nomark _)) (EB_or (EB_not (EB_val (E_isi (ty := "str") (by decide) (fun h => pe_callB call_isi rfl T.bt.b_isinstance b_isinstance (pa_cons h (pa_cons (pe_bltn rfl T.bt.b_str b_str rfl) pa_nil))) (E_ix (E_name (pv 0)) E_int)))) (EB_or1 (EB_cmp (op_neD hr.units) opd_ne (E_ix (E_name (pv 0)) E_int) E_str (nomark _))))))) (S_one (S_ret E_bl)) S_nil)
      (S_one (S_ret (E_and (E_callC c_is_number (hr.mono (by decide)) rfl tk_P (EA_cons (E_ix (E_name (pv 0)) E_int) (EA_cons E_int (EA_cons (E_gint rfl k_MOST) EA_nil)))) (E_one (E_callC c_are_rows_tellers (hr.mono (by decide)) rfl tk_P (EA_cons (E_ix (E_name (pv 0)) E_int) (EA_cons (E_ix (E_name (pv 0)) E_int) (EA_cons (E_gint rfl k_STATES) (EA_cons (E_gint rfl k_WORDS) EA_nil))))))))))) (fun ds Φ hn h => ?_)
  obtain ⟨d, rows, rfl, ht, hq⟩ := h
  have h1 := ht.d1
  have h2 := ht.d2
  walk_at "jv"
  refine ⟨.int d, 1, some (10 ^ 30), rfl, by simp [D.ty], ?_⟩
  rw [isNum, decide_eq_true h1]
  simp only [h2, decide_true, Bool.and_true, if_true]
  walk_at "jv"
  exact ⟨rows, d, 6, 12, rfl, ht.ok, by decide, by decide, hq⟩

theorem ok_check_one (T : Txt mg) (c_is_teller : Cal P w K mg base 3 "is_teller" ["thing"] (spP K 1 fs_is_teller)) {f : Addr} {fd : FuncData} (F : Fun K "check_one" "check_one" s_check_one f fd) : FnOk P w K mg base CX0 4 f fd ["one"] (spP K 1 fs_check_one) := by
  refine ok_P F sc_check_one rfl (fun cdv A outer s H E hr =>
    (S_one (S_if (EB_not (EB_val (E_callC c_is_teller (hr.mono (by decide)) rfl tk_P (EA_cons (E_name (pv 0)) EA_nil)))) (S_one S_never) S_nil))) (fun ds Φ hn h => ?_)
  obtain ⟨d, rows, rfl, ht, hq⟩ := h
  walk_at "jv"
  refine ⟨d, rows, rfl, ht, ?_⟩
  walk_at "jv"
  rw [if_neg (by decide)]
  exact hq

theorem ok_check_other (T : Txt mg) (c_is_teller : Cal P w K mg base 3 "is_teller" ["thing"] (spP K 1 fs_is_teller)) {f : Addr} {fd : FuncData} (F : Fun K "check_other" "check_other" s_check_other f fd) : FnOk P w K mg base CX0 4 f fd ["one", "other"] (spP K 2 fs_check_other) := by
  refine ok_P F sc_check_other rfl (fun cdv A outer s H E hr =>
    (S_one (S_if (PW.pt (EB_or (EB_not (EB_val (E_callC c_is_teller (hr.mono (by decide)) rfl tk_P (EA_cons (E_name (pv 1)) EA_nil)))) (EB_or1 (EB_cmp (op_neD hr.units) opd_ne (E_cb (fun h => pe_callB call_len_seq rfl T.bt.b_len b_len h) opn_len (EA_cons (E_ix (E_name (pv 1)) E_int) EA_nil)) (E_cb (fun h => pe_callB call_len_seq rfl T.bt.b_len b_len h) opn_len (EA_cons (E_ix (E_name (pv 0)) E_int) EA_nil)) (nomark _))))) (S_one S_never) S_nil))) (fun ds Φ hn h => ?_)
  obtain ⟨d, rows, e, goal, rfl, h1, h2, hl, hq⟩ := h
  walk_at "jv"
  refine ⟨e, goal, rfl, h2, ?_⟩
  walk_at "jv"
  rw [if_neg (by decide), if_neg (by omega)]
  exact hq

theorem ok_check_both (T : Txt mg) (c_check_one : Cal P w K mg base 4 "check_one" ["one"] (spP K 1 fs_check_one)) (c_check_other : Cal P w K mg base 4 "check_other" ["one", "other"] (spP K 2 fs_check_other)) {f : Addr} {fd : FuncData} (F : Fun K "check_both" "check_both" s_check_both f fd) : FnOk P w K mg base CX0 5 f fd ["one", "other"] (spP K 2 fs_check_both) := by
  refine ok_P F sc_check_both rfl (fun cdv A outer s H E hr =>
    (S_cons (S_expr (E_callC c_check_one (hr.mono (by decide)) rfl tk_P (EA_cons (E_name (pv 0)) EA_nil)))
      (S_one (S_expr (E_callC c_check_other (hr.mono (by decide)) rfl tk_P (EA_cons (E_name (pv 0)) (EA_cons (E_name (pv 1)) EA_nil))))))) (fun ds Φ hn h => ?_)
  obtain ⟨d, rows, e, goal, rfl, h1, h2, hl, hq⟩ := h
  walk_at "jv"
  refine ⟨d, rows, rfl, h1, ?_⟩
  walk_at "jv"
  exact ⟨d, rows, e, goal, rfl, h1, h2, hl, hq⟩

theorem ok_divisor (T : Txt mg)  {f : Addr} {fd : FuncData} (F : Fun K "divisor" "divisor" s_divisor f fd) : FnOk P w K mg base CX0 1 f fd ["one", "other"] (spP K 2 fs_divisor) := by
  refine ok_P F sc_divisor rfl (fun cdv A outer s H E hr =>
    (S_cons (S_while PassesOwn.never (EB_cmp (op_neD hr.units) opd_ne (E_name (pv 1)) E_int (nomark _)) (S_one (S_par2 (i := 0) (j := 1) (by decide) (ps_par (by rfl) sc_divisor.nd rfl rfl (by decide) rfl rfl (EX_val (E_name (pv 1)) (EX_val (E_bin op_modN opd_I (E_name (pv 0)) (E_name (pv 1))) EX_nil)) (by rfl)))))
      (S_one (S_ret (E_cb (fun h => pe_callB call_abs rfl T.bt.b_abs b_abs h) opn_abs (EA_cons (E_name (pv 0)) EA_nil)))))) (fun ds Φ hn h => ?_)
  obtain ⟨a, b, rfl, hq⟩ := h
  walk_at "jv"
  refine ⟨fun m ρ _ => ∃ x y : Int, ρ = [.val (.int x), .val (.int y)] ∧ gcdI x y = gcdI a b ∧ m = y.natAbs, ⟨_, a, b, rfl, rfl, rfl⟩, ?_⟩
  rintro m ρ _ ⟨x, y, rfl, hg, rfl⟩
  walk_at "jv"
  by_cases hy : y = 0
  · subst hy
    simp
    rw [← gcdI_zero, hg]
    exact hq
  · simp [hy]
    exact ⟨_, fmod_lt x hy, y, x.fmod y, ⟨rfl, rfl⟩, (gcdI_fmod x y).trans hg, rfl⟩

theorem ok_common_tellers (T : Txt mg) (c_divisor : Cal P w K mg base 1 "divisor" ["one", "other"] (spP K 2 fs_divisor)) {f : Addr} {fd : FuncData} (F : Fun K "common" "common" s_common_tellers f fd) : FnOk P w K mg base CX0 2 f fd ["numbers"] (spP K 1 fs_common_tellers) := by
  refine ok_P F sc_common_tellers rfl (fun cdv A outer s H E hr =>
    (S_cons (S_set (i := 1) (ps_set (i := 1) sc_common_tellers.nd rfl (by first | exact Or.inl rfl | exact Or.inr rfl) E_int))
      (S_cons (S_for PassesOwn.never rfl (EI_seq (E_name (pv 0))) (EG_name (pg_name (i := 2) sc_common_tellers.nd rfl (by first | exact Or.inl rfl | exact Or.inr rfl))) (S_one (S_set (i := 1) (ps_set (i := 1) sc_common_tellers.nd rfl (by first | exact Or.inl rfl | exact Or.inr rfl) (E_callC c_divisor (hr.mono (by decide)) rfl tk_P (EA_cons (E_name (pv 1)) (EA_cons (E_name (pv 2)) EA_nil)))))))
      (S_one (S_ret (E_name (pv 1))))))) (fun ds Φ hn h => ?_)
  obtain ⟨d, ns, rfl, hi, hq⟩ := h
  walk_at "jv"
  refine ⟨ns.map .int, hi.items, fun k ρ _ => ∃ z, ρ = [.val d, .val (.int (gcdL (ns.take k))), z], ⟨_, rfl⟩, ?_, ?_⟩
  · rintro k ρ _ e ⟨z, rfl⟩ he
    obtain ⟨n, hn, rfl⟩ := map_at he
    walk_at "jv"
    exact ⟨_, _, rfl, by rw [gcdL_take hn], _, rfl⟩
  · rintro ρ _ ⟨z, rfl⟩
    walk_at "jv"
    rw [List.take_length]
    exact hq

theorem ok_made (T : Txt mg) (c_common_tellers : Cal P w K mg base 2 "common_tellers" ["numbers"] (spP K 1 fs_common_tellers)) {f : Addr} {fd : FuncData} (F : Fun K "made" "made" s_made f fd) : FnOk P w K mg base CX0 3 f fd ["d", "rows"] (spP K 2 fs_made) := by
  obtain ⟨t_WORDS, k_WORDS⟩ := T.k_WORDS
  obtain ⟨t_MOST, k_MOST⟩ := T.k_MOST
  refine ok_P F sc_made rfl (fun cdv A outer s H E hr =>
    (S_cons (S_if (EB_cmp op_gt opd_B0 (E_cb (fun h => pe_callB call_len_seq rfl T.bt.b_len b_len h) opn_len (EA_cons (E_ix (E_name (pv 1)) E_int) EA_nil)) (E_gint rfl k_WORDS) (nomark _)) (S_one S_never) S_nil)
      (S_cons (S_set (i := 2) (ps_set (i := 2) sc_made.nd rfl (by first | exact Or.inl rfl | exact Or.inr rfl) (E_callC c_common_tellers (hr.mono (by decide)) rfl tk_P (EA_cons (E_ls (EL_bin op_catR opd_cat (E_ls (EL_lst (EA_cons (E_name (pv 0)) EA_nil))) (E_ls (EL_lc2 (own := [("row", 3), ("one", 4)]) (vs1 := [4]) rfl sc_made.nd (blkOk_by (by first | decide +kernel | rfl)) (by decide) (by decide) (by decide) (EI_seq (E_name (pv 1))) (fun _ _ _ _ _ => (EG_name (pg_name (i := 3) sc_made.nd rfl (by first | exact Or.inl rfl | exact Or.inr rfl)))) (fun _ _ _ _ _ => ETs_nil) (fun _ _ _ _ _ => (EI_seq (E_name (pv 3)))) (fun _ _ _ _ _ => (EG_name (pg_name (i := 4) sc_made.nd rfl (by first | exact Or.inl rfl | exact Or.inr rfl)))) (fun _ _ _ _ _ => ETs_nil) (fun _ _ _ _ _ => (E_name (pv 4))))))) EA_nil))))
      (S_cons (S_if (EB_cmp op_gt opd_B0 (E_bin op_fdivW opd_I (E_name (pv 0)) (E_name (pv 2))) (E_gint rfl k_MOST) (nomark _)) (S_one S_never) S_nil)
      (S_one (S_ret (E_tup (EA_cons E_str (EA_cons (E_bin op_fdivW opd_I (E_name (pv 0)) (E_name (pv 2))) (EA_cons (E_cb (fun h => pe_callTy call_tuple_of rfl T.bt.b_tuple b_tuple h) opn_tuple (EA_cons (E_ls (EL_lc (own := [("row", 3)]) rfl sc_made.nd (blkOk_by (by first | decide +kernel | rfl)) (by decide) (EI_seq (E_name (pv 1))) (fun _ _ _ _ _ => (EG_name (pg_name (i := 3) sc_made.nd rfl (by first | exact Or.inl rfl | exact Or.inr rfl)))) (fun _ _ _ _ _ => ETs_nil) (fun _ _ _ _ _ => (E_cb (fun h => pe_callTy call_tuple_of rfl T.bt.b_tuple b_tuple h) opn_tuple (EA_cons (E_ls (EL_lc (own := [("one", 4)]) rfl sc_made.nd (blkOk_by (by first | decide +kernel | rfl)) (by decide) (EI_seq (E_name (pv 3))) (fun _ _ _ _ _ => (EG_name (pg_name (i := 4) sc_made.nd rfl (by first | exact Or.inl rfl | exact Or.inr rfl)))) (fun _ _ _ _ _ => ETs_nil) (fun _ _ _ _ _ => (E_bin op_fdivW opd_I (E_name (pv 4)) (E_name (pv 2)))))) EA_nil))))) EA_nil)) EA_nil)))))))))) (fun ds Φ hn h => ?_)
  obtain ⟨d, rows, x, rfl, hx, l1, l2, w2, hl, d0, sd, hM, hq⟩ := h
  obtain ⟨r0, hr0, hlr0, hat⟩ := head_at l1
  obtain ⟨g0, g1⟩ := gcdL_pos (l := rows.flatten) d0
  have hc : ∀ x, CDivW x (gcdL (d :: rows.flatten)) := fun x => Sm.cdiv (sd.le (by omega) g1) g0 (by decide) (by decide)
  obtain ⟨r1, rs1, er1, hw1⟩ := head_wid l1
  have hatL : atI (rows.map fun r => dLI r) 0 = some (dLI r1) := by rw [er1]; exact atI_0 _ _
  rcases hx with rfl | rfl
  all_goals
    walk_at "jv"
    first | refine ⟨_, hat, _, rfl, ?_⟩ | refine ⟨_, hatL, _, rfl, ?_⟩
    walk_at "jv"
    rw [if_neg (by omega)]
    refine ⟨by decide, ?_⟩
    refine lc2_mapOf _ (fun r => r) D.int (fun _ x => D.int x) rows (fun r hr => ?_) ?_ ?_
    · refine ⟨_, rfl, fun Kb t h => h, fun Kl t h => ?_, fun y hy => ⟨_, rfl, fun Kb t h => h, fun K' t h => ?_⟩⟩
      · walk_at "jv"; exact h
      · walk_at "jv"; exact h
    · rw [flatMap_id', sizeL]
      exact Nat.le_trans (flat_len l2 (fun r hr => by rw [hl r hr]; exact w2)) (by decide)
    rw [flatMap_int]
    refine ⟨?_, _, d :: rows.flatten, rfl, .inl rfl, ?_⟩
    · have := flat_len l2 (fun r hr => by rw [hl r hr]; exact w2)
      rw [List.length_map, sizeL]; omega
    walk_at "jv"
    refine ⟨hc d, ?_⟩
    rw [if_neg (by omega)]
    refine ⟨hc d, by rw [sizeL]; omega, ?_⟩
    refine lcRun_mapOf _ (fun r => dI (r.map (· / gcdL (d :: rows.flatten)))) _ (fun r hr K t hK => ?_) ?_
    · walk_at "jv"
      refine ⟨by rw [hl r hr, sizeL]; omega, ?_⟩
      refine lcRun_mapOf _ (fun x => D.int (x / gcdL (d :: rows.flatten))) _ (fun x hx K t hK => ?_) ?_
      · walk_at "jv"
        exact ⟨hc x, hK⟩
      · rw [dI, List.map_map] at hK; exact hK
    · refine ⟨by decide, ?_⟩
      have e : dRows (lowR (gcdL (d :: rows.flatten)) rows) = D.tup (rows.map fun r => dI (r.map fun x => x / gcdL (d :: rows.flatten))) := by
        simp [lowR, dRows, Function.comp_def]
      rw [dTel, e] at hq
      exact hq

end
end J

set_option Elab.async false
set_option linter.all false
set_option maxRecDepth 100000
set_option maxHeartbeats 4000000
namespace J
open PySem PySem.Spec L2 RZ
local macro_rules | `(tactic| walk_at "jv") => `(tactic| simp only [wSq, wIfS, wOrT, wAndT, wNotT, wB, wIsi, wName, wRet, wC, wNilS, wAndV, wOrV, wNotV, wBin, wUn, wIf, wChain, fI0, fI, fIsN, fNotN, fB, fAdd, fEq, fNe, fIx, wCall, wCons, wNil, wTup, wDrop, wSet, wOwn, wFrzA, wFrzB, wAsg, wPar, wxVal, wxOwn, wxNil, bindX, bindP, bindN, wLs, wLst, wLc, wLc2, lcBody, wYes, wipeE, J.wSeq, wRange1, wRange2, wEnum, wZip, wSl, wSlL, wNoO, wSomeO, wAppend, wExtend, wSetIx, wOwnIx, wOwnLen, wFor, wWhile, fLen, fAbs, fMin2, fMax2, fInt, fSum, fMax, fAll, fAny, fTuple, fList, fCat, fRep, startE, List.map, List.cons_append, List.nil_append, List.getElem?_cons_zero, List.getElem?_cons_succ, List.set_cons_zero, List.set_cons_succ, List.length_cons, List.length_nil, List.replicate, Option.some.injEq, Sl.val.injEq, Sl.own.injEq, D.int.injEq, D.bl.injEq, D.tup.injEq, D.lst.injEq, exists_eq_left', exists_eq_left, exists_eq_right, true_and, and_true, if_true, List.cons.injEq, exists_and_left, exists_const, items_tup, items_lst, isT_tup, isT_lst, atI_0, atI_1, atI_2, addD_int, addD_tup, intD_int, intD_bl, dTel, dRows, dI, dSta, dGar, dRat, tyq_tup, tyq_lst, tyq_int, tyq_str, tyq_bl, tyq_non, isi_tt, isi_ss, isi_ii, isi_ib, shp_eq_int, shp_eq_teller, shp_eq_stakes, shp_eq_garbler, eq_str_self, eq_int, Bool.not_true, Bool.not_false, Bool.false_eq_true, if_false, List.length_map, decide_eq_true_eq, Bool.not_eq_true', decide_eq_false_iff_not, Nat.zero_add, Nat.reduceAdd, ite_true, ite_false, Int.reduceAdd, wDctNew, wDctGet, wDctIx, wDctPut, wDctSorted, fRepT, Sl.dct.injEq, wCallT, fsT, lenI_tup, lenI_lst, lenI_scr, fsD, wDrTurn, wDrRest, wDrCells, wDrAny, wDrPop, wDrSetR, wDrSetT, drIs, wFld, wSetF, wSetFL, wCIx, wCApp, wCSet, wCFrz, wMeth, wMake, fsC, Cell.ins.injEq, Cell.lst.injEq, D.hdl.injEq, lk_many, lk_scale, lk_rows, lk_base, lk_costs, lk_m1, lk_m2, lk_m3, lk_m4, lk_m5, pu_scale, pu_rows, pu_base, pu_costs, setC_same, pp_1, pp_2, pp_3, pp_3', pp_4, pp_5, lk3_rows, lk3_many, lk4_many, ln_0, ln_1, ln_2, ln_3, ln_4, ln_5, wDctC, wDc, dcBody, wDctGetN, wListRg])
abbrev s_made_of_columns : Stmt := topS 26
theorem sc_made_of_columns : FnScope ["d", "columns", "row"] ["d", "columns"] (defScope s_made_of_columns) := ⟨rfl, rfl, rfl, by decide +kernel, rfl, by decide +kernel, by decide +kernel⟩
abbrev s_beside_columns : Stmt := topS 67
theorem sc_beside_columns : FnScope ["columns", "others", "found", "mine", "yours", "one", "other"] ["columns", "others"] (defScope s_beside_columns) := ⟨rfl, rfl, rfl, by decide +kernel, rfl, by decide +kernel, by decide +kernel⟩
abbrev s_columns_of : Stmt := topS 18
theorem sc_columns_of : FnScope ["teller", "rows", "word", "row"] ["teller"] (defScope s_columns_of) := ⟨rfl, rfl, rfl, by decide +kernel, rfl, by decide +kernel, by decide +kernel⟩
abbrev s_beside : Stmt := topS 68
theorem sc_beside : FnScope ["one", "other"] ["one", "other"] (defScope s_beside) := ⟨rfl, rfl, rfl, by decide +kernel, rfl, by decide +kernel, by decide +kernel⟩
abbrev s_check_part : Stmt := topS 69
theorem sc_check_part : FnScope ["k", "n"] ["k", "n"] (defScope s_check_part) := ⟨rfl, rfl, rfl, by decide +kernel, rfl, by decide +kernel, by decide +kernel⟩
abbrev s_weighed : Stmt := topS 70
theorem sc_weighed : FnScope ["one", "other", "k", "n", "mine", "row", "number"] ["one", "other", "k", "n"] (defScope s_weighed) := ⟨rfl, rfl, rfl, by decide +kernel, rfl, by decide +kernel, by decide +kernel⟩
abbrev s_either : Stmt := topS 71
theorem sc_either : FnScope ["one", "other", "k", "n", "mine", "yours", "row", "more"] ["one", "other", "k", "n"] (defScope s_either) := ⟨rfl, rfl, rfl, by decide +kernel, rfl, by decide +kernel, by decide +kernel⟩
abbrev s_check_teller : Stmt := topS 21
theorem sc_check_teller : FnScope ["teller"] ["teller"] (defScope s_check_teller) := ⟨rfl, rfl, rfl, by decide +kernel, rfl, by decide +kernel, by decide +kernel⟩
section
variable {P : Program} {w : World} {K : PySem.W.Frag} {mg : Str → Option Value} {base : Heap}
theorem ok_made_of_columns (T : Txt mg) (c_made : Cal P w K mg base 3 "made" ["d", "rows"] (spP K 2 fs_made)) {f : Addr} {fd : FuncData} (F : Fun K "made_of_columns" "made_of_columns" s_made_of_columns f fd) : FnOk P w K mg base CX0 4 f fd ["d", "columns"] (spP K 2 fs_made_of_columns) := by
  refine ok_P F sc_made_of_columns rfl (fun cdv A outer s H E hr =>
    (S_one (S_ret (E_callC c_made (hr.mono (by decide)) rfl tk_P (EA_cons (E_name (pv 0)) (EA_cons (E_ls (EL_lc (own := [("row", 2)]) rfl sc_made_of_columns.nd (blkOk_by (by first | decide +kernel | rfl)) (by decide) (EI_zipS (fun h => pi_zipS rfl T.bt.b_zip h) (E_name (pv 1))) (fun _ _ _ _ _ => (EG_name (pg_name (i := 2) sc_made_of_columns.nd rfl (by first | exact Or.inl rfl | exact Or.inr rfl)))) (fun _ _ _ _ _ => ETs_nil) (fun _ _ _ _ _ => (E_ls (EL_cb (fun h => pe_callTy call_list_of rfl T.bt.b_list b_list h) opn_list (EA_cons (E_name (pv 2)) EA_nil)))))) EA_nil)))))) (fun ds Φ hn h => ?_)
  obtain ⟨d, cs, n, rfl, n1, n12, c1, c12, hc, d0, sd, hM, hq⟩ := h
  walk_at "jv"
  simp only [wZipS]
  walk_at "jv"
  refine ⟨cs.map fun c => c.map D.int, by rw [List.map_map]; rfl, by rw [List.length_map]; exact c1, by rw [List.length_map, sizeL]; omega, n, fun r hr => ?_, ?_⟩
  · obtain ⟨c, hcm, rfl⟩ := List.mem_map.mp hr
    rw [List.length_map, hc c hcm]
  have ez : zipRows (cs.map fun c => c.map D.int) n = (tran n cs).map fun r => dI r := by
    unfold zipRows tran
    rw [List.map_map]
    refine List.map_congr_left fun j hj => ?_
    have hj := List.mem_range.mp hj
    show D.tup _ = D.tup _
    rw [List.map_map, List.map_map]
    congr 1
    refine List.map_congr_left fun c hcm => ?_
    have := hc c hcm
    show (c.map D.int).getD j .non = D.int (c.getD j 0)
    rw [List.getD_eq_getElem?_getD, List.getD_eq_getElem?_getD, List.getElem?_map, List.getElem?_eq_getElem (by omega)]
    rfl
  rw [ez]
  refine ⟨by rw [List.length_map, tran_len, sizeL]; omega, ?_⟩
  refine lcRun_mapOf _ (fun r => dLI r) _ (fun r hr K t hK => ?_) ?_
  · walk_at "jv"
    exact hK
  · refine ⟨rfl, d, tran n cs, _, rfl, .inr rfl, by rw [tran_len]; exact n1, by rw [tran_len]; exact n12, by rw [tran_wid n1]; exact c12, fun r hr => by rw [tran_wid n1]; exact tran_row hr, d0, sd, hM, hq⟩

theorem ok_beside_columns (T : Txt mg)  {f : Addr} {fd : FuncData} (F : Fun K "beside_columns" "beside_columns" s_beside_columns f fd) : FnOk P w K mg base CX0 1 f fd ["columns", "others"] (spP K 2 fs_beside_columns) := by
  refine ok_P F sc_beside_columns rfl (fun cdv A outer s H E hr =>
    (S_cons (S_own (i := 2) (ps_set (i := 2) sc_beside_columns.nd rfl (by first | exact Or.inl rfl | exact Or.inr rfl) (EL_lst EA_nil)))
      (S_cons (S_for PassesOwn.never rfl (EI_seq (E_name (pv 0))) (EG_name (pg_name (i := 3) sc_beside_columns.nd rfl (by first | exact Or.inl rfl | exact Or.inr rfl))) (S_one (S_extend (i := 2) (ps_expr (pe_bm PySem.F.plainAttrs_list PySem.F.slot_list_extend PySem.F.type_list_extend mt_extend (pv 2) (pa_cons (EL_lc (own := [("yours", 4)]) rfl sc_beside_columns.nd (blkOk_by (by first | decide +kernel | rfl)) (by decide) (EI_seq (E_name (pv 1))) (fun _ _ _ _ _ => (EG_name (pg_name (i := 4) sc_beside_columns.nd rfl (by first | exact Or.inl rfl | exact Or.inr rfl)))) (fun _ _ _ _ _ => ETs_nil) (fun _ _ _ _ _ => (E_cb (fun h => pe_callTy call_tuple_of rfl T.bt.b_tuple b_tuple h) opn_tuple (EA_cons (E_ls (EL_lc (own := [("one", 5), ("other", 6)]) rfl sc_beside_columns.nd (blkOk_by (by first | decide +kernel | rfl)) (by decide) (EI_zip (fun h => pi_zipA rfl T.bt.b_zip h) (EA_cons (E_name (pv 3)) (EA_cons (E_name (pv 4)) EA_nil))) (fun _ _ _ _ _ => (EG_tup (is := [5, 6]) rfl (pg_tup rfl (pgs_cons (pg_name (i := 5) sc_beside_columns.nd rfl (by first | exact Or.inl rfl | exact Or.inr rfl)) (pgs_cons (pg_name (i := 6) sc_beside_columns.nd rfl (by first | exact Or.inl rfl | exact Or.inr rfl)) pgs_nil))))) (fun _ _ _ _ _ => ETs_nil) (fun _ _ _ _ _ => (E_bin op_mulW opd_I (E_name (pv 5)) (E_name (pv 6)))))) EA_nil)))) pa_nil))))))
      (S_one (S_frzB (i := 2) (S_ret (E_name (pv 2)))))))) (fun ds Φ hn h => ?_)
  obtain ⟨cs, es, n, rfl, n12, c12, e12, hc, he, hq⟩ := h
  walk_at "jv"
  refine ⟨by rw [sizeL]; omega, ?_⟩
  refine ⟨fun k ρ _ => ∃ u v w x, ρ = [.val (.lst (cs.map fun c => dI c)), .val (.lst (es.map fun c => dI c)), .own ((besC (cs.take k) es).map fun c => dI c), u, v, w, x], ⟨_, _, _, _, rfl⟩, ?_, ?_⟩
  · rintro k ρ _ d ⟨u, v, w, x, rfl⟩ hd
    obtain ⟨c, hcc, rfl⟩ := map_at hd
    have hcm := List.mem_of_getElem? hcc
    have hk : k < cs.length := (List.getElem?_eq_some_iff.mp hcc).1
    walk_at "jv"
    refine ⟨by rw [sizeL]; omega, ?_⟩
    refine lcRun_mapOf _ (fun y => dI (mulV c y)) _ (fun y hy K t hK => ?_) ?_
    · walk_at "jv"
      refine ⟨_, _, ⟨rfl, rfl⟩, _, rfl, _, rfl, rfl, ?_⟩
      rw [zipD_int]
      refine ⟨by rw [List.length_map, List.length_zip, (hc c hcm).1, sizeL]; omega, ?_⟩
      refine lcRun_mapOf _ (fun p => D.int (p.1 * p.2)) _ (fun p hp K t hK => ?_) ?_
      · obtain ⟨h1, h2⟩ := List.of_mem_zip (a := p.1) (b := p.2) hp
        walk_at "jv"
        exact ⟨((hc c hcm).2 _ h1).cmul ((he y hy).2 _ h2) (by decide) (by decide) (by decide), hK⟩
      · rw [dI, mulV, List.map_map] at hK; exact hK
    have hl : (besC (cs.take k) es).length ≤ 144 := by
      rw [besC_len, List.length_take]
      exact Nat.le_trans (Nat.mul_le_mul (show min k cs.length ≤ 12 by omega) e12) (by decide)
    have hm : (List.map (fun y => dI (mulV c y)) es).length = es.length := List.length_map _
    refine ⟨by rw [sizeL]; omega, ?_⟩
    rw [List.take_add_one, hcc]
    unfold besC
    simp
  · rintro ρ _ ⟨u, v, w, x, rfl⟩
    rw [List.take_length]
    walk_at "jv"
    exact hq

theorem ok_columns_of (T : Txt mg)  {f : Addr} {fd : FuncData} (F : Fun K "columns_of" "columns_of" s_columns_of f fd) : FnOk P w K mg base CX0 1 f fd ["teller"] (spP K 1 fs_columns_of) := by
  refine ok_P F sc_columns_of rfl (fun cdv A outer s H E hr =>
    (S_cons (S_set (i := 1) (ps_set (i := 1) sc_columns_of.nd rfl (by first | exact Or.inl rfl | exact Or.inr rfl) (E_ix (E_name (pv 0)) E_int)))
      (S_one (S_ret (E_ls (EL_lc (own := [("word", 2)]) rfl sc_columns_of.nd (blkOk_by (by first | decide +kernel | rfl)) (by decide) (EI_range1 (fun h => pi_range1 rfl T.bt.b_range h) (EA_cons (E_cb (fun h => pe_callB call_len_seq rfl T.bt.b_len b_len h) opn_len (EA_cons (E_ix (E_name (pv 1)) E_int) EA_nil)) EA_nil)) (fun _ _ _ _ _ => (EG_name (pg_name (i := 2) sc_columns_of.nd rfl (by first | exact Or.inl rfl | exact Or.inr rfl)))) (fun _ _ _ _ _ => ETs_nil) (fun _ _ _ _ _ => (E_cb (fun h => pe_callTy call_tuple_of rfl T.bt.b_tuple b_tuple h) opn_tuple (EA_cons (E_ls (EL_lc (own := [("row", 3)]) rfl sc_columns_of.nd (blkOk_by (by first | decide +kernel | rfl)) (by decide) (EI_seq (E_name (pv 1))) (fun _ _ _ _ _ => (EG_name (pg_name (i := 3) sc_columns_of.nd rfl (by first | exact Or.inl rfl | exact Or.inr rfl)))) (fun _ _ _ _ _ => ETs_nil) (fun _ _ _ _ _ => (E_ix (E_name (pv 3)) (E_name (pv 2)))))) EA_nil))))))))) (fun ds Φ hn h => ?_)
  obtain ⟨d, rows, rfl, ht, hq⟩ := h
  obtain ⟨r0, rs, hr, hw⟩ := head_wid ht.ok.l1
  have hw2 := ht.ok.w2
  walk_at "jv"
  refine ⟨dI r0, by rw [hr]; exact atI_0 _ _, r0.map .int, rfl, by omega, ?_, ?_, ?_⟩
  · rw [List.length_map]; omega
  · rw [rangeD_len, List.length_map, sizeL]; omega
  · rw [List.length_map, Int.toNat_natCast, ← hw, rangeD_eq]
    refine lcRun_mapOf _ (fun y => dI (rows.map fun r => r.getD y 0)) _ (fun y hy K t hK => ?_) ?_
    · walk_at "jv"
      refine ⟨?_, ?_⟩
      · rw [sizeL]; have := ht.ok.l2; omega
      · refine lcRun_mapOf _ (fun r => D.int (r.getD y 0)) _ (fun r hr K t hK => ?_) ?_
        · walk_at "jv"
          refine ⟨_, ?_, hK⟩
          rw [atI_map, atI_getD (by rw [ht.ok.len r hr]; exact List.mem_range.mp hy)]
          rfl
        · rw [dI, List.map_map] at hK; exact hK
    · simpa [cols, Function.comp_def] using hq

theorem ok_beside (T : Txt mg) (c_check_both : Cal P w K mg base 5 "check_both" ["one", "other"] (spP K 2 fs_check_both)) (c_made_of_columns : Cal P w K mg base 4 "made_of_columns" ["d", "columns"] (spP K 2 fs_made_of_columns)) (c_beside_columns : Cal P w K mg base 1 "beside_columns" ["columns", "others"] (spP K 2 fs_beside_columns)) (c_columns_of : Cal P w K mg base 1 "columns_of" ["teller"] (spP K 1 fs_columns_of)) {f : Addr} {fd : FuncData} (F : Fun K "beside" "beside" s_beside f fd) : FnOk P w K mg base CX0 6 f fd ["one", "other"] (spP K 2 fs_beside) := by
  refine ok_P F sc_beside rfl (fun cdv A outer s H E hr =>
    (S_cons (S_expr (E_callC c_check_both (hr.mono (by decide)) rfl tk_P (EA_cons (E_name (pv 0)) (EA_cons (E_name (pv 1)) EA_nil))))
      (S_one (S_ret (E_callC c_made_of_columns (hr.mono (by decide)) rfl tk_P (EA_cons (E_bin op_mulW opd_I (E_ix (E_name (pv 0)) E_int) (E_ix (E_name (pv 1)) E_int)) (EA_cons (E_callC c_beside_columns (hr.mono (by decide)) rfl tk_P (EA_cons (E_callC c_columns_of (hr.mono (by decide)) rfl tk_P (EA_cons (E_name (pv 0)) EA_nil)) (EA_cons (E_callC c_columns_of (hr.mono (by decide)) rfl tk_P (EA_cons (E_name (pv 1)) EA_nil)) EA_nil))) EA_nil))))))) (fun ds Φ hn h => ?_)
  obtain ⟨d, rows, e, goal, rfl, ht, hu, hl, hw, hM, hq⟩ := h
  have sd := small_d ht
  have se := small_d hu
  have d1 := ht.d1
  have e1 := hu.d1
  have l2 := ht.ok.l2
  have w1 := ht.ok.w1
  have w2 := ht.ok.w2
  have w1' := hu.ok.w1
  have w2' := hu.ok.w2
  walk_at "jv"
  refine ⟨d, rows, e, goal, rfl, ht, hu, hl, ?_⟩
  walk_at "jv"
  refine ⟨sd.cmul se (by decide) (by decide) (by decide), d, rows, rfl, ht, e, goal, rfl, hu, ?_⟩
  refine ⟨cols rows, cols goal, rows.length, rfl, by omega, by rw [cols_len]; omega, by rw [cols_len]; omega, fun c hc => ⟨col_len hc, fun x hx => (cols_sm ht.ok sd hc hx).mono (by decide)⟩, fun c hc => ⟨by rw [col_len hc, hl], fun x hx => (cols_sm hu.ok se hc hx).mono (by decide)⟩, ?_⟩
  have p : 0 < wid rows * wid goal := Nat.mul_pos w1 w1'
  refine ⟨d * e, besC (cols rows) (cols goal), rows.length, rfl, ht.ok.l1, by omega, by rw [besC_len, cols_len, cols_len]; exact p, by rw [besC_len, cols_len, cols_len]; exact hw, fun c hc => besC_mem (fun c h => col_len h) (fun c h => by rw [col_len h, hl]) hc, Int.mul_pos (by omega) (by omega), (sd.mul se).mono (by decide), hM, hq⟩

theorem ok_check_part (T : Txt mg) (c_is_number : Cal P w K mg base 1 "is_number" ["thing", "low", "high"] (spP K 3 fs_is_number)) {f : Addr} {fd : FuncData} (F : Fun K "check_part" "check_part" s_check_part f fd) : FnOk P w K mg base CX0 2 f fd ["k", "n"] (spP K 2 fs_check_part) := by
  obtain ⟨t_PARTS, k_PARTS⟩ := T.k_PARTS
  refine ok_P F sc_check_part rfl (fun cdv A outer s H E hr =>
    (S_one (S_if (PW.pt (EB_or (EB_not (EB_val (E_callC c_is_number (hr.mono (by decide)) rfl tk_P (EA_cons (E_name (pv 1)) (EA_cons E_int (EA_cons (E_gint rfl k_PARTS) EA_nil)))))) (EB_or1 (EB_not (EB_val (E_callC c_is_number (hr.mono (by decide)) rfl tk_P (EA_cons (E_name (pv 0)) (EA_cons E_int (EA_cons (E_name (pv 1)) EA_nil))))))))) (S_one S_never) S_nil))) (fun ds Φ hn h => ?_)
  obtain ⟨k, n, rfl, k0, kn, n1, n9, hq⟩ := h
  walk_at "jv"
  refine ⟨.int n, 1, some (10 ^ 9), rfl, by simp [D.ty], ?_⟩
  have e1 : isNum (.int n) 1 (some (10 ^ 9)) = true := by unfold isNum; simp only [Bool.and_eq_true, decide_eq_true_eq]; exact ⟨n1, n9⟩
  rw [e1]
  refine ⟨_, rfl, ?_⟩
  rw [if_neg (by decide)]
  refine ⟨.int k, 0, some n, rfl, by simp [D.ty], ?_⟩
  have e2 : isNum (.int k) 0 (some n) = true := by unfold isNum; simp only [Bool.and_eq_true, decide_eq_true_eq]; exact ⟨k0, kn⟩
  rw [e2]
  refine ⟨_, rfl, ?_⟩
  rw [if_neg (by decide)]
  exact hq

theorem ok_weighed (T : Txt mg)  {f : Addr} {fd : FuncData} (F : Fun K "weighed" "weighed" s_weighed f fd) : FnOk P w K mg base CX0 1 f fd ["one", "other", "k", "n"] (spP K 4 fs_weighed) := by
  refine ok_P F sc_weighed rfl (fun cdv A outer s H E hr =>
    (S_cons (S_frzA (i := 4) (S_own (i := 4) (PS_setLc (i := 4) (own := [("row", 5)]) rfl sc_weighed.nd (blkOk_by (by first | decide +kernel | rfl)) (by decide) (EI_seq (E_ix (E_name (pv 0)) E_int)) (fun _ _ _ _ _ => (EG_name (pg_name (i := 5) sc_weighed.nd rfl (by first | exact Or.inl rfl | exact Or.inr rfl)))) (fun _ _ _ _ _ => ETs_nil) (fun _ _ _ _ _ => (E_ls (EL_lc (own := [("number", 6)]) rfl sc_weighed.nd (blkOk_by (by first | decide +kernel | rfl)) (by decide) (EI_seq (E_name (pv 5))) (fun _ _ _ _ _ => (EG_name (pg_name (i := 6) sc_weighed.nd rfl (by first | exact Or.inl rfl | exact Or.inr rfl)))) (fun _ _ _ _ _ => ETs_nil) (fun _ _ _ _ _ => (E_bin op_mulW opd_I (E_bin op_mulW opd_I (E_name (pv 2)) (E_ix (E_name (pv 1)) E_int)) (E_name (pv 6))))))))))
      (S_one (S_ret (E_tup (EA_cons (E_name (pv 4)) (EA_cons (E_ls (EL_lc (own := [("row", 5)]) rfl sc_weighed.nd (blkOk_by (by first | decide +kernel | rfl)) (by decide) (EI_seq (E_ix (E_name (pv 1)) E_int)) (fun _ _ _ _ _ => (EG_name (pg_name (i := 5) sc_weighed.nd rfl (by first | exact Or.inl rfl | exact Or.inr rfl)))) (fun _ _ _ _ _ => ETs_nil) (fun _ _ _ _ _ => (E_ls (EL_lc (own := [("number", 6)]) rfl sc_weighed.nd (blkOk_by (by first | decide +kernel | rfl)) (by decide) (EI_seq (E_name (pv 5))) (fun _ _ _ _ _ => (EG_name (pg_name (i := 6) sc_weighed.nd rfl (by first | exact Or.inl rfl | exact Or.inr rfl)))) (fun _ _ _ _ _ => ETs_nil) (fun _ _ _ _ _ => (E_bin op_mulW opd_I (E_bin op_mulW opd_I (E_bin op_sub opd_I0 (E_name (pv 3)) (E_name (pv 2))) (E_ix (E_name (pv 0)) E_int)) (E_name (pv 6))))))))) EA_nil))))))) (fun ds Φ hn h => ?_)
  obtain ⟨d, rows, e, goal, k, n, rfl, ht, hu, k0, kn, n9, hq⟩ := h
  have sd := small_d ht
  have se := small_d hu
  have sk : Sm 100 k := sm_le9 k0 (by omega)
  have sn : Sm 100 (n - k) := sm_le9 (by omega) (by omega)
  have w2 := ht.ok.w2
  have w2' := hu.ok.w2
  walk_at "jv"
  refine ⟨by rw [sizeL]; have := ht.ok.l2; omega, ?_⟩
  refine lcRun_mapOf _ (fun r => dLI (r.map (k * e * ·))) _ (fun r hr K t hK => ?_) ?_
  · walk_at "jv"
    refine ⟨by rw [ht.ok.len r hr, sizeL]; omega, ?_⟩
    refine lcRun_mapOf _ (fun x => D.int (k * e * x)) _ (fun x hx K t hK => ?_) ?_
    · walk_at "jv"
      exact ⟨sk.cmul se (by decide) (by decide) (by decide), (sk.mul se).cmul (ht.ok.sm sd hr hx) (by decide) (by decide) (by decide), hK⟩
    · rw [dLI, List.map_map] at hK; exact hK
  refine ⟨by rw [sizeL]; have := hu.ok.l2; omega, ?_⟩
  refine lcRun_mapOf _ (fun r => dLI (r.map ((n - k) * d * ·))) _ (fun r hr K t hK => ?_) ?_
  · walk_at "jv"
    refine ⟨by rw [hu.ok.len r hr, sizeL]; omega, ?_⟩
    refine lcRun_mapOf _ (fun x => D.int ((n - k) * d * x)) _ (fun x hx K t hK => ?_) ?_
    · walk_at "jv"
      exact ⟨sn.cmul sd (by decide) (by decide) (by decide), (sn.mul sd).cmul (hu.ok.sm se hr hx) (by decide) (by decide) (by decide), hK⟩
    · rw [dLI, List.map_map] at hK; exact hK
  refine ⟨by decide, ?_⟩
  rw [dLL, dLL, List.map_map, List.map_map] at hq
  exact hq

theorem ok_either (T : Txt mg) (c_check_both : Cal P w K mg base 5 "check_both" ["one", "other"] (spP K 2 fs_check_both)) (c_check_part : Cal P w K mg base 2 "check_part" ["k", "n"] (spP K 2 fs_check_part)) (c_weighed : Cal P w K mg base 1 "weighed" ["one", "other", "k", "n"] (spP K 4 fs_weighed)) (c_made : Cal P w K mg base 3 "made" ["d", "rows"] (spP K 2 fs_made)) {f : Addr} {fd : FuncData} (F : Fun K "either" "either" s_either f fd) : FnOk P w K mg base CX0 6 f fd ["one", "other", "k", "n"] (spP K 4 fs_either) := by
  refine ok_P F sc_either rfl (fun cdv A outer s H E hr =>
    (S_cons (S_expr (E_callC c_check_both (hr.mono (by decide)) rfl tk_P (EA_cons (E_name (pv 0)) (EA_cons (E_name (pv 1)) EA_nil))))
      (S_cons (S_expr (E_callC c_check_part (hr.mono (by decide)) rfl tk_P (EA_cons (E_name (pv 2)) (EA_cons (E_name (pv 3)) EA_nil))))
      (S_cons (S_asg (ps_asg (E_callC c_weighed (hr.mono (by decide)) rfl tk_P (EA_cons (E_name (pv 0)) (EA_cons (E_name (pv 1)) (EA_cons (E_name (pv 2)) (EA_cons (E_name (pv 3)) EA_nil))))) (EG_tup (is := [4, 5]) rfl (pg_tup rfl (pgs_cons (pg_name (i := 4) sc_either.nd rfl (by first | exact Or.inl rfl | exact Or.inr rfl)) (pgs_cons (pg_name (i := 5) sc_either.nd rfl (by first | exact Or.inl rfl | exact Or.inr rfl)) pgs_nil))))))
      (S_one (S_ret (E_callC c_made (hr.mono (by decide)) rfl tk_P (EA_cons (E_bin op_mulW opd_I (E_bin op_mulW opd_I (E_ix (E_name (pv 0)) E_int) (E_ix (E_name (pv 1)) E_int)) (E_name (pv 3))) (EA_cons (E_ls (EL_lc (own := [("row", 6), ("more", 7)]) rfl sc_either.nd (blkOk_by (by first | decide +kernel | rfl)) (by decide) (EI_zip (fun h => pi_zipA rfl T.bt.b_zip h) (EA_cons (E_name (pv 4)) (EA_cons (E_name (pv 5)) EA_nil))) (fun _ _ _ _ _ => (EG_tup (is := [6, 7]) rfl (pg_tup rfl (pgs_cons (pg_name (i := 6) sc_either.nd rfl (by first | exact Or.inl rfl | exact Or.inr rfl)) (pgs_cons (pg_name (i := 7) sc_either.nd rfl (by first | exact Or.inl rfl | exact Or.inr rfl)) pgs_nil))))) (fun _ _ _ _ _ => ETs_nil) (fun _ _ _ _ _ => (E_ls (EL_bin op_catR opd_cat (E_name (pv 6)) (E_name (pv 7))))))) EA_nil))))))))) (fun ds Φ hn h => ?_)
  obtain ⟨d, rows, e, goal, k, n, rfl, ht, hu, hl, hw, k0, kn, n1, n9, hM, hq⟩ := h
  have sd := small_d ht
  have se := small_d hu
  have sn : Sm 100 n := sm_le9 (by omega) (by omega)
  have d1 := ht.d1
  have e1 := hu.d1
  obtain ⟨ok, wl, ll⟩ := eitR_ok ht hu hl hw k0 kn
  refine sq_abs fun N1 hN1 => ?_
  walk_at "jv"
  refine ⟨d, rows, e, goal, rfl, ht, hu, hl, ?_⟩
  refine hN1 _ _ ?_
  refine sq_abs fun N2 hN2 => ?_
  walk_at "jv"
  refine ⟨k, n, rfl, k0, kn, n1, n9, ?_⟩
  refine hN2 _ _ ?_
  refine sq_abs fun N3 hN3 => ?_
  walk_at "jv"
  refine ⟨d, rows, e, goal, k, n, rfl, ht, hu, k0, kn, n9, _, rfl, ?_⟩
  refine hN3 _ _ ?_
  walk_at "jv"
  refine ⟨sd.cmul se (by decide) (by decide) (by decide), (sd.mul se).cmul sn (by decide) (by decide) (by decide), _, _, ⟨rfl, rfl⟩, _, rfl, _, rfl, rfl, ?_⟩
  have ez : zipD ((rows.map fun r => r.map (k * e * ·)).map fun r => dLI r) ((goal.map fun r => r.map ((n - k) * d * ·)).map fun r => dLI r) = (rows.zip goal).map fun p => D.tup [dLI (p.1.map (k * e * ·)), dLI (p.2.map ((n - k) * d * ·))] := by
    unfold zipD
    rw [List.map_map, List.map_map, List.zip_map, List.map_map]
    rfl
  rw [ez]
  have l2 := ht.ok.l2
  refine ⟨by rw [List.length_map, List.length_zip, sizeL]; omega, ?_⟩
  refine lcRun_mapOf _ (fun p => dLI (p.1.map (k * e * ·) ++ p.2.map ((n - k) * d * ·))) _ (fun p hp K t hK => ?_) ?_
  · walk_at "jv"
    refine ⟨by rw [sizeL]; obtain ⟨h1, h2⟩ := List.of_mem_zip (a := p.1) (b := p.2) hp; rw [ht.ok.len _ h1, hu.ok.len _ h2]; omega, ?_⟩
    rw [dLI, List.map_append] at hK
    exact hK
  · refine ⟨rfl, d * e * n, eitR (k * e) ((n - k) * d) rows goal, _, rfl, .inr (by rw [dLL, eitR, List.map_map]; rfl), by rw [ll]; exact ht.ok.l1, by rw [ll]; omega, by rw [wl]; exact hw, ok.len, Int.mul_pos (Int.mul_pos (by omega) (by omega)) (by omega), ((sd.mul se).mul sn).mono (by decide), hM, hq⟩

theorem ok_check_teller (T : Txt mg) (c_is_teller : Cal P w K mg base 3 "is_teller" ["thing"] (spP K 1 fs_is_teller)) {f : Addr} {fd : FuncData} (F : Fun K "check_teller" "check_teller" s_check_teller f fd) : FnOk P w K mg base CX0 4 f fd ["teller"] (spP K 1 fs_check_teller) := by
  refine ok_P F sc_check_teller rfl (fun cdv A outer s H E hr =>
    (S_one (S_if (EB_not (EB_val (E_callC c_is_teller (hr.mono (by decide)) rfl tk_P (EA_cons (E_name (pv 0)) EA_nil)))) (S_one S_never) S_nil))) (fun ds Φ hn h => ?_)
  obtain ⟨d, rows, rfl, ht, hq⟩ := h
  walk_at "jv"
  refine ⟨d, rows, rfl, ht, ?_⟩
  simp
  exact hq

end
end J

set_option Elab.async false
set_option linter.all false
set_option maxRecDepth 100000
set_option maxHeartbeats 4000000
namespace J
open PySem PySem.Spec L2 RZ
local macro_rules | `(tactic| walk_at "jv") => `(tactic| simp only [wSq, wIfS, wOrT, wAndT, wNotT, wB, wIsi, wName, wRet, wC, wNilS, wAndV, wOrV, wNotV, wBin, wUn, wIf, wChain, fI0, fI, fIsN, fNotN, fB, fAdd, fEq, fNe, fIx, wCall, wCons, wNil, wTup, wDrop, wSet, wOwn, wFrzA, wFrzB, wAsg, wPar, wxVal, wxOwn, wxNil, bindX, bindP, bindN, wLs, wLst, wLc, wLc2, lcBody, wYes, wipeE, J.wSeq, wRange1, wRange2, wEnum, wZip, wSl, wSlL, wNoO, wSomeO, wAppend, wExtend, wSetIx, wOwnIx, wOwnLen, wFor, wWhile, fLen, fAbs, fMin2, fMax2, fInt, fSum, fMax, fAll, fAny, fTuple, fList, fCat, fRep, startE, List.map, List.cons_append, List.nil_append, List.getElem?_cons_zero, List.getElem?_cons_succ, List.set_cons_zero, List.set_cons_succ, List.length_cons, List.length_nil, List.replicate, Option.some.injEq, Sl.val.injEq, Sl.own.injEq, D.int.injEq, D.bl.injEq, D.tup.injEq, D.lst.injEq, exists_eq_left', exists_eq_left, exists_eq_right, true_and, and_true, if_true, List.cons.injEq, exists_and_left, exists_const, items_tup, items_lst, isT_tup, isT_lst, atI_0, atI_1, atI_2, addD_int, addD_tup, intD_int, intD_bl, dTel, dRows, dI, dSta, dGar, dRat, tyq_tup, tyq_lst, tyq_int, tyq_str, tyq_bl, tyq_non, isi_tt, isi_ss, isi_ii, isi_ib, shp_eq_int, shp_eq_teller, shp_eq_stakes, shp_eq_garbler, eq_str_self, eq_int, Bool.not_true, Bool.not_false, Bool.false_eq_true, if_false, List.length_map, decide_eq_true_eq, Bool.not_eq_true', decide_eq_false_iff_not, Nat.zero_add, Nat.reduceAdd, ite_true, ite_false, Int.reduceAdd, wDctNew, wDctGet, wDctIx, wDctPut, wDctSorted, fRepT, Sl.dct.injEq, wCallT, fsT, lenI_tup, lenI_lst, lenI_scr, fsD, wDrTurn, wDrRest, wDrCells, wDrAny, wDrPop, wDrSetR, wDrSetT, drIs, wFld, wSetF, wSetFL, wCIx, wCApp, wCSet, wCFrz, wMeth, wMake, fsC, Cell.ins.injEq, Cell.lst.injEq, D.hdl.injEq, lk_many, lk_scale, lk_rows, lk_base, lk_costs, lk_m1, lk_m2, lk_m3, lk_m4, lk_m5, pu_scale, pu_rows, pu_base, pu_costs, setC_same, pp_1, pp_2, pp_3, pp_3', pp_4, pp_5, lk3_rows, lk3_many, lk4_many, ln_0, ln_1, ln_2, ln_3, ln_4, ln_5, wDctC, wDc, dcBody, wDctGetN, wListRg])
abbrev s_ratio : Stmt := topS 17
theorem sc_ratio : FnScope ["top", "bottom", "by"] ["top", "bottom"] (defScope s_ratio) := ⟨rfl, rfl, rfl, by decide +kernel, rfl, by decide +kernel, by decide +kernel⟩
abbrev s_guessing : Stmt := topS 28
theorem sc_guessing : FnScope ["teller", "rows", "word", "row"] ["teller"] (defScope s_guessing) := ⟨rfl, rfl, rfl, by decide +kernel, rfl, by decide +kernel, by decide +kernel⟩
abbrev s__law_less : Stmt := topS 79
theorem sc__law_less : FnScope ["first", "second"] ["first", "second"] (defScope s__law_less) := ⟨rfl, rfl, rfl, by decide +kernel, rfl, by decide +kernel, by decide +kernel⟩
abbrev s__law_stakes : Stmt := topS 85
theorem sc__law_stakes : FnScope ["draw", "many", "low", "deeds", "k", "state"] ["draw", "many", "low"] (defScope s__law_stakes) := ⟨rfl, rfl, rfl, by decide +kernel, rfl, by decide +kernel, by decide +kernel⟩
abbrev s_are_stakes : Stmt := topS 44
theorem sc_are_stakes : FnScope ["thing", "gains", "deed", "gain"] ["thing"] (defScope s_are_stakes) := ⟨rfl, rfl, rfl, by decide +kernel, rfl, by decide +kernel, by decide +kernel⟩
abbrev s_are_stakes_for : Stmt := topS 45
theorem sc_are_stakes_for : FnScope ["many", "thing"] ["many", "thing"] (defScope s_are_stakes_for) := ⟨rfl, rfl, rfl, by decide +kernel, rfl, by decide +kernel, by decide +kernel⟩
abbrev s_check_stakes_for : Stmt := topS 47
theorem sc_check_stakes_for : FnScope ["many", "stakes"] ["many", "stakes"] (defScope s_check_stakes_for) := ⟨rfl, rfl, rfl, by decide +kernel, rfl, by decide +kernel, by decide +kernel⟩
abbrev s_sums_at : Stmt := topS 48
theorem sc_sums_at : FnScope ["stakes", "numbers", "deed", "gain", "one"] ["stakes", "numbers"] (defScope s_sums_at) := ⟨rfl, rfl, rfl, by decide +kernel, rfl, by decide +kernel, by decide +kernel⟩
section
variable {P : Program} {w : World} {K : PySem.W.Frag} {mg : Str → Option Value} {base : Heap}
theorem ok_ratio (T : Txt mg) (c_divisor : Cal P w K mg base 1 "divisor" ["one", "other"] (spP K 2 fs_divisor)) {f : Addr} {fd : FuncData} (F : Fun K "ratio" "ratio" s_ratio f fd) : FnOk P w K mg base CX0 2 f fd ["top", "bottom"] (spP K 2 fs_ratio) := by
  refine ok_P F sc_ratio rfl (fun cdv A outer s H E hr =>
    (S_cons (S_set (i := 2) (ps_set (i := 2) sc_ratio.nd rfl (by first | exact Or.inl rfl | exact Or.inr rfl) (E_callC c_divisor (hr.mono (by decide)) rfl tk_P (EA_cons (E_name (pv 0)) (EA_cons (E_name (pv 1)) EA_nil)))))
      (S_one (S_ret (E_tup (EA_cons (E_bin op_fdivW opd_I (E_name (pv 0)) (E_name (pv 2))) (EA_cons (E_bin op_fdivW opd_I (E_name (pv 1)) (E_name (pv 2))) EA_nil))))))) (fun ds Φ hn h => ?_)
  obtain ⟨a, b, rfl, hb, hs, hq⟩ := h
  walk_at "jv"
  refine ⟨a, b, rfl, ?_⟩
  have h1 : 0 < gcdI a b := gcdI_pos hb
  have h2 := gcdI_le (a := a) hb
  have h3 : CDivW a (gcdI a b) := wide_div h1 (wide_le (Int.le_of_lt h1) h2 hs) (by decide) (by decide)
  exact ⟨_, rfl, h3, _, rfl, h3, by decide, hq⟩

theorem ok_guessing (T : Txt mg) (c_check_teller : Cal P w K mg base 4 "check_teller" ["teller"] (spP K 1 fs_check_teller)) (c_ratio : Cal P w K mg base 2 "ratio" ["top", "bottom"] (spP K 2 fs_ratio)) {f : Addr} {fd : FuncData} (F : Fun K "guessing" "guessing" s_guessing f fd) : FnOk P w K mg base CX0 5 f fd ["teller"] (spP K 1 fs_guessing) := by
  refine ok_P F sc_guessing rfl (fun cdv A outer s H E hr =>
    (S_cons (S_expr (E_callC c_check_teller (hr.mono (by decide)) rfl tk_P (EA_cons (E_name (pv 0)) EA_nil)))
      (S_cons (S_set (i := 1) (ps_set (i := 1) sc_guessing.nd rfl (by first | exact Or.inl rfl | exact Or.inr rfl) (E_ix (E_name (pv 0)) E_int)))
      (S_one (S_ret (E_callC c_ratio (hr.mono (by decide)) rfl tk_P (EA_cons (E_cb (fun h => pe_callB (cr_sumS rfl) rfl T.bt.b_sum b_sum h) opn_sum (EA_cons (E_ls (EL_lc (own := [("word", 2)]) rfl sc_guessing.nd (blkOk_by (by first | decide +kernel | rfl)) (by decide) (EI_range1 (fun h => pi_range1 rfl T.bt.b_range h) (EA_cons (E_cb (fun h => pe_callB call_len_seq rfl T.bt.b_len b_len h) opn_len (EA_cons (E_ix (E_name (pv 1)) E_int) EA_nil)) EA_nil)) (fun _ _ _ _ _ => (EG_name (pg_name (i := 2) sc_guessing.nd rfl (by first | exact Or.inl rfl | exact Or.inr rfl)))) (fun _ _ _ _ _ => ETs_nil) (fun _ _ _ _ _ => (E_cb (fun h => pe_callB (cr_maxS rfl) rfl T.bt.b_max b_max h) opn_max (EA_cons (E_ls (EL_lc (own := [("row", 3)]) rfl sc_guessing.nd (blkOk_by (by first | decide +kernel | rfl)) (by decide) (EI_seq (E_name (pv 1))) (fun _ _ _ _ _ => (EG_name (pg_name (i := 3) sc_guessing.nd rfl (by first | exact Or.inl rfl | exact Or.inr rfl)))) (fun _ _ _ _ _ => ETs_nil) (fun _ _ _ _ _ => (E_ix (E_name (pv 3)) (E_name (pv 2)))))) EA_nil))))) EA_nil)) (EA_cons (E_ix (E_name (pv 0)) E_int) EA_nil)))))))) (fun ds Φ hn h => ?_)
  obtain ⟨d, rows, rfl, ht, hq⟩ := h
  obtain ⟨r0, hr0, hlr0, hat⟩ := head_at ht.ok.l1
  have w2 := ht.ok.w2
  walk_at "jv"
  refine ⟨d, rows, rfl, ht, ?_⟩
  walk_at "jv"
  refine ⟨_, hat, _, rfl, ?_⟩
  rw [List.length_map, hlr0]
  refine ⟨by omega, by omega, by rw [rangeD_len, sizeL]; omega, ?_⟩
  rw [Int.toNat_natCast, rangeD_eq]
  refine lcRun_mapOf _ (fun y => D.int (maxL (rows.map fun r => r.getD y 0))) _ (fun y hy K t hK => ?_) ?_
  · have hy := List.mem_range.mp hy
    walk_at "jv"
    refine ⟨by rw [sizeL]; have := ht.ok.l2; omega, ?_⟩
    refine lcRun_mapOf _ (fun r => D.int (r.getD y 0)) _ (fun r hr K t hK => ?_) ?_
    · walk_at "jv"
      refine ⟨_, ?_, hK⟩
      rw [atI_map, atI_getD (by rw [ht.ok.len r hr]; exact hy)]
      rfl
    · refine ⟨rows.map fun r => r.getD y 0, .inl (by rw [List.map_map]; rfl), by rw [List.length_map]; have := ht.ok.l1; omega, fun m h1 h2 => ?_⟩
      rw [maxL_eq h1 h2] at hK
      exact hK
  · refine ⟨(cols rows).map maxL, .inl (by simp [cols, Function.comp_def]), ?_⟩
    have d1 := ht.d1
    exact ⟨_, d, rfl, by omega, (small_d ht).mono (by decide), hq⟩

theorem ok__law_less (T : Txt mg)  {f : Addr} {fd : FuncData} (F : Fun K "_law_less" "_law_less" s__law_less f fd) : FnOk P w K mg base CX0 1 f fd ["first", "second"] (spP K 2 fs__law_less) := by
  refine ok_P F sc__law_less rfl (fun cdv A outer s H E hr =>
    (S_one (S_ret (E_cmp op_lt opd_B0 (E_bin op_mulW opd_I (E_ix (E_name (pv 0)) E_int) (E_ix (E_name (pv 1)) E_int)) (E_bin op_mulW opd_I (E_ix (E_name (pv 1)) E_int) (E_ix (E_name (pv 0)) E_int)) (nomark _))))) (fun ds Φ hn h => ?_)
  obtain ⟨p, q, rfl, h1, h2, h3, h4, hq⟩ := h
  walk_at "jv"
  exact ⟨h1.cmul h4 (by decide) (by decide) (by decide), h3.cmul h2 (by decide) (by decide) (by decide), hq⟩

theorem ok__law_stakes (T : Txt mg) (c__law_take : Cal P w K mg base 2 "_law_take" ["draw", "many"] (spD K 2 fs__law_take)) {f : Addr} {fd : FuncData} (F : Fun K "_law_stakes" "_law_stakes" s__law_stakes f fd) : FnOk P w K mg base CX0 3 f fd ["draw", "many", "low"] (spD K 3 fs__law_stakes) := by
  refine ok_D F sc__law_stakes rfl (fun cdv A outer s H E dl dl2 dc dt hr =>
    (S_cons (S_own (i := 3) (ps_set (i := 3) sc__law_stakes.nd rfl (by first | exact Or.inl rfl | exact Or.inr rfl) (EL_lst EA_nil)))
      (S_cons (S_for PassesOwn.never rfl (EI_range1 (fun h => pi_range1 rfl T.bt.b_range h) (EA_cons (E_bin op_addIT opd_add E_int (E_callC c__law_take (hr.mono (by decide)) rfl tk_D (EA_cons (E_name (pv 0)) (EA_cons E_int EA_nil)))) EA_nil)) (EG_name (pg_name (i := 4) sc__law_stakes.nd rfl (by first | exact Or.inl rfl | exact Or.inr rfl))) (S_one (S_append (i := 3) (ps_expr (pe_bm PySem.F.plainAttrs_list PySem.F.slot_list_append PySem.F.type_list_append mt_append (pv 3) (pa_cons (E_cb (fun h => pe_callTy call_tuple_of rfl T.bt.b_tuple b_tuple h) opn_tuple (EA_cons (E_ls (EL_lc (own := [("state", 5)]) rfl sc__law_stakes.nd (blkOk_by (by first | decide +kernel | rfl)) (by decide) (EI_range1 (fun h => pi_range1 rfl T.bt.b_range h) (EA_cons (E_name (pv 1)) EA_nil)) (fun _ _ _ _ _ => (EG_name (pg_name (i := 5) sc__law_stakes.nd rfl (by first | exact Or.inl rfl | exact Or.inr rfl)))) (fun _ _ _ _ _ => ETs_nil) (fun _ _ _ _ _ => (E_bin op_addIT opd_add (E_name (pv 2)) (E_callC c__law_take (hr.mono (by decide)) rfl tk_D (EA_cons (E_name (pv 0)) (EA_cons E_int EA_nil))))))) EA_nil)) pa_nil))))))
      (S_one (S_frzB (i := 3) (S_ret (E_tup (EA_cons E_str (EA_cons (E_cb (fun h => pe_callTy call_tuple_of rfl T.bt.b_tuple b_tuple h) opn_tuple (EA_cons (E_name (pv 3)) EA_nil)) EA_nil))))))))) (fun dr ds Φ t hn h => ?_)
  obtain ⟨many, low, rfl, m1, m2, n, hb, hn, hq⟩ := h
  walk_at "jv"
  refine ⟨by rw [sizeL]; decide, 4, rfl, by decide, sm_small (by decide) (by decide), n, hb, by omega, fun r t1 r0 r1 ht1 => ?_⟩
  walk_at "jv"
  refine ⟨trivial, by omega, by omega, ?_⟩
  refine ⟨fun k ρ t => Dr (n + 1 + 6 * k) t ∧ ∃ (g : List (List Int)) (u v : Sl), ρ = [.val (.hdl dr), .val (.int many), .val (.int low), .own (g.map fun r => dI r), u, v] ∧ g.length = k ∧ (∀ r ∈ g, r.length = many ∧ ∀ x ∈ r, low ≤ x ∧ x ≤ low + 11), ⟨ht1, [], _, _, rfl, rfl, by simp⟩, ?_, ?_⟩
  · rintro k ρ t2 e ⟨hb2, g, u, v, rfl, hl, hg⟩ he
    obtain ⟨hk, rfl⟩ := range_at he
    walk_at "jv"
    refine ⟨by omega, by omega, by rw [rangeD_len, sizeL]; omega, ?_⟩
    rw [Int.toNat_natCast]
    refine lcRun_inv (fun j acc t => Dr (n + 1 + 6 * k + j) t ∧ ∃ ns : List Int, acc = ns.map .int ∧ ns.length = j ∧ ∀ x ∈ ns, low ≤ x ∧ x ≤ low + 11) _ ⟨hb2, [], rfl, rfl, by simp⟩ ?_ ?_
    · rintro j d acc K t3 hd ⟨hb3, ns, rfl, nl, hx⟩ hK
      obtain ⟨hj, rfl⟩ := range_at hd
      walk_at "jv"
      refine ⟨12, rfl, by decide, sm_small (by decide) (by decide), _, hb3, by omega, fun r2 t4 r20 r21 ht4 => ?_⟩
      refine ⟨_, rfl, trivial, hK [.int (low + r2)] t4 ⟨ht4, ns ++ [low + r2], by simp, by simp [nl], fun x hx' => ?_⟩⟩
      rcases List.mem_append.mp hx' with h | h
      · exact hx x h
      · simp at h; subst h; omega
    · rintro acc t3 ⟨hb3, ns, rfl, nl, hx⟩
      rw [rangeD_len] at nl hb3
      refine ⟨by rw [sizeL]; omega, hb3.mono (by omega), g ++ [ns], _, _, ⟨by rw [List.map_append]; rfl, rfl, rfl⟩, by rw [List.length_append, hl]; rfl, fun r hr => ?_⟩
      rcases List.mem_append.mp hr with h | h
      · exact hg r h
      · simp at h; subst h; exact ⟨nl, hx⟩
  · rintro ρ t2 ⟨hb2, g, u, v, rfl, hl, hg⟩
    rw [rangeD_len] at hl hb2
    walk_at "jv"
    exact ⟨by rw [sizeL]; decide, hq g t2 (by omega) ⟨by omega, fun r h => (hg r h).1, fun r h => (hg r h).2⟩ (hb2.mono (by omega))⟩

theorem ok_are_stakes (T : Txt mg)  {f : Addr} {fd : FuncData} (F : Fun K "are_stakes" "are_stakes" s_are_stakes f fd) : FnOk P w K mg base CX0 1 f fd ["thing"] (spP K 1 fs_are_stakes) := by
  obtain ⟨t_STATES, k_STATES⟩ := T.k_STATES
  obtain ⟨t_DEEDS, k_DEEDS⟩ := T.k_DEEDS
  refine ok_P F sc_are_stakes rfl (fun cdv A outer s H E hr =>
    (S_cons (S_if (PW.pt (EB_or (EB_not (EB_val (E_isi (ty := "tuple") (by decide) (fun h => pe_callB call_isi rfl T.bt.b_isinstance b_isinstance (pa_cons h (pa_cons (pe_bltn rfl T.bt.b_tuple b_tuple rfl) pa_nil))) (E_name (pv 0))))) (EB_or (EB_cmp (op_neD hr.units) opd_ne (E_cb (fun h => pe_callB call_len_seq rfl T.bt.b_len b_len h) opn_len (EA_cons (E_name (pv 0)) EA_nil)) E_int (nomark _)) (EB_or (EB_not (EB_val (E_isi (ty := "str") (by decide) (fun h => pe_callB call_isi rfl T.bt.b_isinstance b_isinstance (pa_cons h (pa_cons (pe_bltn rfl T.bt.b_str b_str rfl) pa_nil))) (E_ix (E_name (pv 0)) E_int)))) (EB_or1 (EB_cmp (op_neD hr.units) opd_ne (E_ix (E_name (pv 0)) E_int) E_str (nomark _))))))) (S_one (S_ret E_bl)) S_nil)
      (S_cons (S_set (i := 1) (ps_set (i := 1) sc_are_stakes.nd rfl (by first | exact Or.inl rfl | exact Or.inr rfl) (E_ix (E_name (pv 0)) E_int)))
      (S_cons (S_if (PW.pt (EB_or (EB_not (EB_val (E_isi (ty := "tuple") (by decide) (fun h => pe_callB call_isi rfl T.bt.b_isinstance b_isinstance (pa_cons h (pa_cons (pe_bltn rfl T.bt.b_tuple b_tuple rfl) pa_nil))) (E_name (pv 1))))) (EB_or1 (EB_not (EB_chain op_le op_le opd_B0 opd_B0 E_int (E_cb (fun h => pe_callB call_len_seq rfl T.bt.b_len b_len h) opn_len (EA_cons (E_name (pv 1)) EA_nil)) (E_gint rfl k_DEEDS)))))) (S_one (S_ret E_bl)) S_nil)
      (S_cons (S_if (EB_not (EB_val (E_cb (fun h => pe_callB (cr_all rfl) rfl T.bt.b_all b_all h) opn_all (EA_cons (E_ls (EL_lc (own := [("deed", 2)]) rfl sc_are_stakes.nd (blkOk_by (by first | decide +kernel | rfl)) (by decide) (EI_seq (E_name (pv 1))) (fun _ _ _ _ _ => (EG_name (pg_name (i := 2) sc_are_stakes.nd rfl (by first | exact Or.inl rfl | exact Or.inr rfl)))) (fun _ _ _ _ _ => ETs_nil) (fun _ _ _ _ _ => (E_and (E_isi (ty := "tuple") (by decide) (fun h => pe_callB call_isi rfl T.bt.b_isinstance b_isinstance (pa_cons h (pa_cons (pe_bltn rfl T.bt.b_tuple b_tuple rfl) pa_nil))) (E_name (pv 2))) (E_one (E_chain op_le op_le opd_B0 opd_B0 E_int (E_cb (fun h => pe_callB call_len_seq rfl T.bt.b_len b_len h) opn_len (EA_cons (E_name (pv 2)) EA_nil)) (E_gint rfl k_STATES))))))) EA_nil)))) (S_one (S_ret E_bl)) S_nil)
      (S_cons (S_if (EB_not (EB_val (E_cb (fun h => pe_callB (cr_all rfl) rfl T.bt.b_all b_all h) opn_all (EA_cons (E_ls (EL_lc2 (own := [("deed", 2), ("gain", 3)]) (vs1 := [3]) rfl sc_are_stakes.nd (blkOk_by (by first | decide +kernel | rfl)) (by decide) (by decide) (by decide) (EI_seq (E_name (pv 1))) (fun _ _ _ _ _ => (EG_name (pg_name (i := 2) sc_are_stakes.nd rfl (by first | exact Or.inl rfl | exact Or.inr rfl)))) (fun _ _ _ _ _ => ETs_nil) (fun _ _ _ _ _ => (EI_seq (E_name (pv 2)))) (fun _ _ _ _ _ => (EG_name (pg_name (i := 3) sc_are_stakes.nd rfl (by first | exact Or.inl rfl | exact Or.inr rfl)))) (fun _ _ _ _ _ => ETs_nil) (fun _ _ _ _ _ => (E_and (E_isi (ty := "int") (by decide) (fun h => pe_callB call_isi rfl T.bt.b_isinstance b_isinstance (pa_cons h (pa_cons (pe_bltn rfl T.bt.b_int b_int rfl) pa_nil))) (E_name (pv 3))) (E_one (E_not (E_isi (ty := "bool") (by decide) (fun h => pe_callB call_isi rfl T.bt.b_isinstance b_isinstance (pa_cons h (pa_cons (pe_bltn rfl T.bt.b_bool b_bool rfl) pa_nil))) (E_name (pv 3))))))))) EA_nil)))) (S_one (S_ret E_bl)) S_nil)
      (S_one (S_ret (E_cb (fun h => pe_callB (cr_all rfl) rfl T.bt.b_all b_all h) opn_all (EA_cons (E_ls (EL_lc (own := [("deed", 2)]) rfl sc_are_stakes.nd (blkOk_by (by first | decide +kernel | rfl)) (by decide) (EI_seq (E_name (pv 1))) (fun _ _ _ _ _ => (EG_name (pg_name (i := 2) sc_are_stakes.nd rfl (by first | exact Or.inl rfl | exact Or.inr rfl)))) (fun _ _ _ _ _ => ETs_nil) (fun _ _ _ _ _ => (E_cmp (op_eqD hr.units) opd_eq (E_cb (fun h => pe_callB call_len_seq rfl T.bt.b_len b_len h) opn_len (EA_cons (E_name (pv 2)) EA_nil)) (E_cb (fun h => pe_callB call_len_seq rfl T.bt.b_len b_len h) opn_len (EA_cons (E_ix (E_name (pv 1)) E_int) EA_nil)) (nomark _))))) EA_nil)))))))))) (fun ds Φ hn h => ?_)
  obtain ⟨g, rfl, ok, hq⟩ := h
  have l1 := ok.l1
  have l2 := ok.l2
  obtain ⟨r0, hr0, hlr0, hat⟩ := head_at l1
  have i1 : (1 : Int) ≤ g.length := by omega
  have i2 : (g.length : Int) ≤ 12 := by omega
  walk_at "jv"
  simp only [i1, i2, if_true, if_false, not_true]
  refine ⟨by rw [sizeL]; omega, ?_⟩
  refine lcRun_mapOf _ (fun _ => D.bl true) _ (fun r hr K t hK => ?_) ?_
  · walk_at "jv"
    have h1 := ok.w1
    have h2 := ok.w2
    have h3 := ok.len r hr
    rw [if_pos (by omega)]
    rw [decide_eq_true (by omega)]
    exact hK
  refine ⟨g.map fun _ => true, by simp [Function.comp_def], ?_⟩
  rw [if_neg (by simp)]
  refine lc2_mapOf _ (fun r => r) D.int (fun _ _ => D.bl true) g (fun r hr => ?_) ?_ ?_
  · refine ⟨_, rfl, fun Kb t h => h, fun Kl t h => ?_, fun y hy => ⟨_, rfl, fun Kb t h => h, fun K' t h => ?_⟩⟩
    · walk_at "jv"; exact h
    · walk_at "jv"; exact h
  · rw [flatMap_id', sizeL]
    exact Nat.le_trans (flat_len (a := 12) (b := 12) (by omega) (fun r hr => by rw [ok.len r hr]; have := ok.w2; omega)) (by decide)
  refine ⟨g.flatMap fun r => r.map fun _ => true, by simp [List.map_flatMap, Function.comp_def], ?_⟩
  rw [if_neg (by simp [List.all_flatMap])]
  refine ⟨by rw [sizeL]; omega, ?_⟩
  refine lcRun_mapOf _ (fun _ => D.bl true) _ (fun r hr K t hK => ?_) ?_
  · walk_at "jv"
    refine ⟨_, hat, _, rfl, ?_⟩
    walk_at "jv"
    rw [decide_eq_true (by rw [ok.len r hr, hlr0])]
    exact hK
  refine ⟨g.map fun _ => true, by simp [Function.comp_def], ?_⟩
  have e : (g.map fun _ => true).all id = true := by simp
  rw [e]
  exact hq

theorem ok_are_stakes_for (T : Txt mg) (c_are_stakes : Cal P w K mg base 1 "are_stakes" ["thing"] (spP K 1 fs_are_stakes)) {f : Addr} {fd : FuncData} (F : Fun K "are_stakes_for" "are_stakes_for" s_are_stakes_for f fd) : FnOk P w K mg base CX0 2 f fd ["many", "thing"] (spP K 2 fs_are_stakes_for) := by
  refine ok_P F sc_are_stakes_for rfl (fun cdv A outer s H E hr =>
    (S_one (S_ret (E_and (E_callC c_are_stakes (hr.mono (by decide)) rfl tk_P (EA_cons (E_name (pv 1)) EA_nil)) (E_one (E_cmp (op_eqD hr.units) opd_eq (E_cb (fun h => pe_callB call_len_seq rfl T.bt.b_len b_len h) opn_len (EA_cons (E_ix (E_ix (E_name (pv 1)) E_int) E_int) EA_nil)) (E_name (pv 0)) (nomark _))))))) (fun ds Φ hn h => ?_)
  obtain ⟨g, many, rfl, ok, hm, hq⟩ := h
  obtain ⟨r0, hr0, hlr0, hat⟩ := head_at ok.l1
  walk_at "jv"
  refine ⟨g, rfl, ok, ?_⟩
  walk_at "jv"
  refine ⟨_, hat, _, rfl, ?_⟩
  walk_at "jv"
  rw [decide_eq_true (by rw [hlr0, hm])]
  exact hq

theorem ok_check_stakes_for (T : Txt mg) (c_are_stakes_for : Cal P w K mg base 2 "are_stakes_for" ["many", "thing"] (spP K 2 fs_are_stakes_for)) {f : Addr} {fd : FuncData} (F : Fun K "check_stakes_for" "check_stakes_for" s_check_stakes_for f fd) : FnOk P w K mg base CX0 3 f fd ["many", "stakes"] (spP K 2 fs_check_stakes_for) := by
  refine ok_P F sc_check_stakes_for rfl (fun cdv A outer s H E hr =>
    (S_one (S_if (EB_not (EB_val (E_callC c_are_stakes_for (hr.mono (by decide)) rfl tk_P (EA_cons (E_name (pv 0)) (EA_cons (E_name (pv 1)) EA_nil))))) (S_one S_never) S_nil))) (fun ds Φ hn h => ?_)
  obtain ⟨g, many, rfl, ok, hm, hq⟩ := h
  walk_at "jv"
  refine ⟨g, many, rfl, ok, hm, ?_⟩
  simp
  exact hq

theorem ok_sums_at (T : Txt mg)  {f : Addr} {fd : FuncData} (F : Fun K "sums_at" "sums_at" s_sums_at f fd) : FnOk P w K mg base CX0 1 f fd ["stakes", "numbers"] (spP K 2 fs_sums_at) := by
  refine ok_P F sc_sums_at rfl (fun cdv A outer s H E hr =>
    (S_one (S_ret (E_ls (EL_lc (own := [("deed", 2)]) rfl sc_sums_at.nd (blkOk_by (by first | decide +kernel | rfl)) (by decide) (EI_seq (E_ix (E_name (pv 0)) E_int)) (fun _ _ _ _ _ => (EG_name (pg_name (i := 2) sc_sums_at.nd rfl (by first | exact Or.inl rfl | exact Or.inr rfl)))) (fun _ _ _ _ _ => ETs_nil) (fun _ _ _ _ _ => (E_cb (fun h => pe_callB (cr_sumS rfl) rfl T.bt.b_sum b_sum h) opn_sum (EA_cons (E_ls (EL_lc (own := [("gain", 3), ("one", 4)]) rfl sc_sums_at.nd (blkOk_by (by first | decide +kernel | rfl)) (by decide) (EI_zip (fun h => pi_zipA rfl T.bt.b_zip h) (EA_cons (E_name (pv 2)) (EA_cons (E_name (pv 1)) EA_nil))) (fun _ _ _ _ _ => (EG_tup (is := [3, 4]) rfl (pg_tup rfl (pgs_cons (pg_name (i := 3) sc_sums_at.nd rfl (by first | exact Or.inl rfl | exact Or.inr rfl)) (pgs_cons (pg_name (i := 4) sc_sums_at.nd rfl (by first | exact Or.inl rfl | exact Or.inr rfl)) pgs_nil))))) (fun _ _ _ _ _ => ETs_nil) (fun _ _ _ _ _ => (E_bin op_mulW opd_I (E_name (pv 3)) (E_name (pv 4)))))) EA_nil)))))))) (fun ds Φ hn h => ?_)
  obtain ⟨g, c, rfl, ok, hc, hq⟩ := h
  walk_at "jv"
  refine ⟨by rw [sizeL]; have := ok.l2; omega, ?_⟩
  refine lcRun_mapOf _ (fun a => D.int (dot a c)) _ (fun a ha K t hK => ?_) ?_
  · walk_at "jv"
    refine ⟨_, _, ⟨rfl, rfl⟩, _, rfl, _, rfl, rfl, ?_⟩
    rw [zipD_int]
    refine ⟨by rw [List.length_map, List.length_zip, sizeL]; have := ok.len a ha; have := ok.w2; omega, ?_⟩
    refine lcRun_mapOf _ (fun p => D.int (p.1 * p.2)) _ (fun p hp K t hK => ?_) ?_
    · have h1 := ok.sm a ha p.1 (List.of_mem_zip hp).1
      have h2 := hc p.2 (List.of_mem_zip hp).2
      walk_at "jv"
      exact ⟨h1.cmul h2 (by decide) (by decide) (by decide), hK⟩
    · refine ⟨(a.zip c).map fun p => p.1 * p.2, .inl (by simp [Function.comp_def]), ?_⟩
      exact hK
  · rw [dLI, sumsAt, List.map_map] at hq
    exact hq

end
end J

set_option Elab.async false
set_option linter.all false
set_option maxRecDepth 100000
set_option maxHeartbeats 4000000
namespace J
open PySem PySem.Spec L2 RZ
local macro_rules | `(tactic| walk_at "jv") => `(tactic| simp only [wSq, wIfS, wOrT, wAndT, wNotT, wB, wIsi, wName, wRet, wC, wNilS, wAndV, wOrV, wNotV, wBin, wUn, wIf, wChain, fI0, fI, fIsN, fNotN, fB, fAdd, fEq, fNe, fIx, wCall, wCons, wNil, wTup, wDrop, wSet, wOwn, wFrzA, wFrzB, wAsg, wPar, wxVal, wxOwn, wxNil, bindX, bindP, bindN, wLs, wLst, wLc, wLc2, lcBody, wYes, wipeE, J.wSeq, wRange1, wRange2, wEnum, wZip, wSl, wSlL, wNoO, wSomeO, wAppend, wExtend, wSetIx, wOwnIx, wOwnLen, wFor, wWhile, fLen, fAbs, fMin2, fMax2, fInt, fSum, fMax, fAll, fAny, fTuple, fList, fCat, fRep, startE, List.map, List.cons_append, List.nil_append, List.getElem?_cons_zero, List.getElem?_cons_succ, List.set_cons_zero, List.set_cons_succ, List.length_cons, List.length_nil, List.replicate, Option.some.injEq, Sl.val.injEq, Sl.own.injEq, D.int.injEq, D.bl.injEq, D.tup.injEq, D.lst.injEq, exists_eq_left', exists_eq_left, exists_eq_right, true_and, and_true, if_true, List.cons.injEq, exists_and_left, exists_const, items_tup, items_lst, isT_tup, isT_lst, atI_0, atI_1, atI_2, addD_int, addD_tup, intD_int, intD_bl, dTel, dRows, dI, dSta, dGar, dRat, tyq_tup, tyq_lst, tyq_int, tyq_str, tyq_bl, tyq_non, isi_tt, isi_ss, isi_ii, isi_ib, shp_eq_int, shp_eq_teller, shp_eq_stakes, shp_eq_garbler, eq_str_self, eq_int, Bool.not_true, Bool.not_false, Bool.false_eq_true, if_false, List.length_map, decide_eq_true_eq, Bool.not_eq_true', decide_eq_false_iff_not, Nat.zero_add, Nat.reduceAdd, ite_true, ite_false, Int.reduceAdd, wDctNew, wDctGet, wDctIx, wDctPut, wDctSorted, fRepT, Sl.dct.injEq, wCallT, fsT, lenI_tup, lenI_lst, lenI_scr, fsD, wDrTurn, wDrRest, wDrCells, wDrAny, wDrPop, wDrSetR, wDrSetT, drIs, wFld, wSetF, wSetFL, wCIx, wCApp, wCSet, wCFrz, wMeth, wMake, fsC, Cell.ins.injEq, Cell.lst.injEq, D.hdl.injEq, lk_many, lk_scale, lk_rows, lk_base, lk_costs, lk_m1, lk_m2, lk_m3, lk_m4, lk_m5, pu_scale, pu_rows, pu_base, pu_costs, setC_same, pp_1, pp_2, pp_3, pp_3', pp_4, pp_5, lk3_rows, lk3_many, lk4_many, ln_0, ln_1, ln_2, ln_3, ln_4, ln_5, wDctC, wDc, dcBody, wDctGetN, wListRg])
abbrev s_worth_told : Stmt := topS 49
theorem sc_worth_told : FnScope ["teller", "stakes", "numbers"] ["teller", "stakes"] (defScope s_worth_told) := ⟨rfl, rfl, rfl, by decide +kernel, rfl, by decide +kernel, by decide +kernel⟩
abbrev s_worth : Stmt := topS 50
theorem sc_worth : FnScope ["teller", "stakes"] ["teller", "stakes"] (defScope s_worth) := ⟨rfl, rfl, rfl, by decide +kernel, rfl, by decide +kernel, by decide +kernel⟩
abbrev s_check_stakes : Stmt := topS 46
theorem sc_check_stakes : FnScope ["stakes"] ["stakes"] (defScope s_check_stakes) := ⟨rfl, rfl, rfl, by decide +kernel, rfl, by decide +kernel, by decide +kernel⟩
abbrev s_unheard : Stmt := topS 51
theorem sc_unheard : FnScope ["stakes", "deed"] ["stakes"] (defScope s_unheard) := ⟨rfl, rfl, rfl, by decide +kernel, rfl, by decide +kernel, by decide +kernel⟩
abbrev s_check_pair : Stmt := topS 53
theorem sc_check_pair : FnScope ["one", "other"] ["one", "other"] (defScope s_check_pair) := ⟨rfl, rfl, rfl, by decide +kernel, rfl, by decide +kernel, by decide +kernel⟩
abbrev s_common_garblers : Stmt := topS 30
theorem sc_common_garblers : FnScope ["numbers", "found", "number", "rest"] ["numbers"] (defScope s_common_garblers) := ⟨rfl, rfl, rfl, by decide +kernel, rfl, by decide +kernel, by decide +kernel⟩
abbrev s_evened : Stmt := topS 54
theorem sc_evened : FnScope ["one", "other", "by", "mine", "yours", "rows", "row", "number"] ["one", "other"] (defScope s_evened) := ⟨rfl, rfl, rfl, by decide +kernel, rfl, by decide +kernel, by decide +kernel⟩
abbrev s_equations : Stmt := topS 55
theorem sc_equations : FnScope ["one", "other", "rows", "goal", "heard", "said", "matrix", "rest", "x", "z", "y", "k"] ["one", "other"] (defScope s_equations) := ⟨rfl, rfl, rfl, by decide +kernel, rfl, by decide +kernel, by decide +kernel⟩
section
variable {P : Program} {w : World} {K : PySem.W.Frag} {mg : Str → Option Value} {base : Heap}
theorem ok_worth_told (T : Txt mg) (c_ratio : Cal P w K mg base 2 "ratio" ["top", "bottom"] (spP K 2 fs_ratio)) (c_sums_at : Cal P w K mg base 1 "sums_at" ["stakes", "numbers"] (spP K 2 fs_sums_at)) (c_columns_of : Cal P w K mg base 1 "columns_of" ["teller"] (spP K 1 fs_columns_of)) {f : Addr} {fd : FuncData} (F : Fun K "worth_told" "worth_told" s_worth_told f fd) : FnOk P w K mg base CX0 3 f fd ["teller", "stakes"] (spP K 2 fs_worth_told) := by
  refine ok_P F sc_worth_told rfl (fun cdv A outer s H E hr =>
    (S_one (S_ret (E_callC c_ratio (hr.mono (by decide)) rfl tk_P (EA_cons (E_cb (fun h => pe_callB (cr_sumS rfl) rfl T.bt.b_sum b_sum h) opn_sum (EA_cons (E_ls (EL_lc (own := [("numbers", 2)]) rfl sc_worth_told.nd (blkOk_by (by first | decide +kernel | rfl)) (by decide) (EI_seq (E_callC c_columns_of (hr.mono (by decide)) rfl tk_P (EA_cons (E_name (pv 0)) EA_nil))) (fun _ _ _ _ _ => (EG_name (pg_name (i := 2) sc_worth_told.nd rfl (by first | exact Or.inl rfl | exact Or.inr rfl)))) (fun _ _ _ _ _ => ETs_nil) (fun _ _ _ _ _ => (E_cb (fun h => pe_callB (cr_maxS rfl) rfl T.bt.b_max b_max h) opn_max (EA_cons (E_callC c_sums_at (hr.mono (by decide)) rfl tk_P (EA_cons (E_name (pv 1)) (EA_cons (E_name (pv 2)) EA_nil))) EA_nil))))) EA_nil)) (EA_cons (E_ix (E_name (pv 0)) E_int) EA_nil)))))) (fun ds Φ hn h => ?_)
  obtain ⟨d, rows, g, rfl, ht, ok, hw, hq⟩ := h
  have sd := small_d ht
  have sc : ∀ c ∈ cols rows, ∀ x ∈ c, Sm 400000 x := fun c hc x hx => (cols_sm ht.ok sd hc hx).mono (by decide)
  walk_at "jv"
  refine ⟨d, rows, rfl, ht, ?_⟩
  walk_at "jv"
  refine ⟨by rw [sizeL]; have := ht.ok.w2; rw [cols_len]; omega, ?_⟩
  refine lcRun_mapOf _ (fun c => D.int (maxL (sumsAt g c))) _ (fun c hc K t hK => ?_) ?_
  · walk_at "jv"
    refine ⟨g, c, rfl, ok, sc c hc, _, .inl rfl, ?_, fun m h1 h2 => ?_⟩
    · rw [sumsAt, List.length_map]; have := ok.l1; omega
    · rw [maxL_eq h1 h2] at hK; exact hK
  · refine ⟨(cols rows).map fun c => maxL (sumsAt g c), .inl (by simp [Function.comp_def]), ?_⟩
    have h1 := ht.d1
    exact ⟨_, d, rfl, by omega, sd.mono (by decide), hq⟩

theorem ok_worth (T : Txt mg) (c_check_teller : Cal P w K mg base 4 "check_teller" ["teller"] (spP K 1 fs_check_teller)) (c_check_stakes_for : Cal P w K mg base 3 "check_stakes_for" ["many", "stakes"] (spP K 2 fs_check_stakes_for)) (c_worth_told : Cal P w K mg base 3 "worth_told" ["teller", "stakes"] (spP K 2 fs_worth_told)) {f : Addr} {fd : FuncData} (F : Fun K "worth" "worth" s_worth f fd) : FnOk P w K mg base CX0 5 f fd ["teller", "stakes"] (spP K 2 fs_worth) := by
  refine ok_P F sc_worth rfl (fun cdv A outer s H E hr =>
    (S_cons (S_expr (E_callC c_check_teller (hr.mono (by decide)) rfl tk_P (EA_cons (E_name (pv 0)) EA_nil)))
      (S_cons (S_expr (E_callC c_check_stakes_for (hr.mono (by decide)) rfl tk_P (EA_cons (E_cb (fun h => pe_callB call_len_seq rfl T.bt.b_len b_len h) opn_len (EA_cons (E_ix (E_name (pv 0)) E_int) EA_nil)) (EA_cons (E_name (pv 1)) EA_nil))))
      (S_one (S_ret (E_callC c_worth_told (hr.mono (by decide)) rfl tk_P (EA_cons (E_name (pv 0)) (EA_cons (E_name (pv 1)) EA_nil)))))))) (fun ds Φ hn h => ?_)
  obtain ⟨d, rows, g, rfl, ht, ok, hw, hq⟩ := h
  walk_at "jv"
  refine ⟨d, rows, rfl, ht, g, _, rfl, ok, by rw [hw], ?_⟩
  exact ⟨d, rows, g, rfl, ht, ok, hw, hq⟩

theorem ok_check_stakes (T : Txt mg) (c_are_stakes : Cal P w K mg base 1 "are_stakes" ["thing"] (spP K 1 fs_are_stakes)) {f : Addr} {fd : FuncData} (F : Fun K "check_stakes" "check_stakes" s_check_stakes f fd) : FnOk P w K mg base CX0 2 f fd ["stakes"] (spP K 1 fs_check_stakes) := by
  refine ok_P F sc_check_stakes rfl (fun cdv A outer s H E hr =>
    (S_one (S_if (EB_not (EB_val (E_callC c_are_stakes (hr.mono (by decide)) rfl tk_P (EA_cons (E_name (pv 0)) EA_nil)))) (S_one S_never) S_nil))) (fun ds Φ hn h => ?_)
  obtain ⟨g, rfl, ok, hq⟩ := h
  walk_at "jv"
  refine ⟨g, rfl, ok, ?_⟩
  simp
  exact hq

theorem ok_unheard (T : Txt mg) (c_check_stakes : Cal P w K mg base 2 "check_stakes" ["stakes"] (spP K 1 fs_check_stakes)) {f : Addr} {fd : FuncData} (F : Fun K "unheard" "unheard" s_unheard f fd) : FnOk P w K mg base CX0 3 f fd ["stakes"] (spP K 1 fs_unheard) := by
  refine ok_P F sc_unheard rfl (fun cdv A outer s H E hr =>
    (S_cons (S_expr (E_callC c_check_stakes (hr.mono (by decide)) rfl tk_P (EA_cons (E_name (pv 0)) EA_nil)))
      (S_one (S_ret (E_cb (fun h => pe_callB (cr_maxS rfl) rfl T.bt.b_max b_max h) opn_max (EA_cons (E_ls (EL_lc (own := [("deed", 1)]) rfl sc_unheard.nd (blkOk_by (by first | decide +kernel | rfl)) (by decide) (EI_seq (E_ix (E_name (pv 0)) E_int)) (fun _ _ _ _ _ => (EG_name (pg_name (i := 1) sc_unheard.nd rfl (by first | exact Or.inl rfl | exact Or.inr rfl)))) (fun _ _ _ _ _ => ETs_nil) (fun _ _ _ _ _ => (E_cb (fun h => pe_callB (cr_sumS rfl) rfl T.bt.b_sum b_sum h) opn_sum (EA_cons (E_name (pv 1)) EA_nil))))) EA_nil)))))) (fun ds Φ hn h => ?_)
  obtain ⟨g, rfl, ok, hq⟩ := h
  walk_at "jv"
  refine ⟨g, rfl, ok, by rw [sizeL]; have := ok.l2; omega, ?_⟩
  refine lcRun_mapOf _ (fun a => D.int a.sum) _ (fun a ha K t hK => ?_) ?_
  · walk_at "jv"
    exact ⟨a, .inr rfl, hK⟩
  · refine ⟨g.map List.sum, .inl (by simp [Function.comp_def]), by rw [List.length_map]; have := ok.l1; omega, fun m h1 h2 => ?_⟩
    rw [maxL_eq h1 h2] at hq
    exact hq

theorem ok_check_pair (T : Txt mg) (c_is_teller : Cal P w K mg base 3 "is_teller" ["thing"] (spP K 1 fs_is_teller)) {f : Addr} {fd : FuncData} (F : Fun K "check_pair" "check_pair" s_check_pair f fd) : FnOk P w K mg base CX0 4 f fd ["one", "other"] (spP K 2 fs_check_pair) := by
  refine ok_P F sc_check_pair rfl (fun cdv A outer s H E hr =>
    (S_cons (S_if (EB_not (EB_val (E_callC c_is_teller (hr.mono (by decide)) rfl tk_P (EA_cons (E_name (pv 0)) EA_nil)))) (S_one S_never) S_nil)
      (S_one (S_if (PW.pt (EB_or (EB_not (EB_val (E_callC c_is_teller (hr.mono (by decide)) rfl tk_P (EA_cons (E_name (pv 1)) EA_nil)))) (EB_or1 (EB_cmp (op_neD hr.units) opd_ne (E_cb (fun h => pe_callB call_len_seq rfl T.bt.b_len b_len h) opn_len (EA_cons (E_ix (E_name (pv 1)) E_int) EA_nil)) (E_cb (fun h => pe_callB call_len_seq rfl T.bt.b_len b_len h) opn_len (EA_cons (E_ix (E_name (pv 0)) E_int) EA_nil)) (nomark _))))) (S_one S_never) S_nil)))) (fun ds Φ hn h => ?_)
  obtain ⟨d, rows, e, goal, rfl, h1, h2, hl, hq⟩ := h
  walk_at "jv"
  refine ⟨d, rows, rfl, h1, ?_⟩
  walk_at "jv"
  rw [if_neg (by decide)]
  refine ⟨e, goal, rfl, h2, ?_⟩
  walk_at "jv"
  rw [if_neg (by decide), if_neg (by omega)]
  exact hq

theorem ok_common_garblers (T : Txt mg)  {f : Addr} {fd : FuncData} (F : Fun K "common" "common" s_common_garblers f fd) : FnOk P w K mg base CX0 1 f fd ["numbers"] (spP K 1 fs_common_garblers) := by
  refine ok_P F sc_common_garblers rfl (fun cdv A outer s H E hr =>
    (S_cons (S_set (i := 1) (ps_set (i := 1) sc_common_garblers.nd rfl (by first | exact Or.inl rfl | exact Or.inr rfl) E_int))
      (S_cons (S_for PassesOwn.never rfl (EI_seq (E_name (pv 0))) (EG_name (pg_name (i := 2) sc_common_garblers.nd rfl (by first | exact Or.inl rfl | exact Or.inr rfl))) (S_cons (S_set (i := 3) (ps_set (i := 3) sc_common_garblers.nd rfl (by first | exact Or.inl rfl | exact Or.inr rfl) (E_name (pv 2))))
      (S_one (S_while PassesOwn.never (EB_cmp (op_neD hr.units) opd_ne (E_name (pv 3)) E_int (nomark _)) (S_one (S_par2 (i := 1) (j := 3) (by decide) (ps_par (by rfl) sc_common_garblers.nd rfl rfl (by decide) rfl rfl (EX_val (E_name (pv 3)) (EX_val (E_bin op_modN opd_I (E_name (pv 1)) (E_name (pv 3))) EX_nil)) (by rfl))))))))
      (S_one (S_ret (E_name (pv 1))))))) (fun ds Φ hn h => ?_)
  obtain ⟨d, ns, rfl, hi, nn, hq⟩ := h
  walk_at "jv"
  refine ⟨ns.map .int, hi.items, fun k ρ _ => ∃ y z, ρ = [.val d, .val (.int (gcdL (ns.take k))), y, z], ⟨_, _, rfl⟩, ?_, ?_⟩
  · rintro k ρ _ e ⟨y, z, rfl⟩ he
    obtain ⟨n, hn, rfl⟩ := map_at he
    walk_at "jv"
    refine ⟨fun m ρ _ => ∃ x y : Int, ρ = [.val d, .val (.int x), .val (.int n), .val (.int y)] ∧ 0 ≤ x ∧ 0 ≤ y ∧ gcdI x y = gcdL (ns.take (k + 1)) ∧ m = y.natAbs, ⟨_, _, n, rfl, gcdL_nn _, nn n (List.mem_of_getElem? hn), (gcdL_take hn).symm, rfl⟩, ?_⟩
    rintro m ρ _ ⟨x, y, rfl, hx, hy, hg, rfl⟩
    walk_at "jv"
    by_cases h0 : y = 0
    · subst h0
      simp
      rw [← hg, gcdI_zero, if_neg (by omega)]
    · simp [h0]
      refine ⟨_, fmod_lt x h0, y, x.fmod y, ⟨rfl, rfl⟩, hy, Int.fmod_nonneg hx hy, (gcdI_fmod x y).trans hg, rfl⟩
  · rintro ρ _ ⟨y, z, rfl⟩
    walk_at "jv"
    rw [List.take_length]
    exact hq

theorem ok_evened (T : Txt mg) (c_common_garblers : Cal P w K mg base 1 "common_garblers" ["numbers"] (spP K 1 fs_common_garblers)) {f : Addr} {fd : FuncData} (F : Fun K "evened" "evened" s_evened f fd) : FnOk P w K mg base CX0 2 f fd ["one", "other"] (spP K 2 fs_evened) := by
  refine ok_P F sc_evened rfl (fun cdv A outer s H E hr =>
    (S_cons (S_set (i := 2) (ps_set (i := 2) sc_evened.nd rfl (by first | exact Or.inl rfl | exact Or.inr rfl) (E_callC c_common_garblers (hr.mono (by decide)) rfl tk_P (EA_cons (E_ls (EL_lst (EA_cons (E_ix (E_name (pv 0)) E_int) (EA_cons (E_ix (E_name (pv 1)) E_int) EA_nil)))) EA_nil))))
      (S_cons (S_asg (ps_asg (E_tup (EA_cons (E_bin op_fdivW opd_I (E_ix (E_name (pv 1)) E_int) (E_name (pv 2))) (EA_cons (E_bin op_fdivW opd_I (E_ix (E_name (pv 0)) E_int) (E_name (pv 2))) EA_nil))) (EG_tup (is := [3, 4]) rfl (pg_tup rfl (pgs_cons (pg_name (i := 3) sc_evened.nd rfl (by first | exact Or.inl rfl | exact Or.inr rfl)) (pgs_cons (pg_name (i := 4) sc_evened.nd rfl (by first | exact Or.inl rfl | exact Or.inr rfl)) pgs_nil))))))
      (S_cons (S_frzA (i := 5) (S_own (i := 5) (PS_setLc (i := 5) (own := [("row", 6)]) rfl sc_evened.nd (blkOk_by (by first | decide +kernel | rfl)) (by decide) (EI_seq (E_ix (E_name (pv 0)) E_int)) (fun _ _ _ _ _ => (EG_name (pg_name (i := 6) sc_evened.nd rfl (by first | exact Or.inl rfl | exact Or.inr rfl)))) (fun _ _ _ _ _ => ETs_nil) (fun _ _ _ _ _ => (E_ls (EL_lc (own := [("number", 7)]) rfl sc_evened.nd (blkOk_by (by first | decide +kernel | rfl)) (by decide) (EI_seq (E_name (pv 6))) (fun _ _ _ _ _ => (EG_name (pg_name (i := 7) sc_evened.nd rfl (by first | exact Or.inl rfl | exact Or.inr rfl)))) (fun _ _ _ _ _ => ETs_nil) (fun _ _ _ _ _ => (E_bin op_mulW opd_I (E_name (pv 7)) (E_name (pv 3))))))))))
      (S_one (S_ret (E_tup (EA_cons (E_name (pv 5)) (EA_cons (E_ls (EL_lc (own := [("row", 6)]) rfl sc_evened.nd (blkOk_by (by first | decide +kernel | rfl)) (by decide) (EI_seq (E_ix (E_name (pv 1)) E_int)) (fun _ _ _ _ _ => (EG_name (pg_name (i := 6) sc_evened.nd rfl (by first | exact Or.inl rfl | exact Or.inr rfl)))) (fun _ _ _ _ _ => ETs_nil) (fun _ _ _ _ _ => (E_ls (EL_lc (own := [("number", 7)]) rfl sc_evened.nd (blkOk_by (by first | decide +kernel | rfl)) (by decide) (EI_seq (E_name (pv 6))) (fun _ _ _ _ _ => (EG_name (pg_name (i := 7) sc_evened.nd rfl (by first | exact Or.inl rfl | exact Or.inr rfl)))) (fun _ _ _ _ _ => ETs_nil) (fun _ _ _ _ _ => (E_bin op_mulW opd_I (E_name (pv 7)) (E_name (pv 4))))))))) EA_nil))))))))) (fun ds Φ hn h => ?_)
  obtain ⟨d, rows, e, goal, rfl, h1, h2, hq⟩ := h
  have d0 := h1.d1
  have e0 := h2.d1
  obtain ⟨g0, g1⟩ := gcdL_pos (d := d) (l := [e]) (by omega)
  have sd := small_d h1
  have se := small_d h2
  have sg : Sm 100 (gcdL [d, e]) := sd.le (by omega) g1
  have cd : ∀ x, CDivW x (gcdL [d, e]) := fun x => sg.cdiv g0 (by decide) (by decide)
  walk_at "jv"
  refine ⟨by rw [sizeL]; omega, _, [d, e], rfl, .inl rfl, ?_, ?_⟩
  · intro x hx
    simp at hx
    omega
  walk_at "jv"
  refine ⟨cd e, cd d, by rw [sizeL]; omega, by rw [sizeL]; have := h1.ok.l2; omega, ?_⟩
  have row : ∀ (k : Int) (rs : List (List Int)) (q : Int), Sm 100 k → IsTel q rs → ∀ r ∈ rs, r.length ≤ 12 ∧ ∀ x ∈ r, CMulW x k := fun k rs q sk hq r hr => ⟨by rw [hq.ok.len r hr]; exact hq.ok.w2, fun x hx => (hq.ok.sm (small_d hq) hr hx).cmul sk (by decide) (by decide) (by decide)⟩
  refine lcRun_mapOf _ (fun r => dLI (r.map (· * (e / gcdL [d, e])))) _ (fun r hr K t hK => ?_) ?_
  · obtain ⟨hl, hm⟩ := row _ _ _ se.div h1 r hr
    walk_at "jv"
    refine ⟨by rw [sizeL]; omega, ?_⟩
    refine lcRun_mapOf _ (fun x => D.int (x * (e / gcdL [d, e]))) _ (fun x hx K t hK => ?_) ?_
    · walk_at "jv"
      exact ⟨hm x hx, hK⟩
    · rw [dLI, List.map_map] at hK; exact hK
  refine ⟨by rw [sizeL]; have := h2.ok.l2; omega, ?_⟩
  refine lcRun_mapOf _ (fun r => dLI (r.map (· * (d / gcdL [d, e])))) _ (fun r hr K t hK => ?_) ?_
  · obtain ⟨hl, hm⟩ := row _ _ _ sd.div h2 r hr
    walk_at "jv"
    refine ⟨by rw [sizeL]; omega, ?_⟩
    refine lcRun_mapOf _ (fun x => D.int (x * (d / gcdL [d, e]))) _ (fun x hx K t hK => ?_) ?_
    · walk_at "jv"
      exact ⟨hm x hx, hK⟩
    · rw [dLI, List.map_map] at hK; exact hK
  · refine ⟨by rw [sizeL]; omega, ?_⟩
    rw [dLL, dLL, evR, evR, List.map_map, List.map_map] at hq
    exact hq

theorem ok_equations (T : Txt mg) (c_evened : Cal P w K mg base 2 "evened" ["one", "other"] (spP K 2 fs_evened)) {f : Addr} {fd : FuncData} (F : Fun K "equations" "equations" s_equations f fd) : FnOk P w K mg base CX0 3 f fd ["one", "other"] (spP K 2 fs_equations) := by
  refine ok_P F sc_equations rfl (fun cdv A outer s H E hr =>
    (S_cons (S_asg (ps_asg (E_callC c_evened (hr.mono (by decide)) rfl tk_P (EA_cons (E_name (pv 0)) (EA_cons (E_name (pv 1)) EA_nil))) (EG_tup (is := [2, 3]) rfl (pg_tup rfl (pgs_cons (pg_name (i := 2) sc_equations.nd rfl (by first | exact Or.inl rfl | exact Or.inr rfl)) (pgs_cons (pg_name (i := 3) sc_equations.nd rfl (by first | exact Or.inl rfl | exact Or.inr rfl)) pgs_nil))))))
      (S_cons (S_asg (ps_asg (E_tup (EA_cons (E_ls (EL_listRg rfl rfl T.bt.b_list rfl T.bt.b_range (E_cb (fun h => pe_callB call_len_seq rfl T.bt.b_len b_len h) opn_len (EA_cons (E_ix (E_name (pv 2)) E_int) EA_nil)))) (EA_cons (E_ls (EL_listRg rfl rfl T.bt.b_list rfl T.bt.b_range (E_cb (fun h => pe_callB call_len_seq rfl T.bt.b_len b_len h) opn_len (EA_cons (E_ix (E_name (pv 3)) E_int) EA_nil)))) EA_nil))) (EG_tup (is := [4, 5]) rfl (pg_tup rfl (pgs_cons (pg_name (i := 4) sc_equations.nd rfl (by first | exact Or.inl rfl | exact Or.inr rfl)) (pgs_cons (pg_name (i := 5) sc_equations.nd rfl (by first | exact Or.inl rfl | exact Or.inr rfl)) pgs_nil))))))
      (S_cons (S_par2 (i := 6) (j := 7) (by decide) (ps_par (by rfl) sc_equations.nd rfl rfl (by decide) rfl rfl (EX_own (EL_lst EA_nil) (EX_own (EL_lst EA_nil) EX_nil)) (by rfl)))
      (S_cons (S_for PassesOwn.never rfl (EI_range1 (fun h => pi_range1 rfl T.bt.b_range h) (EA_cons (E_cb (fun h => pe_callB call_len_seq rfl T.bt.b_len b_len h) opn_len (EA_cons (E_name (pv 2)) EA_nil)) EA_nil)) (EG_name (pg_name (i := 8) sc_equations.nd rfl (by first | exact Or.inl rfl | exact Or.inr rfl))) (S_one (S_for PassesOwn.never rfl (EI_seq (E_name (pv 5))) (EG_name (pg_name (i := 9) sc_equations.nd rfl (by first | exact Or.inl rfl | exact Or.inr rfl))) (S_cons (S_append (i := 6) (ps_expr (pe_bm PySem.F.plainAttrs_list PySem.F.slot_list_append PySem.F.type_list_append mt_append (pv 6) (pa_cons (E_ls (EL_lc2 (own := [("y", 10), ("k", 11)]) (vs1 := [11]) rfl sc_equations.nd (blkOk_by (by first | decide +kernel | rfl)) (by decide) (by decide) (by decide) (EI_seq (E_name (pv 4))) (fun _ _ _ _ _ => (EG_name (pg_name (i := 10) sc_equations.nd rfl (by first | exact Or.inl rfl | exact Or.inr rfl)))) (fun _ _ _ _ _ => ETs_nil) (fun _ _ _ _ _ => (EI_seq (E_name (pv 5)))) (fun _ _ _ _ _ => (EG_name (pg_name (i := 11) sc_equations.nd rfl (by first | exact Or.inl rfl | exact Or.inr rfl)))) (fun _ _ _ _ _ => ETs_nil) (fun _ _ _ _ _ => (E_if (EB_cmp (op_eqD hr.units) opd_eq (E_name (pv 11)) (E_name (pv 9)) (nomark _)) (E_ix (E_ix (E_name (pv 2)) (E_name (pv 8))) (E_name (pv 10))) E_int)))) pa_nil))))
      (S_one (S_append (i := 7) (ps_expr (pe_bm PySem.F.plainAttrs_list PySem.F.slot_list_append PySem.F.type_list_append mt_append (pv 7) (pa_cons (E_ix (E_ix (E_name (pv 3)) (E_name (pv 8))) (E_name (pv 9))) pa_nil)))))))))
      (S_cons (S_for PassesOwn.never rfl (EI_seq (E_name (pv 4))) (EG_name (pg_name (i := 10) sc_equations.nd rfl (by first | exact Or.inl rfl | exact Or.inr rfl))) (S_cons (S_append (i := 6) (ps_expr (pe_bm PySem.F.plainAttrs_list PySem.F.slot_list_append PySem.F.type_list_append mt_append (pv 6) (pa_cons (E_ls (EL_lc2 (own := [("k", 11), ("z", 9)]) (vs1 := [9]) rfl sc_equations.nd (blkOk_by (by first | decide +kernel | rfl)) (by decide) (by decide) (by decide) (EI_seq (E_name (pv 4))) (fun _ _ _ _ _ => (EG_name (pg_name (i := 11) sc_equations.nd rfl (by first | exact Or.inl rfl | exact Or.inr rfl)))) (fun _ _ _ _ _ => ETs_nil) (fun _ _ _ _ _ => (EI_seq (E_name (pv 5)))) (fun _ _ _ _ _ => (EG_name (pg_name (i := 9) sc_equations.nd rfl (by first | exact Or.inl rfl | exact Or.inr rfl)))) (fun _ _ _ _ _ => ETs_nil) (fun _ _ _ _ _ => (E_if (EB_cmp (op_eqD hr.units) opd_eq (E_name (pv 11)) (E_name (pv 10)) (nomark _)) E_int E_int)))) pa_nil))))
      (S_one (S_append (i := 7) (ps_expr (pe_bm PySem.F.plainAttrs_list PySem.F.slot_list_append PySem.F.type_list_append mt_append (pv 7) (pa_cons E_int pa_nil)))))))
      (S_one (S_frzB (i := 7) (S_frzB (i := 6) (S_ret (E_tup (EA_cons (E_name (pv 6)) (EA_cons (E_name (pv 7)) EA_nil))))))))))))) (fun ds Φ hn h => ?_)
  obtain ⟨d, rows, e, goal, rfl, h1, h2, hl, hq⟩ := h
  have n1 := h1.ok.l1
  have n2 := h1.ok.l2
  have w1 := h1.ok.w1
  have w2 := h1.ok.w2
  have s1 := h2.ok.w1
  have s2 := h2.ok.w2
  refine sq_abs fun N1 hN1 => ?_
  walk_at "jv"
  refine ⟨d, rows, e, goal, rfl, h1, h2, ?_⟩
  rw [dLL, dLL, ev_fn h1.ok.len, ev_fn h2.ok.len]
  walk_at "jv"
  apply hN1
  clear hN1
  refine sq_abs fun N2 hN2 => ?_
  walk_at "jv"
  refine ⟨_, atI_rng (k := 0) (by omega), _, rfl, .of_le (by omega) (by rw [List.length_map, fnL_len]; omega) (by omega) (by omega), _, atI_rng (k := 0) (by omega), _, rfl, .of_le (by omega) (by rw [List.length_map, fnL_len]; omega) (by omega) (by omega), by rw [sizeL]; omega, ?_⟩
  rw [List.length_map, fnL_len, List.length_map, fnL_len, Int.toNat_natCast, Int.toNat_natCast]
  apply hN2
  clear hN2
  refine sq_abs fun N3 hN3 => ?_
  walk_at "jv"
  refine ⟨Nat.zero_le _, Nat.zero_le _, ?_⟩
  apply hN3
  clear hN3
  refine sq_abs fun N4 hN4 => ?_
  refine for_abs fun WB hWB => ?_
  walk_at "jv"
  rw [List.length_range, Int.toNat_natCast]
  refine ⟨by omega, by omega, ?_⟩
  have e4 : rangeD 0 (wid rows) = (List.range (wid rows)).map fun y => D.int (y : Nat) := rangeD_eq _
  have e5 : rangeD 0 (wid goal) = (List.range (wid goal)).map fun y => D.int (y : Nat) := rangeD_eq _
  rw [e4, e5]
  refine forI_mk (fun k ρ _ => ∃ x8 x9 x10 x11, ρ = [.val (dTel d rows), .val (dTel e goal), .val (dMx rows.length (wid rows) (eqR (e / gcdL [d, e]) rows)), .val (dMx goal.length (wid goal) (eqR (d / gcdL [d, e]) goal)), .val (.lst ((List.range (wid rows)).map fun y => D.int (y : Nat))), .val (.lst ((List.range (wid goal)).map fun y => D.int (y : Nat))),
    .own ((List.range (k * wid goal)).map fun r => dLI (fnL (wid rows * wid goal) fun l => LP.eqA rows.length (wid goal) (eqR (e / gcdL [d, e]) rows) l r)), .own ((fnL (k * wid goal) (LP.eqB rows.length (wid goal) (eqR (d / gcdL [d, e]) goal))).map D.int), x8, x9, x10, x11]) ⟨_, _, _, _, by rw [Nat.zero_mul]; rfl⟩ ?_ ?_
  · rintro k ρ _ dd ⟨x8, x9, x10, x11, rfl⟩ hd
    obtain ⟨hk, rfl⟩ := range_at hd
    refine ⟨_, rfl, fun N hN => ?_⟩
    subst hWB
    refine for_abs fun WC hWC => ?_
    walk_at "jv"
    refine forI_mk (fun j ρ _ => ∃ x9 x10 x11, ρ = [.val (dTel d rows), .val (dTel e goal), .val (dMx rows.length (wid rows) (eqR (e / gcdL [d, e]) rows)), .val (dMx goal.length (wid goal) (eqR (d / gcdL [d, e]) goal)), .val (.lst ((List.range (wid rows)).map fun y => D.int (y : Nat))), .val (.lst ((List.range (wid goal)).map fun y => D.int (y : Nat))),
      .own ((List.range (k * wid goal + j)).map fun r => dLI (fnL (wid rows * wid goal) fun l => LP.eqA rows.length (wid goal) (eqR (e / gcdL [d, e]) rows) l r)), .own ((fnL (k * wid goal + j) (LP.eqB rows.length (wid goal) (eqR (d / gcdL [d, e]) goal))).map D.int), .val (.int k), x9, x10, x11]) ⟨_, _, _, rfl⟩ ?_ ?_
    · rintro j ρ _ dd ⟨x9, x10, x11, rfl⟩ hd
      obtain ⟨z, hz, rfl⟩ := map_at hd
      have hzj : z = j ∧ j < wid goal := by
        have h1 := (List.getElem?_eq_some_iff.mp hz).1
        rw [List.length_range] at h1
        rw [List.getElem?_range h1] at hz
        exact ⟨(Option.some.inj hz).symm, h1⟩
      obtain ⟨rfl, hj⟩ := hzj
      refine ⟨_, rfl, fun N1 hN1 => ?_⟩
      subst hWC
      refine sq_abs fun N5 hN5 => ?_
      have kn : k * wid goal ≤ 6 * 12 := Nat.mul_le_mul (by omega) s2
      have hsz : wid rows * wid goal ≤ 12 * 12 := Nat.mul_le_mul w2 s2
      walk_at "jv"
      refine lc2_mapOf (fun y : Nat => D.int y) (fun _ => List.range (wid goal)) (fun q : Nat => D.int q) (fun y q => D.int (if q = z then eqR (e / gcdL [d, e]) rows k y else 0)) (List.range (wid rows)) (fun y hy => ?_) ?_ ?_
      · have hy := List.mem_range.mp hy
        refine ⟨_, rfl, fun Kb t h => h, fun Kl t h => ?_, fun q hq => ⟨_, rfl, fun Kb t h => h, fun K' t h => ?_⟩⟩
        · walk_at "jv"; exact h
        · walk_at "jv"
          by_cases e9 : q = z
          · rw [if_pos e9] at h
            rw [if_pos (by omega)]
            exact ⟨_, atI_rng hk, _, rfl, _, fn_at hy, h⟩
          · rw [if_neg e9] at h
            rw [if_neg (by omega)]
            exact h
      · rw [flat_rl, sizeL]; omega
      · rw [flat_rng]
        have e9 : ((List.range (wid rows * wid goal)).map fun l => D.int (if l % wid goal = z then eqR (e / gcdL [d, e]) rows k (l / wid goal) else 0)) = (fnL (wid rows * wid goal) fun l => LP.eqA rows.length (wid goal) (eqR (e / gcdL [d, e]) rows) l (k * wid goal + z)).map D.int := by
          unfold fnL
          rw [List.map_map]
          refine List.map_congr_left fun l _ => ?_
          simp only [Function.comp]
          unfold LP.eqA
          rw [if_pos (LP.blk_lt hk hj), LP.blk_div hj, LP.blk_mod hj]
        rw [e9]
        refine ⟨by rw [List.length_range, sizeL]; omega, ?_⟩
        have e10 : ((List.range (k * wid goal + z)).map fun r => dLI (fnL (wid rows * wid goal) fun l => LP.eqA rows.length (wid goal) (eqR (e / gcdL [d, e]) rows) l r)) ++ [D.lst ((fnL (wid rows * wid goal) fun l => LP.eqA rows.length (wid goal) (eqR (e / gcdL [d, e]) rows) l (k * wid goal + z)).map D.int)] = (List.range (k * wid goal + (z + 1))).map fun r => dLI (fnL (wid rows * wid goal) fun l => LP.eqA rows.length (wid goal) (eqR (e / gcdL [d, e]) rows) l r) := by
          rw [← Nat.add_assoc, List.range_succ, List.map_append]
          rfl
        rw [e10]
        apply hN5
        clear hN5
        walk_at "jv"
        refine ⟨_, atI_rng (k := k) (by omega), _, rfl, _, fn_at hj, by rw [fnL_len, sizeL]; omega, ?_⟩
        have e11 : (fnL (k * wid goal + z) (LP.eqB rows.length (wid goal) (eqR (d / gcdL [d, e]) goal))).map D.int ++ [D.int (eqR (d / gcdL [d, e]) goal k z)] = (fnL (k * wid goal + (z + 1)) (LP.eqB rows.length (wid goal) (eqR (d / gcdL [d, e]) goal))).map D.int := by
          unfold fnL
          rw [← Nat.add_assoc, List.range_succ, List.map_append, List.map_append, List.map_cons, List.map_nil, LP.eqB_xz hk hj]
          rfl
        rw [e11]
        exact hN1 _ _ ⟨_, _, _, rfl⟩
    · rintro ρ _ ⟨x9, x10, x11, rfl⟩
      rw [List.length_map, List.length_range]
      refine hN _ _ ⟨.val (.int k), x9, x10, x11, ?_⟩
      rw [Nat.succ_mul]
  · rintro ρ _ ⟨x8, x9, x10, x11, rfl⟩
    rw [rangeD_len]
    apply hN4
    clear hN4
    refine sq_abs fun N5 hN5 => ?_
    refine for_abs fun WC hWC => ?_
    walk_at "jv"
    have nn : rows.length * wid goal ≤ 6 * 12 := Nat.mul_le_mul n2 s2
    have hsz : wid rows * wid goal ≤ 12 * 12 := Nat.mul_le_mul w2 s2
    refine forI_mk (fun j ρ _ => ∃ x8 x9 x10 x11, ρ = [.val (dTel d rows), .val (dTel e goal), .val (dMx rows.length (wid rows) (eqR (e / gcdL [d, e]) rows)), .val (dMx goal.length (wid goal) (eqR (d / gcdL [d, e]) goal)), .val (.lst ((List.range (wid rows)).map fun y => D.int (y : Nat))), .val (.lst ((List.range (wid goal)).map fun y => D.int (y : Nat))),
      .own ((List.range (rows.length * wid goal + j)).map fun r => dLI (fnL (wid rows * wid goal) fun l => LP.eqA rows.length (wid goal) (eqR (e / gcdL [d, e]) rows) l r)), .own ((fnL (rows.length * wid goal + j) (LP.eqB rows.length (wid goal) (eqR (d / gcdL [d, e]) goal))).map D.int), x8, x9, x10, x11]) ⟨_, _, _, _, rfl⟩ ?_ ?_
    · rintro j ρ _ dd ⟨x8, x9, x10, x11, rfl⟩ hd
      obtain ⟨y, hy, rfl⟩ := map_at hd
      have hyj : y = j ∧ j < wid rows := by
        have h1 := (List.getElem?_eq_some_iff.mp hy).1
        rw [List.length_range] at h1
        rw [List.getElem?_range h1] at hy
        exact ⟨(Option.some.inj hy).symm, h1⟩
      obtain ⟨rfl, hj⟩ := hyj
      refine ⟨_, rfl, fun N1 hN1 => ?_⟩
      subst hWC
      refine sq_abs fun N6 hN6 => ?_
      walk_at "jv"
      refine lc2_mapOf (fun q : Nat => D.int q) (fun _ => List.range (wid goal)) (fun z : Nat => D.int z) (fun q z => D.int (if q = y then 1 else 0)) (List.range (wid rows)) (fun q hq => ?_) ?_ ?_
      · refine ⟨_, rfl, fun Kb t h => h, fun Kl t h => ?_, fun z hz => ⟨_, rfl, fun Kb t h => h, fun K' t h => ?_⟩⟩
        · walk_at "jv"; exact h
        · walk_at "jv"
          by_cases e9 : q = y
          · rw [if_pos e9] at h
            rw [if_pos (by omega)]
            exact h
          · rw [if_neg e9] at h
            rw [if_neg (by omega)]
            exact h
      · rw [flat_rl, sizeL]; omega
      · rw [flat_rng (f := fun q _ => D.int (if q = y then 1 else 0))]
        have e9 : ((List.range (wid rows * wid goal)).map fun l => D.int (if l / wid goal = y then 1 else 0)) = (fnL (wid rows * wid goal) fun l => LP.eqA rows.length (wid goal) (eqR (e / gcdL [d, e]) rows) l (rows.length * wid goal + y)).map D.int := by
          unfold fnL
          rw [List.map_map]
          refine List.map_congr_left fun l _ => ?_
          simp only [Function.comp]
          unfold LP.eqA
          rw [if_neg (show ¬ rows.length * wid goal + y < rows.length * wid goal by omega), Nat.add_sub_cancel_left]
        rw [e9]
        refine ⟨by rw [List.length_range, sizeL]; omega, ?_⟩
        have e10 : ((List.range (rows.length * wid goal + y)).map fun r => dLI (fnL (wid rows * wid goal) fun l => LP.eqA rows.length (wid goal) (eqR (e / gcdL [d, e]) rows) l r)) ++ [D.lst ((fnL (wid rows * wid goal) fun l => LP.eqA rows.length (wid goal) (eqR (e / gcdL [d, e]) rows) l (rows.length * wid goal + y)).map D.int)] = (List.range (rows.length * wid goal + (y + 1))).map fun r => dLI (fnL (wid rows * wid goal) fun l => LP.eqA rows.length (wid goal) (eqR (e / gcdL [d, e]) rows) l r) := by
          rw [← Nat.add_assoc, List.range_succ, List.map_append]
          rfl
        rw [e10]
        apply hN6
        clear hN6
        walk_at "jv"
        refine ⟨by rw [fnL_len, sizeL]; omega, ?_⟩
        have e11 : (fnL (rows.length * wid goal + y) (LP.eqB rows.length (wid goal) (eqR (d / gcdL [d, e]) goal))).map D.int ++ [D.int 1] = (fnL (rows.length * wid goal + (y + 1)) (LP.eqB rows.length (wid goal) (eqR (d / gcdL [d, e]) goal))).map D.int := by
          unfold fnL
          rw [← Nat.add_assoc, List.range_succ, List.map_append, List.map_append, List.map_cons, List.map_nil, LP.eqB_y]
          rfl
        rw [e11]
        exact hN1 _ _ ⟨_, _, _, _, rfl⟩
    · rintro ρ _ ⟨x8, x9, x10, x11, rfl⟩
      rw [List.length_map, List.length_range]
      apply hN5
      clear hN5
      walk_at "jv"
      refine ⟨by rw [sizeL]; omega, ?_⟩
      exact hq

end
end J

set_option Elab.async false
set_option linter.all false
set_option maxRecDepth 100000
set_option maxHeartbeats 4000000
namespace J
open PySem PySem.Spec L2 RZ
local macro_rules | `(tactic| walk_at "jv") => `(tactic| simp only [wSq, wIfS, wOrT, wAndT, wNotT, wB, wIsi, wName, wRet, wC, wNilS, wAndV, wOrV, wNotV, wBin, wUn, wIf, wChain, fI0, fI, fIsN, fNotN, fB, fAdd, fEq, fNe, fIx, wCall, wCons, wNil, wTup, wDrop, wSet, wOwn, wFrzA, wFrzB, wAsg, wPar, wxVal, wxOwn, wxNil, bindX, bindP, bindN, wLs, wLst, wLc, wLc2, lcBody, wYes, wipeE, J.wSeq, wRange1, wRange2, wEnum, wZip, wSl, wSlL, wNoO, wSomeO, wAppend, wExtend, wSetIx, wOwnIx, wOwnLen, wFor, wWhile, fLen, fAbs, fMin2, fMax2, fInt, fSum, fMax, fAll, fAny, fTuple, fList, fCat, fRep, startE, List.map, List.cons_append, List.nil_append, List.getElem?_cons_zero, List.getElem?_cons_succ, List.set_cons_zero, List.set_cons_succ, List.length_cons, List.length_nil, List.replicate, Option.some.injEq, Sl.val.injEq, Sl.own.injEq, D.int.injEq, D.bl.injEq, D.tup.injEq, D.lst.injEq, exists_eq_left', exists_eq_left, exists_eq_right, true_and, and_true, if_true, List.cons.injEq, exists_and_left, exists_const, items_tup, items_lst, isT_tup, isT_lst, atI_0, atI_1, atI_2, addD_int, addD_tup, intD_int, intD_bl, dTel, dRows, dI, dSta, dGar, dRat, tyq_tup, tyq_lst, tyq_int, tyq_str, tyq_bl, tyq_non, isi_tt, isi_ss, isi_ii, isi_ib, shp_eq_int, shp_eq_teller, shp_eq_stakes, shp_eq_garbler, eq_str_self, eq_int, Bool.not_true, Bool.not_false, Bool.false_eq_true, if_false, List.length_map, decide_eq_true_eq, Bool.not_eq_true', decide_eq_false_iff_not, Nat.zero_add, Nat.reduceAdd, ite_true, ite_false, Int.reduceAdd, wDctNew, wDctGet, wDctIx, wDctPut, wDctSorted, fRepT, Sl.dct.injEq, wCallT, fsT, lenI_tup, lenI_lst, lenI_scr, fsD, wDrTurn, wDrRest, wDrCells, wDrAny, wDrPop, wDrSetR, wDrSetT, drIs, wFld, wSetF, wSetFL, wCIx, wCApp, wCSet, wCFrz, wMeth, wMake, fsC, Cell.ins.injEq, Cell.lst.injEq, D.hdl.injEq, lk_many, lk_scale, lk_rows, lk_base, lk_costs, lk_m1, lk_m2, lk_m3, lk_m4, lk_m5, pu_scale, pu_rows, pu_base, pu_costs, setC_same, pp_1, pp_2, pp_3, pp_3', pp_4, pp_5, lk3_rows, lk3_many, lk4_many, ln_0, ln_1, ln_2, ln_3, ln_4, ln_5, wDctC, wDc, dcBody, wDctGetN, wListRg])
abbrev s_direction_of : Stmt := topS 37
theorem sc_direction_of : FnScope ["column", "by", "number"] ["column"] (defScope s_direction_of) := ⟨rfl, rfl, rfl, by decide +kernel, rfl, by decide +kernel, by decide +kernel⟩
abbrev s_plain_of : Stmt := topS 39
theorem sc_plain_of : FnScope ["d", "columns", "found", "column", "way", "known", "some", "one", "other", "x"] ["d", "columns"] (defScope s_plain_of) := ⟨rfl, rfl, rfl, by decide +kernel, rfl, by decide +kernel, by decide +kernel⟩
abbrev s_plain_told : Stmt := topS 40
theorem sc_plain_told : FnScope ["teller"] ["teller"] (defScope s_plain_told) := ⟨rfl, rfl, rfl, by decide +kernel, rfl, by decide +kernel, by decide +kernel⟩
abbrev s_plain : Stmt := topS 41
theorem sc_plain : FnScope ["teller"] ["teller"] (defScope s_plain) := ⟨rfl, rfl, rfl, by decide +kernel, rfl, by decide +kernel, by decide +kernel⟩
abbrev s_Table_init : Stmt := inClass (topS 34) 0
theorem sc_Table_init : FnScope ["self", "matrix", "rest", "i", "row", "helps", "columns", "k", "j"] ["self", "matrix", "rest"] (defScope s_Table_init) := ⟨rfl, rfl, rfl, by decide +kernel, rfl, by decide +kernel, by decide +kernel⟩
abbrev s_Table_column : Stmt := inClass (topS 34) 1
theorem sc_Table_column : FnScope ["self", "j"] ["self"] (defScope s_Table_column) := ⟨rfl, rfl, rfl, by decide +kernel, rfl, by decide +kernel, by decide +kernel⟩
abbrev s_Table_cleared : Stmt := inClass (topS 34) 3
theorem sc_Table_cleared : FnScope ["self", "row", "own", "j", "number", "other"] ["self", "row", "own", "j"] (defScope s_Table_cleared) := ⟨rfl, rfl, rfl, by decide +kernel, rfl, by decide +kernel, by decide +kernel⟩
abbrev s_Table_exchange : Stmt := inClass (topS 34) 4
theorem sc_Table_exchange : FnScope ["self", "i", "j", "own", "k", "row"] ["self", "i", "j"] (defScope s_Table_exchange) := ⟨rfl, rfl, rfl, by decide +kernel, rfl, by decide +kernel, by decide +kernel⟩
section
variable {P : Program} {w : World} {K : PySem.W.Frag} {mg : Str → Option Value} {base : Heap}
theorem ok_direction_of (T : Txt mg) (c_common_tellers : Cal P w K mg base 2 "common_tellers" ["numbers"] (spP K 1 fs_common_tellers)) {f : Addr} {fd : FuncData} (F : Fun K "direction_of" "direction_of" s_direction_of f fd) : FnOk P w K mg base CX0 3 f fd ["column"] (spP K 1 fs_direction_of) := by
  refine ok_P F sc_direction_of rfl (fun cdv A outer s H E hr =>
    (S_cons (S_set (i := 1) (ps_set (i := 1) sc_direction_of.nd rfl (by first | exact Or.inl rfl | exact Or.inr rfl) (E_callC c_common_tellers (hr.mono (by decide)) rfl tk_P (EA_cons (E_name (pv 0)) EA_nil))))
      (S_one (S_ret (E_if (EB_cmp op_gt opd_B0 (E_name (pv 1)) E_int (nomark _)) (E_cb (fun h => pe_callTy call_tuple_of rfl T.bt.b_tuple b_tuple h) opn_tuple (EA_cons (E_ls (EL_lc (own := [("number", 2)]) rfl sc_direction_of.nd (blkOk_by (by first | decide +kernel | rfl)) (by decide) (EI_seq (E_name (pv 0))) (fun _ _ _ _ _ => (EG_name (pg_name (i := 2) sc_direction_of.nd rfl (by first | exact Or.inl rfl | exact Or.inr rfl)))) (fun _ _ _ _ _ => ETs_nil) (fun _ _ _ _ _ => (E_bin op_fdivW opd_I (E_name (pv 2)) (E_name (pv 1)))))) EA_nil)) E_non))))) (fun ds Φ hn h => ?_)
  obtain ⟨c, rfl, hl, hc, hq⟩ := h
  walk_at "jv"
  refine ⟨_, c, rfl, .inr rfl, ?_⟩
  by_cases hg : 0 < gcdL c
  · rw [if_pos hg] at hq
    walk_at "jv"
    simp only [hg, if_true]
    refine ⟨by rw [sizeL]; omega, ?_⟩
    refine lcRun_mapOf _ (fun x => D.int (x / gcdL c)) _ (fun x hx K t hK => ?_) ?_
    · walk_at "jv"
      exact ⟨Sm.cdiv (b := 8000) (gcdL_sm hc hg) hg (by decide) (by decide), hK⟩
    · rw [dI, dirL, List.map_map] at hq
      exact hq
  · rw [if_neg hg] at hq
    walk_at "jv"
    simp only [hg, if_false]
    exact hq

theorem ok_plain_of (T : Txt mg) (c_made : Cal P w K mg base 3 "made" ["d", "rows"] (spP K 2 fs_made)) (c_direction_of : Cal P w K mg base 3 "direction_of_plain" ["column"] (spP K 1 fs_direction_of)) {f : Addr} {fd : FuncData} (F : Fun K "plain_of" "plain_of" s_plain_of f fd) : FnOk P w K mg base CX0 4 f fd ["d", "columns"] (spP K 2 fs_plain_of) := by
  refine ok_P F sc_plain_of rfl (fun cdv A outer s H E hr =>
    (S_cons (S_dctNew (i := 2) (ps_set (i := 2) sc_plain_of.nd rfl (by first | exact Or.inl rfl | exact Or.inr rfl) pe_dnewT))
      (S_cons (S_for PassesOwn.never rfl (EI_seq (E_name (pv 1))) (EG_name (pg_name (i := 3) sc_plain_of.nd rfl (by first | exact Or.inl rfl | exact Or.inr rfl))) (S_cons (S_set (i := 4) (ps_set (i := 4) sc_plain_of.nd rfl (by first | exact Or.inl rfl | exact Or.inr rfl) (E_callC c_direction_of (hr.mono (by decide)) rfl tk_P (EA_cons (E_name (pv 3)) EA_nil))))
      (S_one (S_if (EB_cmp op_notN opd_notN (E_name (pv 4)) E_non (nomark _)) (S_cons (S_set (i := 5) (ps_set (i := 5) sc_plain_of.nd rfl (by first | exact Or.inl rfl | exact Or.inr rfl) (E_dctGet (i := 2) (pe_dget2 (hu1 hr) (pv 2) (E_name (pv 4)) (E_bin op_repA opd_repT (E_tup (EA_cons E_int EA_nil)) (E_cb (fun h => pe_callB call_len_seq rfl T.bt.b_len b_len h) opn_len (EA_cons (E_name (pv 3)) EA_nil))) ⟨rfl, rfl, rfl, rfl⟩))))
      (S_one (S_dctPut (i := 2) (ps_dput (hu1 hr) (pv 2) (E_name (pv 4)) (E_cb (fun h => pe_callTy call_tuple_of rfl T.bt.b_tuple b_tuple h) opn_tuple (EA_cons (E_ls (EL_lc (own := [("one", 7), ("other", 8)]) rfl sc_plain_of.nd (blkOk_by (by first | decide +kernel | rfl)) (by decide) (EI_zip (fun h => pi_zipA rfl T.bt.b_zip h) (EA_cons (E_name (pv 5)) (EA_cons (E_name (pv 3)) EA_nil))) (fun _ _ _ _ _ => (EG_tup (is := [7, 8]) rfl (pg_tup rfl (pgs_cons (pg_name (i := 7) sc_plain_of.nd rfl (by first | exact Or.inl rfl | exact Or.inr rfl)) (pgs_cons (pg_name (i := 8) sc_plain_of.nd rfl (by first | exact Or.inl rfl | exact Or.inr rfl)) pgs_nil))))) (fun _ _ _ _ _ => ETs_nil) (fun _ _ _ _ _ => (E_bin op_addIT opd_add (E_name (pv 7)) (E_name (pv 8)))))) EA_nil)) rfl)))) S_nil))))
      (S_cons (S_set (i := 6) (ps_set (i := 6) sc_plain_of.nd rfl (by first | exact Or.inl rfl | exact Or.inr rfl) (E_ls (EL_lc (own := [("way", 4)]) rfl sc_plain_of.nd (blkOk_by (by first | decide +kernel | rfl)) (by decide) (EI_new (EL_dctSorted (i := 2) (pe_callB (cr_sortDT rfl) rfl T.bt.b_sorted b_sorted (pa_cons (pv 2) pa_nil)))) (fun _ _ _ _ _ => (EG_name (pg_name (i := 4) sc_plain_of.nd rfl (by first | exact Or.inl rfl | exact Or.inr rfl)))) (fun _ _ _ _ _ => ETs_nil) (fun _ _ _ _ _ => (E_dctIx (i := 2) (pe_dget (hu1 hr) (pv 2) (E_name (pv 4)) (fun _ _ => rfl))))))))
      (S_one (S_ret (E_callC c_made (hr.mono (by decide)) rfl tk_P (EA_cons (E_name (pv 0)) (EA_cons (E_cb (fun h => pe_callTy call_tuple_of rfl T.bt.b_tuple b_tuple h) opn_tuple (EA_cons (E_ls (EL_lc (own := [("x", 9)]) rfl sc_plain_of.nd (blkOk_by (by first | decide +kernel | rfl)) (by decide) (EI_range1 (fun h => pi_range1 rfl T.bt.b_range h) (EA_cons (E_cb (fun h => pe_callB call_len_seq rfl T.bt.b_len b_len h) opn_len (EA_cons (E_ix (E_name (pv 6)) E_int) EA_nil)) EA_nil)) (fun _ _ _ _ _ => (EG_name (pg_name (i := 9) sc_plain_of.nd rfl (by first | exact Or.inl rfl | exact Or.inr rfl)))) (fun _ _ _ _ _ => ETs_nil) (fun _ _ _ _ _ => (E_cb (fun h => pe_callTy call_tuple_of rfl T.bt.b_tuple b_tuple h) opn_tuple (EA_cons (E_ls (EL_lc (own := [("column", 3)]) rfl sc_plain_of.nd (blkOk_by (by first | decide +kernel | rfl)) (by decide) (EI_seq (E_name (pv 6))) (fun _ _ _ _ _ => (EG_name (pg_name (i := 3) sc_plain_of.nd rfl (by first | exact Or.inl rfl | exact Or.inr rfl)))) (fun _ _ _ _ _ => ETs_nil) (fun _ _ _ _ _ => (E_ix (E_name (pv 3)) (E_name (pv 9)))))) EA_nil))))) EA_nil)) EA_nil))))))))) (fun ds Φ hn h => ?_)
  obtain ⟨d, columns, n, rfl, d0, d1, ok, hq⟩ := h
  walk_at "jv"
  refine ⟨fun k ρ _ => ∃ u v w x y z t, ρ = [.val (.int d), .val (.lst (columns.map fun c => dI c)), .dct ((wayD n (columns.take k)).map encK), u, v, w, x, y, z, t], ⟨_, _, _, _, _, _, _, rfl⟩, ?_, ?_⟩
  · rintro k ρ _ e ⟨u, v, w, x, y, z, t, rfl⟩ he
    obtain ⟨c, hc, rfl⟩ := map_at he
    have hcm := List.mem_of_getElem? hc
    walk_at "jv"
    refine ⟨c, rfl, by rw [ok.len c hcm]; have := ok.n2; omega, fun x hx => ⟨ok.nn c hcm x hx, ok.sm c hcm x hx⟩, ?_⟩
    obtain ⟨wk, wl⟩ := wayD_ok ok k
    rw [wayD_take hc, addWay]
    have hcl := ok.len c hcm
    have h12 := ok.l
    have hn6 := ok.n2
    have hk := (List.getElem?_eq_some_iff.mp hc).1
    by_cases hg : 0 < gcdL c
    · rw [if_pos hg, if_pos hg]
      walk_at "jv"
      refine ⟨dirL c, rfl, by decide, by simp, by rw [hcl]; have := ok.n1; omega, by omega, by decide, ?_⟩
      rw [rep_flat, Int.toNat_natCast, hcl]
      have el : (lookK (List.map encK (wayD n (List.take k columns))) (dirL c)).getD (D.tup (List.replicate n (D.int 0))) = dI ((lookN (wayD n (columns.take k)) (dirL c)).getD (List.replicate n 0)) := by
        rw [lookK_enc]
        cases lookN (wayD n (columns.take k)) (dirL c) with
        | none => simp [dI]
        | some v => rfl
      rw [el]
      refine ⟨_, _, ⟨rfl, rfl⟩, _, rfl, _, rfl, rfl, ?_⟩
      rw [zipD_int]
      refine ⟨by rw [List.length_map, List.length_zip, sizeL]; omega, ?_⟩
      refine lcRun_mapOf _ (fun p => D.int (p.1 + p.2)) _ (fun p hp K t hK => ?_) ?_
      · walk_at "jv"
        exact ⟨trivial, hK⟩
      · refine ⟨dirL c, rfl, by rw [sizeL]; omega, ?_, _, rfl⟩
        rw [← putD_enc, dI, addV, List.map_map]
        rfl
    · rw [if_neg hg, if_neg hg]
      walk_at "jv"
      exact ⟨_, rfl⟩
  · rintro ρ _ ⟨u, v, w, x, y, z, t, rfl⟩
    walk_at "jv"
    have h12 := ok.l
    have hn1 := ok.n1
    have hn6 := ok.n2
    obtain ⟨wk, wl⟩ := wayD_ok ok columns.length
    rw [List.take_length] at wk wl ⊢
    refine ⟨n, ok.n1, by omega, bigB, fun kv hkv => ?_, fun ys hy hs => ?_⟩
    · obtain ⟨kv', h1, rfl⟩ := List.mem_map.mp hkv
      exact ⟨wk.kl kv' h1, wk.bd kv' h1⟩
    have ek : List.map (fun x => x.fst) (List.map encK (wayD n columns)) = (wayD n columns).map (·.1) := by rw [List.map_map]; rfl
    rw [ek] at hy
    have hyl : ys.length = (wayD n columns).length := by rw [hy.length_eq, List.length_map]
    have hy0 : ys ≠ [] := fun e => by
      have := wayD_ne (n := n) ok.ex
      rw [e] at hyl
      exact this (List.eq_nil_of_length_eq_zero hyl.symm)
    have hval : ∀ k ∈ ys, ∃ v, lookN (wayD n columns) k = some v ∧ v.length = n := fun k hk => by
      obtain ⟨v, h1, h2⟩ := lookN_key (hy.mem_iff.mp hk)
      exact ⟨v, h1, wk.vl _ h2⟩
    have hq := hq ys hy hs
    refine ⟨by rw [sizeL]; omega, ?_⟩
    refine lcRun_mapOf _ (fun k => dI ((lookN (wayD n columns) k).getD [])) _ (fun k hk K t hK => ?_) ?_
    · obtain ⟨v, h1, h2⟩ := hval k hk
      walk_at "jv"
      refine ⟨k, rfl, _, by rw [lookK_enc, h1]; rfl, ?_⟩
      rw [h1] at hK
      exact hK
    obtain ⟨y0, yr, hys⟩ : ∃ y0 yr, ys = y0 :: yr := by
      cases ys with
      | nil => exact absurd rfl hy0
      | cons a b => exact ⟨a, b, rfl⟩
    obtain ⟨v0, h1, h2⟩ := hval y0 (by rw [hys]; exact List.mem_cons_self)
    have hat : atI (ys.map fun k => dI ((lookN (wayD n columns) k).getD [])) 0 = some (dI v0) := by
      rw [hys, List.map_cons, h1]; exact atI_0 _ _
    walk_at "jv"
    refine ⟨_, hat, _, rfl, by rw [List.length_map, h2]; omega, ?_⟩
    rw [List.length_map, h2]
    refine ⟨by omega, by rw [rangeD_len, sizeL]; omega, ?_⟩
    rw [Int.toNat_natCast, rangeD_eq]
    refine lcRun_mapOf _ (fun x => dI ((ys.map fun y => (lookN (wayD n columns) y).getD []).map fun c => c.getD x 0)) _ (fun x hx K t hK => ?_) ?_
    · have hx := List.mem_range.mp hx
      walk_at "jv"
      refine ⟨by rw [sizeL]; omega, ?_⟩
      refine lcRun_mapOf (fun k => dI ((lookN (wayD n columns) k).getD [])) (fun k => D.int (((lookN (wayD n columns) k).getD []).getD x 0)) _ (fun k hk K t hK => ?_) ?_
      · obtain ⟨v, h3, h4⟩ := hval k hk
        rw [h3] at hK ⊢
        walk_at "jv"
        refine ⟨_, ?_, hK⟩
        show atI (v.map D.int) _ = _
        rw [atI_map, atI_getD (by omega)]
        rfl
      · rw [dI, List.map_map, List.map_map] at hK
        exact hK
    · have e : ((List.range n).map fun x => dI ((ys.map fun y => (lookN (wayD n columns) y).getD []).map fun c => c.getD x 0)) = (tran n (ys.map fun y => (lookN (wayD n columns) y).getD [])).map fun r => dI r := by
        rw [tran, List.map_map]; rfl
      rw [e]
      obtain ⟨g0, g1⟩ := gcdL_pos (l := (tran n (ys.map fun y => (lookN (wayD n columns) y).getD [])).flatten) d0
      refine ⟨d, _, _, rfl, .inl rfl, by rw [tran_len]; omega, by rw [tran_len]; omega, ?_, fun r hr => ?_, d0, (sm30.le (by omega) d1).mono (by decide), ?_, hq⟩
      · rw [tran_wid hn1, List.length_map, hyl]; omega
      · rw [tran_wid hn1]; exact tran_row hr
      · refine Int.le_trans (Int.ediv_le_self _ (by omega)) d1

theorem ok_plain_told (T : Txt mg) (c_plain_of : Cal P w K mg base 4 "plain_of" ["d", "columns"] (spP K 2 fs_plain_of)) (c_columns_of : Cal P w K mg base 1 "columns_of" ["teller"] (spP K 1 fs_columns_of)) {f : Addr} {fd : FuncData} (F : Fun K "plain_told" "plain_told" s_plain_told f fd) : FnOk P w K mg base CX0 5 f fd ["teller"] (spP K 1 fs_plain_told) := by
  refine ok_P F sc_plain_told rfl (fun cdv A outer s H E hr =>
    (S_one (S_ret (E_callC c_plain_of (hr.mono (by decide)) rfl tk_P (EA_cons (E_ix (E_name (pv 0)) E_int) (EA_cons (E_callC c_columns_of (hr.mono (by decide)) rfl tk_P (EA_cons (E_name (pv 0)) EA_nil)) EA_nil)))))) (fun ds Φ hn h => ?_)
  obtain ⟨d, rows, rfl, ht, hq⟩ := h
  walk_at "jv"
  refine ⟨d, rows, rfl, ht, d, cols rows, rows.length, rfl, by have := ht.d1; omega, ht.d2, tel_cols ht, hq⟩

theorem ok_plain (T : Txt mg) (c_check_teller : Cal P w K mg base 4 "check_teller" ["teller"] (spP K 1 fs_check_teller)) (c_plain_told : Cal P w K mg base 5 "plain_told" ["teller"] (spP K 1 fs_plain_told)) {f : Addr} {fd : FuncData} (F : Fun K "plain" "plain" s_plain f fd) : FnOk P w K mg base CX0 6 f fd ["teller"] (spP K 1 fs_plain) := by
  refine ok_P F sc_plain rfl (fun cdv A outer s H E hr =>
    (S_cons (S_expr (E_callC c_check_teller (hr.mono (by decide)) rfl tk_P (EA_cons (E_name (pv 0)) EA_nil)))
      (S_one (S_ret (E_callC c_plain_told (hr.mono (by decide)) rfl tk_P (EA_cons (E_name (pv 0)) EA_nil)))))) (fun ds Φ hn h => ?_)
  obtain ⟨d, rows, rfl, ht, hq⟩ := h
  walk_at "jv"
  exact ⟨d, rows, rfl, ht, d, rows, rfl, ht, hq⟩

theorem ok_Table_init (T : Txt mg) {C_Table : Addr} (TC_Table : TxtC_Table K C_Table) {f : Addr} {fd : FuncData} (F : Fun K "__init__" "Table.__init__" s_Table_init f fd) : FnOk P w K mg base CX0 1 f fd ["self", "matrix", "rest"] (spC K 3 (fs_Table_init C_Table)) := by
  refine ok_C F sc_Table_init rfl (fun cdv A outer s H E t hr =>
    (S_cons (S_setF TC_Table.cl_Table TC_Table.na_Table_many (E_name (pv 0)) (E_cb (fun h => pe_callB call_len_seq rfl T.bt.b_len b_len h) opn_len (EA_cons (E_ix (E_name (pv 1)) E_int) EA_nil)))
      (S_cons (S_setF TC_Table.cl_Table TC_Table.na_Table_scale (E_name (pv 0)) E_int)
      (S_cons (S_setFL (i := 0) TC_Table.cl_Table TC_Table.na_Table_rows (pv 0) (EL_lst EA_nil))
      (S_cons (S_for PassesOwn.never rfl (EI_enum (fun h => pi_enum rfl T.bt.b_enumerate h) (EA_cons (E_name (pv 1)) EA_nil)) (EG_tup (is := [3, 4]) rfl (pg_tup rfl (pgs_cons (pg_name (i := 3) sc_Table_init.nd rfl (by first | exact Or.inl rfl | exact Or.inr rfl)) (pgs_cons (pg_name (i := 4) sc_Table_init.nd rfl (by first | exact Or.inl rfl | exact Or.inr rfl)) pgs_nil)))) (S_cons (S_frzA (i := 5) (S_own (i := 5) (PS_setLc (i := 5) (own := [("k", 7)]) rfl sc_Table_init.nd (blkOk_by (by first | decide +kernel | rfl)) (by decide) (EI_range1 (fun h => pi_range1 rfl T.bt.b_range h) (EA_cons (E_cb (fun h => pe_callB call_len_seq rfl T.bt.b_len b_len h) opn_len (EA_cons (E_name (pv 1)) EA_nil)) EA_nil)) (fun _ _ _ _ _ => (EG_name (pg_name (i := 7) sc_Table_init.nd rfl (by first | exact Or.inl rfl | exact Or.inr rfl)))) (fun _ _ _ _ _ => ETs_nil) (fun _ _ _ _ _ => (E_if (EB_cmp (op_eqD hr.units) opd_eq (E_name (pv 7)) (E_name (pv 3)) (nomark _)) E_int E_int)))))
      (S_one (S_cApp (ps_expr (pe_bm PySem.F.plainAttrs_list PySem.F.slot_list_append PySem.F.type_list_append mt_append (E_fld TC_Table.cl_Table TC_Table.na_Table_rows (E_name (pv 0))) (pa_cons (E_ls (EL_bin op_catR opd_cat (E_ls (EL_bin op_catR opd_cat (E_ls (EL_cb (fun h => pe_callTy call_list_of rfl T.bt.b_list b_list h) opn_list (EA_cons (E_name (pv 4)) EA_nil))) (E_name (pv 5)))) (E_ls (EL_lst (EA_cons (E_ix (E_name (pv 2)) (E_name (pv 3))) EA_nil))))) pa_nil)))))))
      (S_cons (S_cFrz (C := C_Table) (i := 0) (f := "rows") (S_setFL (i := 0) TC_Table.cl_Table TC_Table.na_Table_base (pv 0) (EL_lc (own := [("i", 3)]) rfl sc_Table_init.nd (blkOk_by (by first | decide +kernel | rfl)) (by decide) (EI_range1 (fun h => pi_range1 rfl T.bt.b_range h) (EA_cons (E_cb (fun h => pe_callB call_len_seq rfl T.bt.b_len b_len h) opn_len (EA_cons (E_name (pv 1)) EA_nil)) EA_nil)) (fun _ _ _ _ _ => (EG_name (pg_name (i := 3) sc_Table_init.nd rfl (by first | exact Or.inl rfl | exact Or.inr rfl)))) (fun _ _ _ _ _ => ETs_nil) (fun _ _ _ _ _ => (E_bin op_addIT opd_add (E_fld TC_Table.cl_Table TC_Table.na_Table_many (E_name (pv 0))) (E_name (pv 3)))))))
      (S_cons (S_frzA (i := 6) (S_own (i := 6) (PS_setLc (i := 6) (own := [("j", 8)]) rfl sc_Table_init.nd (blkOk_by (by first | decide +kernel | rfl)) (by decide) (EI_range1 (fun h => pi_range1 rfl T.bt.b_range h) (EA_cons (E_fld TC_Table.cl_Table TC_Table.na_Table_many (E_name (pv 0))) EA_nil)) (fun _ _ _ _ _ => (EG_name (pg_name (i := 8) sc_Table_init.nd rfl (by first | exact Or.inl rfl | exact Or.inr rfl)))) (fun _ _ _ _ _ => ETs_nil) (fun _ _ _ _ _ => (E_bin op_sub opd_I0 E_int (E_cb (fun h => pe_callB (cr_sumS rfl) rfl T.bt.b_sum b_sum h) opn_sum (EA_cons (E_ls (EL_lc (own := [("row", 4)]) rfl sc_Table_init.nd (blkOk_by (by first | decide +kernel | rfl)) (by decide) (EI_seq (E_name (pv 1))) (fun _ _ _ _ _ => (EG_name (pg_name (i := 4) sc_Table_init.nd rfl (by first | exact Or.inl rfl | exact Or.inr rfl)))) (fun _ _ _ _ _ => ETs_nil) (fun _ _ _ _ _ => (E_ix (E_name (pv 4)) (E_name (pv 8)))))) EA_nil)))))))
      (S_one (S_setF TC_Table.cl_Table TC_Table.na_Table_costs (E_name (pv 0)) (E_ls (EL_bin op_catR opd_cat (E_ls (EL_bin op_catR opd_cat (E_name (pv 6)) (E_ls (EL_bin op_repR opd_rep (E_ls (EL_lst (EA_cons E_int EA_nil))) (E_cb (fun h => pe_callB call_len_seq rfl T.bt.b_len b_len h) opn_len (EA_cons (E_name (pv 1)) EA_nil)))))) (E_ls (EL_lst (EA_cons (E_bin op_sub opd_I0 E_int (E_cb (fun h => pe_callB (cr_sumS rfl) rfl T.bt.b_sum b_sum h) opn_sum (EA_cons (E_name (pv 2)) EA_nil))) EA_nil)))))))))))))) (fun ds Φ t hn h => ?_)
  obtain ⟨o, m, n, A, b, rfl, et, hm, hw, q⟩ := h
  refine sq_abs fun N1 hN1 => ?_
  walk_at "jv"
  simp only [et]
  walk_at "jv"
  refine ⟨_, atI_rng (k := 0) hm, _, rfl, by decide, ?_⟩
  rw [List.length_map, fnL_len]
  apply hN1
  clear hN1
  refine sq_abs fun N2 hN2 => ?_
  walk_at "jv"
  apply hN2
  clear hN2
  refine sq_abs fun N3 hN3 => ?_
  walk_at "jv"
  refine ⟨Nat.zero_le _, fun p tp po => ?_⟩
  apply hN3
  clear hN3
  refine sq_abs fun N4 hN4 => ?_
  refine for_abs fun WB hWB => ?_
  walk_at "jv"
  refine forI_mk (fun k ρ t' => ∃ x1 x2 x3, ρ = [.val (.hdl o), .val (dMx m n fun x l => A l x), .val (dLI (fnL m b)), x1, x2, x3, .no, .no, .no] ∧ t' o = some (.ins C_Table (tf3 (.int n) (.int 1) (.hdl p))) ∧ t' p = some (.lst ((List.range k).map fun k => dLI (fnL (n + m + 1) ((LP.first (LP.prob m n A b)).T k))))) ⟨_, _, _, rfl, by rw [setC_same], by rw [setC_ne po, setC_same]; rfl⟩ ?_ ?_
  · rintro k ρ t' d ⟨x1, x2, x3, rfl, et', ep'⟩ hd
    obtain ⟨hk, rfl⟩ := enum_rng hd
    refine ⟨_, rfl, fun N hN => ?_⟩
    subst hWB
    refine sq_abs fun N5 hN5 => ?_
    walk_at "jv"
    rw [List.length_range, Int.toNat_natCast, rangeD_len, rangeD_eq]
    refine ⟨by omega, by omega, by rw [sizeL]; omega, ?_⟩
    refine lcRun_mapS _ (fun q => D.int (if q = k then 1 else 0)) _ (fun q hq K hK => ?_) ?_
    · walk_at "jv"
      by_cases e : q = k
      · rw [if_pos e] at hK
        rw [if_pos (by omega)]; exact hK
      · rw [if_neg e] at hK
        rw [if_neg (by omega)]; exact hK
    · apply hN5
      clear hN5
      walk_at "jv"
      simp only [et']
      walk_at "jv"
      refine ⟨_, ep', by rw [fnL_len, List.length_range, sizeL]; omega, _, fn_at hk, by rw [sizeL]; omega, by rw [List.length_append, List.length_map, fnL_len, List.length_map, List.length_range, sizeL]; omega, _, ep', by rw [List.length_map, List.length_range, sizeL]; omega, ?_⟩
      refine hN _ _ ⟨_, _, _, rfl, by rw [setC_ne (Ne.symm po)]; exact et', ?_⟩
      rw [setC_same, List.range_succ, List.map_append, List.map_cons, List.map_nil, first_row]
  · rintro ρ t' ⟨x1, x2, x3, rfl, et', ep'⟩
    rw [enum_len, List.length_map, List.length_range] at ep'
    apply hN4
    clear hN4
    refine sq_abs fun N5 hN5 => ?_
    walk_at "jv"
    refine ⟨_, et', p, rfl, _, ep', po, ?_⟩
    rw [List.length_range, Int.toNat_natCast, rangeD_len, rangeD_eq]
    refine ⟨by omega, by omega, by rw [sizeL]; omega, ?_⟩
    refine lcRun_mapS _ (fun q => D.int ((n + q : Nat) : Int)) _ (fun q hq K hK => ?_) ?_
    · walk_at "jv"
      refine ⟨trivial, ?_⟩
      rw [Int.natCast_add] at hK
      exact hK
    · walk_at "jv"
      intro pb tpb pbo
      apply hN5
      clear hN5
      refine sq_abs fun N6 hN6 => ?_
      walk_at "jv"
      rw [Int.toNat_natCast, rangeD_len, rangeD_eq]
      refine ⟨by omega, by omega, by rw [sizeL]; omega, ?_⟩
      refine lcRun_mapS _ (fun l => D.int (0 - LP.sg m (A l))) _ (fun l hl K hK => ?_) ?_
      · have hl := List.mem_range.mp hl
        walk_at "jv"
        refine ⟨by rw [List.length_range, sizeL]; omega, ?_⟩
        refine lcRun_mapS _ (fun k => D.int (A l k)) _ (fun k hk K hK => ?_) ?_
        · walk_at "jv"
          exact ⟨_, fn_at hl, hK⟩
        · refine ⟨(List.range m).map fun k => A l k, .inl (by rw [List.map_map]; rfl), ?_⟩
          rw [list_sum_at]
          exact hK
      · apply hN6
        clear hN6
        walk_at "jv"
        rw [List.length_range, List.length_range, Int.toNat_natCast, rep_ints]
        refine ⟨by rw [sizeL]; omega, by omega, by omega, by rw [sizeL]; omega, by rw [List.length_map, List.length_replicate, sizeL]; omega, fnL m b, .inl rfl, by rw [sizeL]; omega, by rw [List.length_append, List.length_map, List.length_range, List.length_map, List.length_replicate, sizeL]; omega, ?_⟩
        rw [fnL_sum, ← first_costs]
        refine q _ ⟨pb, by rw [setC_same]; rfl, ?_, pbo⟩
        rw [setC_ne pbo, setC_ne pbo, setC_same]
        rfl

theorem ok_Table_column (T : Txt mg) {C_Table : Addr} (TC_Table : TxtC_Table K C_Table) {f : Addr} {fd : FuncData} (F : Fun K "column" "Table.column" s_Table_column f fd) : FnOk P w K mg base CX0 1 f fd ["self"] (spC K 1 (fs_Table_column C_Table)) := by
  refine ok_C F sc_Table_column rfl (fun cdv A outer s H E t hr =>
    (S_cons (S_for PassesOwn.never rfl (EI_range1 (fun h => pi_range1 rfl T.bt.b_range h) (EA_cons (E_fld TC_Table.cl_Table TC_Table.na_Table_many (E_name (pv 0))) EA_nil)) (EG_name (pg_name (i := 1) sc_Table_column.nd rfl (by first | exact Or.inl rfl | exact Or.inr rfl))) (S_one (S_if (EB_cmp op_lt opd_B0 (E_ix (E_fld TC_Table.cl_Table TC_Table.na_Table_costs (E_name (pv 0))) (E_name (pv 1))) E_int (nomark _)) (S_one (S_ret (E_name (pv 1)))) S_nil)))
      (S_one (S_ret E_non)))) (fun ds Φ t hn h => ?_)
  obtain ⟨o, n, m, tb, rfl, ⟨pb, et, ep, po⟩, hw, q⟩ := h
  walk_at "jv"
  simp only [et]
  walk_at "jv"
  refine ⟨by omega, by omega, fun k ρ t' => t' = t ∧ (∃ z, ρ = [.val (.hdl o), z]) ∧ ∀ l, l < k → 0 ≤ tb.c l, ⟨rfl, ⟨_, rfl⟩, fun l hl => absurd hl (Nat.not_lt_zero l)⟩, ?_, ?_⟩
  · rintro k ρ t' d ⟨rfl, ⟨z, rfl⟩, hl⟩ hd
    rw [Int.toNat_natCast] at hd
    obtain ⟨hk, rfl⟩ := range_at hd
    walk_at "jv"
    simp only [et]
    walk_at "jv"
    refine ⟨_, fn_at (by omega), _, rfl, ?_⟩
    by_cases hc : tb.c k < 0
    · rw [if_pos hc]; exact q _ (.inl ⟨k, rfl, hk, hc, hl⟩)
    · rw [if_neg hc]
      refine ⟨⟨_, rfl⟩, fun l hlk => ?_⟩
      by_cases e : l = k
      · subst e; omega
      · exact hl l (by omega)
  · rintro ρ t' ⟨rfl, ⟨z, rfl⟩, hl⟩
    rw [Int.toNat_natCast, rangeD_len] at hl
    exact q _ (.inr ⟨rfl, hl⟩)

theorem ok_Table_cleared (T : Txt mg) {C_Table : Addr} (TC_Table : TxtC_Table K C_Table) {f : Addr} {fd : FuncData} (F : Fun K "cleared" "Table.cleared" s_Table_cleared f fd) : FnOk P w K mg base CX0 1 f fd ["self", "row", "own", "j"] (spC K 4 (fs_Table_cleared C_Table)) := by
  refine ok_C F sc_Table_cleared rfl (fun cdv A outer s H E t hr =>
    (S_cons (S_if (EB_cmp (op_eqD hr.units) opd_eq (E_ix (E_name (pv 1)) (E_name (pv 3))) E_int (nomark _)) (S_one (S_ret (E_ls (EL_lc (own := [("number", 4)]) rfl sc_Table_cleared.nd (blkOk_by (by first | decide +kernel | rfl)) (by decide) (EI_seq (E_name (pv 1))) (fun _ _ _ _ _ => (EG_name (pg_name (i := 4) sc_Table_cleared.nd rfl (by first | exact Or.inl rfl | exact Or.inr rfl)))) (fun _ _ _ _ _ => ETs_nil) (fun _ _ _ _ _ => (E_bin op_fdivW opd_I (E_bin op_mulW opd_I (E_name (pv 4)) (E_ix (E_name (pv 2)) (E_name (pv 3)))) (E_fld TC_Table.cl_Table TC_Table.na_Table_scale (E_name (pv 0))))))))) S_nil)
      (S_one (S_ret (E_ls (EL_lc (own := [("number", 4), ("other", 5)]) rfl sc_Table_cleared.nd (blkOk_by (by first | decide +kernel | rfl)) (by decide) (EI_zip (fun h => pi_zipA rfl T.bt.b_zip h) (EA_cons (E_name (pv 1)) (EA_cons (E_name (pv 2)) EA_nil))) (fun _ _ _ _ _ => (EG_tup (is := [4, 5]) rfl (pg_tup rfl (pgs_cons (pg_name (i := 4) sc_Table_cleared.nd rfl (by first | exact Or.inl rfl | exact Or.inr rfl)) (pgs_cons (pg_name (i := 5) sc_Table_cleared.nd rfl (by first | exact Or.inl rfl | exact Or.inr rfl)) pgs_nil))))) (fun _ _ _ _ _ => ETs_nil) (fun _ _ _ _ _ => (E_bin op_fdivW opd_I (E_bin op_sub opd_I0 (E_bin op_mulW opd_I (E_name (pv 4)) (E_ix (E_name (pv 2)) (E_name (pv 3)))) (E_bin op_mulW opd_I (E_ix (E_name (pv 1)) (E_name (pv 3))) (E_name (pv 5)))) (E_fld TC_Table.cl_Table TC_Table.na_Table_scale (E_name (pv 0))))))))))) (fun ds Φ t hn h => ?_)
  obtain ⟨o, n, m, tb, w, f, g, j, rfl, ⟨pb, et, ep, po⟩, ss, s0, hj, hw, sm, q⟩ := h
  have cd : ∀ x, CDivW x tb.s := fun x => wide_div s0 ss (by decide) (by decide)
  have cm : ∀ {x y}, Sm 9000 x → Sm 9000 y → CMulW x y := fun hx hy => wide_mul hx hy (by decide) (by decide) (by decide)
  rw [dLI_fn] at q
  walk_at "jv"
  refine ⟨_, fn_at hj, shp_int _, ?_⟩
  rw [eq_int]
  by_cases h0 : f j = 0
  · rw [if_pos (decide_eq_true h0)]
    refine ⟨by rw [fnL_len, sizeL]; omega, ?_⟩
    have e : (fnL w f).map D.int = (List.range w).map fun l => D.int (f l) := by unfold fnL; rw [List.map_map]; rfl
    rw [e]
    refine lcRun_mapS _ (fun l => D.int ((g j * f l - f j * g l) / tb.s)) _ (fun l hl K hK => ?_) q
    have hl := List.mem_range.mp hl
    walk_at "jv"
    refine ⟨_, fn_at hj, _, rfl, cm (sm l hl).1 (sm j hj).2, _, et, _, rfl, _, rfl, cd _, ?_⟩
    rw [h0, Int.zero_mul, Int.sub_zero, Int.mul_comm] at hK
    exact hK
  · rw [if_neg (by simpa using h0)]
    refine ⟨_, _, ⟨rfl, rfl⟩, _, rfl, _, rfl, rfl, ?_⟩
    rw [zipD_fn]
    refine ⟨by rw [List.length_map, List.length_range, sizeL]; omega, ?_⟩
    refine lcRun_mapS _ (fun l => D.int ((g j * f l - f j * g l) / tb.s)) _ (fun l hl K hK => ?_) q
    have hl := List.mem_range.mp hl
    walk_at "jv"
    refine ⟨_, fn_at hj, _, rfl, cm (sm l hl).1 (sm j hj).2, _, fn_at hj, _, rfl, cm (sm j hj).1 (sm l hl).2, _, et, _, rfl, _, rfl, cd _, ?_⟩
    rw [Int.mul_comm (g j)] at hK
    exact hK

theorem ok_Table_exchange (T : Txt mg) {C_Table : Addr} (TC_Table : TxtC_Table K C_Table) (m_Table_cleared : CalM P w K mg base 1 C_Table "cleared" ["self", "row", "own", "j"] (spC K 4 (fs_Table_cleared C_Table))) {f : Addr} {fd : FuncData} (F : Fun K "exchange" "Table.exchange" s_Table_exchange f fd) : FnOk P w K mg base CX0 2 f fd ["self", "i", "j"] (spC K 3 (fs_Table_exchange C_Table)) := by
  refine ok_C F sc_Table_exchange rfl (fun cdv A outer s H E t hr =>
    (S_cons (S_set (i := 3) (ps_set (i := 3) sc_Table_exchange.nd rfl (by first | exact Or.inl rfl | exact Or.inr rfl) (E_ix (E_fld TC_Table.cl_Table TC_Table.na_Table_rows (E_name (pv 0))) (E_name (pv 1)))))
      (S_cons (S_setF TC_Table.cl_Table TC_Table.na_Table_rows (E_name (pv 0)) (E_ls (EL_lc (own := [("k", 4), ("row", 5)]) rfl sc_Table_exchange.nd (blkOk_by (by first | decide +kernel | rfl)) (by decide) (EI_enum (fun h => pi_enum rfl T.bt.b_enumerate h) (EA_cons (E_fld TC_Table.cl_Table TC_Table.na_Table_rows (E_name (pv 0))) EA_nil)) (fun _ _ _ _ _ => (EG_tup (is := [4, 5]) rfl (pg_tup rfl (pgs_cons (pg_name (i := 4) sc_Table_exchange.nd rfl (by first | exact Or.inl rfl | exact Or.inr rfl)) (pgs_cons (pg_name (i := 5) sc_Table_exchange.nd rfl (by first | exact Or.inl rfl | exact Or.inr rfl)) pgs_nil))))) (fun _ _ _ _ _ => ETs_nil) (fun _ _ _ _ _ => (E_if (EB_cmp (op_eqD hr.units) opd_eq (E_name (pv 4)) (E_name (pv 1)) (nomark _)) (E_name (pv 5)) (E_meth TC_Table.cl_Table m_Table_cleared (hr.mono (by decide)) tk_C (E_name (pv 0)) (EA_cons (E_name (pv 5)) (EA_cons (E_name (pv 3)) (EA_cons (E_name (pv 2)) EA_nil)))))))))
      (S_cons (S_setF TC_Table.cl_Table TC_Table.na_Table_costs (E_name (pv 0)) (E_meth TC_Table.cl_Table m_Table_cleared (hr.mono (by decide)) tk_C (E_name (pv 0)) (EA_cons (E_fld TC_Table.cl_Table TC_Table.na_Table_costs (E_name (pv 0))) (EA_cons (E_name (pv 3)) (EA_cons (E_name (pv 2)) EA_nil)))))
      (S_cons (S_setF TC_Table.cl_Table TC_Table.na_Table_scale (E_name (pv 0)) (E_ix (E_name (pv 3)) (E_name (pv 2))))
      (S_one (S_cSet (ps_asg (E_name (pv 2)) (pg_sub (E_fld TC_Table.cl_Table TC_Table.na_Table_base (E_name (pv 0))) (E_name (pv 1)) set_list))))))))) (fun ds Φ t hn h => ?_)
  obtain ⟨o, n, m, tb, i, j, rfl, tat, sm, s0, hi, hj, q⟩ := h
  have tat0 := tat
  obtain ⟨pb, et, ep, po⟩ := tat
  refine sq_abs fun N1 hN1 => ?_
  walk_at "jv"
  simp only [et]
  walk_at "jv"
  refine ⟨_, atI_rng hi, ?_⟩
  apply hN1
  clear hN1
  refine sq_abs fun N2 hN2 => ?_
  walk_at "jv"
  simp only [et]
  walk_at "jv"
  refine ⟨by rw [enum_len, List.length_map, List.length_range, sizeL]; have := sm.w; omega, ?_⟩
  rw [enumD_rng]
  refine lcRun_mapS _ (fun k => dLI (fnL (n + m + 1) ((LP.ex tb i j).T k))) _ (fun k hk K hK => ?_) ?_
  · have hk := List.mem_range.mp hk
    walk_at "jv"
    by_cases e : k = i
    · subst e
      rw [if_pos rfl]
      have e2 : (LP.ex tb k j).T k = tb.T k := by funext l; exact LP.ex_Ti k j l
      rw [e2] at hK
      exact hK
    · rw [if_neg (by omega)]
      refine ⟨_, et, rfl, o, n, m, tb, n + m + 1, tb.T k, tb.T i, j, rfl, tat0, sm.s, s0, by omega, sm.w, fun l hl => ⟨sm.T k hk l hl, sm.T i hi l hl⟩, ?_⟩
      have e2 : (fun l => (tb.T i j * tb.T k l - tb.T k j * tb.T i l) / tb.s) = (LP.ex tb i j).T k := by
        funext l
        show _ = if k = i then tb.T i l else _
        rw [if_neg e]
      rw [e2]
      exact hK
  · walk_at "jv"
    simp only [et]
    walk_at "jv"
    apply hN2
    clear hN2
    refine sq_abs fun N3 hN3 => ?_
    walk_at "jv"
    refine ⟨o, n, m, ⟨(LP.ex tb i j).T, tb.c, tb.s, tb.β⟩, n + m + 1, tb.c, tb.T i, j, rfl, ⟨pb, by rw [setC_same], by rw [setC_ne po]; exact ep, po⟩, sm.s, s0, by omega, sm.w, fun l hl => ⟨sm.c l hl, sm.T i hi l hl⟩, ?_⟩
    walk_at "jv"
    apply hN3
    clear hN3
    refine sq_abs fun N4 hN4 => ?_
    walk_at "jv"
    refine ⟨_, fn_at (by omega), ?_⟩
    apply hN4
    clear hN4
    walk_at "jv"
    simp only [setC_ne po, ep]
    walk_at "jv"
    refine ⟨i, by rw [List.length_range]; exact ixN_nat hi, ?_⟩
    refine q _ ⟨pb, ?_, ?_, po⟩
    · rw [setC_ne (Ne.symm po), setC_same]
      rfl
    · rw [setC_same]
      congr 2
      refine List.ext_getElem? fun k => ?_
      rw [List.getElem?_set]
      by_cases hk : k < m
      · rw [List.getElem?_map, List.getElem?_map, List.getElem?_range hk, List.length_map, List.length_range]
        show _ = some (D.int ((if k = i then j else tb.β k : Nat) : Int))
        by_cases e : i = k
        · rw [if_pos e, if_pos hi, if_pos e.symm]
        · rw [if_neg e, if_neg (Ne.symm e)]; rfl
      · rw [List.getElem?_eq_none (by rw [List.length_map, List.length_range]; omega), List.getElem?_eq_none (by rw [List.length_map, List.length_range]; omega), if_neg (by omega)]

end
end J

set_option Elab.async false
set_option linter.all false
set_option maxRecDepth 100000
set_option maxHeartbeats 4000000
namespace J
open PySem PySem.Spec L2 RZ
local macro_rules | `(tactic| walk_at "jv") => `(tactic| simp only [wSq, wIfS, wOrT, wAndT, wNotT, wB, wIsi, wName, wRet, wC, wNilS, wAndV, wOrV, wNotV, wBin, wUn, wIf, wChain, fI0, fI, fIsN, fNotN, fB, fAdd, fEq, fNe, fIx, wCall, wCons, wNil, wTup, wDrop, wSet, wOwn, wFrzA, wFrzB, wAsg, wPar, wxVal, wxOwn, wxNil, bindX, bindP, bindN, wLs, wLst, wLc, wLc2, lcBody, wYes, wipeE, J.wSeq, wRange1, wRange2, wEnum, wZip, wSl, wSlL, wNoO, wSomeO, wAppend, wExtend, wSetIx, wOwnIx, wOwnLen, wFor, wWhile, fLen, fAbs, fMin2, fMax2, fInt, fSum, fMax, fAll, fAny, fTuple, fList, fCat, fRep, startE, List.map, List.cons_append, List.nil_append, List.getElem?_cons_zero, List.getElem?_cons_succ, List.set_cons_zero, List.set_cons_succ, List.length_cons, List.length_nil, List.replicate, Option.some.injEq, Sl.val.injEq, Sl.own.injEq, D.int.injEq, D.bl.injEq, D.tup.injEq, D.lst.injEq, exists_eq_left', exists_eq_left, exists_eq_right, true_and, and_true, if_true, List.cons.injEq, exists_and_left, exists_const, items_tup, items_lst, isT_tup, isT_lst, atI_0, atI_1, atI_2, addD_int, addD_tup, intD_int, intD_bl, dTel, dRows, dI, dSta, dGar, dRat, tyq_tup, tyq_lst, tyq_int, tyq_str, tyq_bl, tyq_non, isi_tt, isi_ss, isi_ii, isi_ib, shp_eq_int, shp_eq_teller, shp_eq_stakes, shp_eq_garbler, eq_str_self, eq_int, Bool.not_true, Bool.not_false, Bool.false_eq_true, if_false, List.length_map, decide_eq_true_eq, Bool.not_eq_true', decide_eq_false_iff_not, Nat.zero_add, Nat.reduceAdd, ite_true, ite_false, Int.reduceAdd, wDctNew, wDctGet, wDctIx, wDctPut, wDctSorted, fRepT, Sl.dct.injEq, wCallT, fsT, lenI_tup, lenI_lst, lenI_scr, fsD, wDrTurn, wDrRest, wDrCells, wDrAny, wDrPop, wDrSetR, wDrSetT, drIs, wFld, wSetF, wSetFL, wCIx, wCApp, wCSet, wCFrz, wMeth, wMake, fsC, Cell.ins.injEq, Cell.lst.injEq, D.hdl.injEq, lk_many, lk_scale, lk_rows, lk_base, lk_costs, lk_m1, lk_m2, lk_m3, lk_m4, lk_m5, pu_scale, pu_rows, pu_base, pu_costs, setC_same, pp_1, pp_2, pp_3, pp_3', pp_4, pp_5, lk3_rows, lk3_many, lk4_many, ln_0, ln_1, ln_2, ln_3, ln_4, ln_5, wDctC, wDc, dcBody, wDctGetN, wListRg])
abbrev s_Table_row : Stmt := inClass (topS 34) 2
theorem sc_Table_row : FnScope ["self", "j", "best", "i", "row", "mine", "least"] ["self", "j"] (defScope s_Table_row) := ⟨rfl, rfl, rfl, by decide +kernel, rfl, by decide +kernel, by decide +kernel⟩
abbrev s_Table_run : Stmt := inClass (topS 34) 5
theorem sc_Table_run : FnScope ["self", "j"] ["self"] (defScope s_Table_run) := ⟨rfl, rfl, rfl, by decide +kernel, rfl, by decide +kernel, by decide +kernel⟩
abbrev s_solved : Stmt := topS 35
theorem sc_solved : FnScope ["matrix", "rest", "table", "found", "i", "j"] ["matrix", "rest"] (defScope s_solved) := ⟨rfl, rfl, rfl, by decide +kernel, rfl, by decide +kernel, by decide +kernel⟩
abbrev s_searched : Stmt := topS 61
theorem sc_searched : FnScope ["one", "other", "short", "brief", "matrix", "rest"] ["one", "other"] (defScope s_searched) := ⟨rfl, rfl, rfl, by decide +kernel, rfl, by decide +kernel, by decide +kernel⟩
abbrev s_column_of : Stmt := topS 56
theorem sc_column_of : FnScope ["teller", "word", "row"] ["teller", "word"] (defScope s_column_of) := ⟨rfl, rfl, rfl, by decide +kernel, rfl, by decide +kernel, by decide +kernel⟩
abbrev s_direction_of_order : Stmt := topS 57
theorem sc_direction_of_order : FnScope ["teller", "word", "column", "by", "number"] ["teller", "word"] (defScope s_direction_of_order) := ⟨rfl, rfl, rfl, by decide +kernel, rfl, by decide +kernel, by decide +kernel⟩
abbrev s_placed : Stmt := topS 59
theorem sc_placed : FnScope ["teller", "short", "at", "found", "word", "direction", "often"] ["teller", "short"] (defScope s_placed) := ⟨rfl, rfl, rfl, by decide +kernel, rfl, by decide +kernel, by decide +kernel⟩
abbrev s_lowered_rows : Stmt := topS 32
theorem sc_lowered_rows : FnScope ["whole", "rows", "by", "row", "number"] ["whole", "rows"] (defScope s_lowered_rows) := ⟨rfl, rfl, rfl, by decide +kernel, rfl, by decide +kernel, by decide +kernel⟩
section
variable {P : Program} {w : World} {K : PySem.W.Frag} {mg : Str → Option Value} {base : Heap}
theorem ok_Table_row (T : Txt mg) {C_Table : Addr} (TC_Table : TxtC_Table K C_Table) {f : Addr} {fd : FuncData} (F : Fun K "row" "Table.row" s_Table_row f fd) : FnOk P w K mg base CX0 1 f fd ["self", "j"] (spC K 2 (fs_Table_row C_Table)) := by
  refine ok_C F sc_Table_row rfl (fun cdv A outer s H E t hr =>
    (S_cons (S_set (i := 2) (ps_set (i := 2) sc_Table_row.nd rfl (by first | exact Or.inl rfl | exact Or.inr rfl) E_non))
      (S_cons (S_for PassesOwn.never rfl (EI_enum (fun h => pi_enum rfl T.bt.b_enumerate h) (EA_cons (E_fld TC_Table.cl_Table TC_Table.na_Table_rows (E_name (pv 0))) EA_nil)) (EG_tup (is := [3, 4]) rfl (pg_tup rfl (pgs_cons (pg_name (i := 3) sc_Table_row.nd rfl (by first | exact Or.inl rfl | exact Or.inr rfl)) (pgs_cons (pg_name (i := 4) sc_Table_row.nd rfl (by first | exact Or.inl rfl | exact Or.inr rfl)) pgs_nil)))) (S_one (S_if (EB_cmp op_gt opd_B0 (E_ix (E_name (pv 4)) (E_name (pv 1))) E_int (nomark _)) (S_cons (S_if (EB_cmp op_isN opd_isN (E_name (pv 2)) E_non (nomark _)) (S_cons (S_set (i := 2) (ps_set (i := 2) sc_Table_row.nd rfl (by first | exact Or.inl rfl | exact Or.inr rfl) (E_name (pv 3))))
      (S_one S_continue)) S_nil)
      (S_cons (S_par2 (i := 5) (j := 6) (by decide) (ps_par (by rfl) sc_Table_row.nd rfl rfl (by decide) rfl rfl (EX_val (E_bin op_mulW opd_I (E_ix (E_name (pv 4)) (E_un un_neg opd_neg E_int)) (E_ix (E_ix (E_fld TC_Table.cl_Table TC_Table.na_Table_rows (E_name (pv 0))) (E_name (pv 2))) (E_name (pv 1)))) (EX_val (E_bin op_mulW opd_I (E_ix (E_ix (E_fld TC_Table.cl_Table TC_Table.na_Table_rows (E_name (pv 0))) (E_name (pv 2))) (E_un un_neg opd_neg E_int)) (E_ix (E_name (pv 4)) (E_name (pv 1)))) EX_nil)) (by rfl)))
      (S_one (S_if (PW.pt (EB_or (EB_cmp op_lt opd_B0 (E_name (pv 5)) (E_name (pv 6)) (nomark _)) (EB_or1 (PW.pt (EB_and (EB_cmp (op_eqD hr.units) opd_eq (E_name (pv 5)) (E_name (pv 6)) (nomark _)) (EB_and1 (EB_cmp op_lt opd_B0 (E_cIx (E_fld TC_Table.cl_Table TC_Table.na_Table_base (E_name (pv 0))) (E_name (pv 3))) (E_cIx (E_fld TC_Table.cl_Table TC_Table.na_Table_base (E_name (pv 0))) (E_name (pv 2))) (nomark _)))))))) (S_one (S_set (i := 2) (ps_set (i := 2) sc_Table_row.nd rfl (by first | exact Or.inl rfl | exact Or.inr rfl) (E_name (pv 3))))) S_nil)))) S_nil)))
      (S_one (S_ret (E_name (pv 2))))))) (fun ds Φ t hn h => ?_)
  obtain ⟨o, n, m, tb, j, rfl, ⟨pb, et, ep, po⟩, sm, hj, ⟨i0, hi0, hp0⟩, q⟩ := h
  have cm : ∀ {x y}, Sm 9000 x → Sm 9000 y → CMulW x y := fun hx hy => wide_mul hx hy (by decide) (by decide) (by decide)
  walk_at "jv"
  simp only [et]
  walk_at "jv"
  refine ⟨fun k ρ t' => t' = t ∧ ∃ bst x1 x2 x3 x4, ρ = [.val (.hdl o), .val (.int j), .val bst, x1, x2, x3, x4] ∧ ((bst = .non ∧ ∀ l, l < k → ¬ 0 < tb.T l j) ∨ ∃ i, bst = .int (i : Nat) ∧ BestR n m tb j k i), ⟨rfl, .non, _, _, _, _, rfl, .inl ⟨rfl, fun l hl => absurd hl (Nat.not_lt_zero l)⟩⟩, ?_, ?_⟩
  · rintro k ρ t' d ⟨rfl, bst, x1, x2, x3, x4, rfl, hb⟩ hd
    obtain ⟨hk, rfl⟩ := enum_rng hd
    walk_at "jv"
    refine ⟨_, fn_at (by omega), _, rfl, ?_⟩
    by_cases hp : 0 < tb.T k j
    · rw [if_pos hp]
      rcases hb with ⟨rfl, hn⟩ | ⟨i, rfl, B⟩
      · simp only [if_true]
        exact ⟨_, _, _, _, _, ⟨rfl, rfl, rfl, rfl, rfl⟩, .inr ⟨k, rfl, .one hn hp⟩⟩
      · have B1 := B.im
        simp only [et]
        walk_at "jv"
        refine ⟨_, fn_last, _, atI_rng (by omega), _, rfl, _, fn_at (by omega), _, rfl, _, rfl, cm (sm.T _ (by omega) _ (by omega)) (sm.T _ (by omega) _ (by omega)), _, atI_rng (by omega), _, rfl, _, fn_last, _, fn_at (by omega), _, rfl, _, rfl, cm (sm.T _ (by omega) _ (by omega)) (sm.T _ (by omega) _ (by omega)), ?_⟩
        by_cases h1 : tb.T k (n + m) * tb.T i j < tb.T i (n + m) * tb.T k j
        · rw [if_pos h1]
          exact ⟨_, _, _, _, _, ⟨rfl, rfl, rfl, rfl, rfl⟩, .inr ⟨k, rfl, B.take hp (.inl h1)⟩⟩
        · rw [if_neg h1]
          by_cases h2 : tb.T k (n + m) * tb.T i j = tb.T i (n + m) * tb.T k j
          · rw [if_pos h2]
            simp only [ep]
            walk_at "jv"
            refine ⟨_, atI_rng (f := fun k => D.int (tb.β k)) (by omega), _, atI_rng (f := fun k => D.int (tb.β k)) (by omega), _, rfl, _, rfl, ?_⟩
            by_cases h3 : (tb.β k : Int) < tb.β i
            · rw [if_pos h3]
              exact ⟨_, _, _, _, _, ⟨rfl, rfl, rfl, rfl, rfl⟩, .inr ⟨k, rfl, B.take hp (.inr ⟨h2, h3⟩)⟩⟩
            · rw [if_neg h3]
              exact ⟨_, _, _, _, _, ⟨rfl, rfl, rfl, rfl, rfl⟩, .inr ⟨i, rfl, B.keep fun z => z.elim h1 fun z => h3 z.2⟩⟩
          · rw [if_neg h2]
            exact ⟨_, _, _, _, _, ⟨rfl, rfl, rfl, rfl, rfl⟩, .inr ⟨i, rfl, B.keep fun z => z.elim h1 fun z => h2 z.1⟩⟩
    · rw [if_neg hp]
      refine ⟨_, _, _, _, _, ⟨rfl, rfl, rfl, rfl, rfl⟩, ?_⟩
      rcases hb with ⟨rfl, hn⟩ | ⟨i, rfl, B⟩
      · exact .inl ⟨rfl, fun l hl => by
          by_cases e : l = k
          · subst e; exact hp
          · exact hn l (by omega)⟩
      · exact .inr ⟨i, rfl, B.skip hp⟩
  · rintro ρ t' ⟨rfl, bst, x1, x2, x3, x4, rfl, hb⟩
    rw [enum_len, List.length_map, List.length_range] at hb
    rcases hb with ⟨rfl, hn⟩ | ⟨i, rfl, B⟩
    · exact absurd hp0 (hn i0 hi0)
    · walk_at "jv"
      exact q i B.im B.pos B.rat B.tie

theorem ok_Table_run (T : Txt mg) {C_Table : Addr} (TC_Table : TxtC_Table K C_Table) (m_Table_column : CalM P w K mg base 1 C_Table "column" ["self"] (spC K 1 (fs_Table_column C_Table))) (m_Table_exchange : CalM P w K mg base 2 C_Table "exchange" ["self", "i", "j"] (spC K 3 (fs_Table_exchange C_Table))) (m_Table_row : CalM P w K mg base 1 C_Table "row" ["self", "j"] (spC K 2 (fs_Table_row C_Table))) {f : Addr} {fd : FuncData} (F : Fun K "run" "Table.run" s_Table_run f fd) : FnOk P w K mg base CX0 3 f fd ["self"] (spC K 1 (fs_Table_run C_Table)) := by
  refine ok_C F sc_Table_run rfl (fun cdv A outer s H E t hr =>
    (S_cons (S_set (i := 1) (ps_set (i := 1) sc_Table_run.nd rfl (by first | exact Or.inl rfl | exact Or.inr rfl) (E_meth0 TC_Table.cl_Table m_Table_column (hr.mono (by decide)) tk_C (E_name (pv 0)))))
      (S_one (S_while PassesOwn.never (EB_cmp op_notN opd_notN (E_name (pv 1)) E_non (nomark _)) (S_cons (S_expr (E_meth TC_Table.cl_Table m_Table_exchange (hr.mono (by decide)) tk_C (E_name (pv 0)) (EA_cons (E_meth TC_Table.cl_Table m_Table_row (hr.mono (by decide)) tk_C (E_name (pv 0)) (EA_cons (E_name (pv 1)) EA_nil)) (EA_cons (E_name (pv 1)) EA_nil))))
      (S_one (S_set (i := 1) (ps_set (i := 1) sc_Table_run.nd rfl (by first | exact Or.inl rfl | exact Or.inr rfl) (E_meth0 TC_Table.cl_Table m_Table_column (hr.mono (by decide)) tk_C (E_name (pv 0))))))))))) (fun ds Φ t hn h => ?_)
  obtain ⟨o, n, m, A, b, tb, a, rfl, tat, inv, bd, hb, hw, q⟩ := h
  have tat0 := tat
  obtain ⟨pb, et, ep, po⟩ := tat
  walk_at "jv"
  simp only [et]
  walk_at "jv"
  obtain ⟨N0, lim0⟩ := LP.ends inv
  refine ⟨o, n, m, tb, rfl, tat0, hw, fun d hd => ?_⟩
  refine ⟨fun N ρ t' => ∃ tb' d, ρ = [.val (.hdl o), .val d] ∧ TblAt C_Table o n m tb' t' ∧ LP.Inv (LP.prob m n A b) tb' ∧ LP.Lim (LP.prob m n A b) N tb' ∧ ColIs n tb' d, ⟨N0, tb, d, rfl, tat0, inv, lim0, hd⟩, ?_⟩
  rintro N ρ t' ⟨tb', d, rfl, tat', inv', lim', hd⟩
  have tat1 := tat'
  obtain ⟨pb', et', ep', po'⟩ := tat'
  have sm := J.Inv.tsm inv' bd hb hw
  rcases hd with ⟨j, rfl, hj, hc, hl⟩ | ⟨rfl, hl⟩
  · walk_at "jv"
    simp only [et']
    walk_at "jv"
    refine ⟨o, n, m, tb', j, rfl, tat1, sm, hj, LP.some_pos (LP.prob_ph m n A b) inv' hj hc, fun i hi hp hr ht => ?_⟩
    have st : LP.Stp (LP.prob m n A b) tb' i j := ⟨hj, hc, hl, hi, hp, hr, ht⟩
    walk_at "jv"
    refine ⟨o, n, m, tb', i, j, rfl, tat1, sm, inv'.sp, hi, hj, fun t2 tat2 => ?_⟩
    have tat3 := tat2
    obtain ⟨pb2, et2, ep2, po2⟩ := tat2
    walk_at "jv"
    refine ⟨_, et2, rfl, o, n, m, _, rfl, tat3, hw, fun d2 hd2 => ?_⟩
    cases N with
    | zero => exact absurd st (lim' i j)
    | succ N => exact ⟨N, Nat.lt_succ_self N, _, tat3, st.inv inv', lim' i j st, hd2⟩
  · walk_at "jv"
    exact q t' tb' tat1 inv' hl

theorem ok_solved (T : Txt mg) {C_Table : Addr} (TC_Table : TxtC_Table K C_Table) (k_Table : CalK P w K mg base 1 C_Table "Table" ["self", "matrix", "rest"] (spC K 3 (fs_Table_init C_Table))) (m_Table_run : CalM P w K mg base 3 C_Table "run" ["self"] (spC K 1 (fs_Table_run C_Table))) {f : Addr} {fd : FuncData} (F : Fun K "solved" "solved" s_solved f fd) : FnOk P w K mg base CX0 4 f fd ["matrix", "rest"] (spP K 2 fs_solved) := by
  refine ok_PC F sc_solved rfl (fun cdv A outer s H E hr =>
    (S_cons (S_set (i := 2) (ps_set (i := 2) sc_solved.nd rfl (by first | exact Or.inl rfl | exact Or.inr rfl) (E_make k_Table (hr.mono (by decide)) rfl tk_C (EA_cons (E_name (pv 0)) (EA_cons (E_name (pv 1)) EA_nil)))))
      (S_cons (S_expr (E_meth0 TC_Table.cl_Table m_Table_run (hr.mono (by decide)) tk_C (E_name (pv 2))))
      (S_cons (S_if (EB_cmp (op_eqD hr.units) opd_eq (E_ix (E_fld TC_Table.cl_Table TC_Table.na_Table_costs (E_name (pv 2))) (E_un un_neg opd_neg E_int)) E_int (nomark _)) (S_cons (S_own (i := 3) (ps_set (i := 3) sc_solved.nd rfl (by first | exact Or.inl rfl | exact Or.inr rfl) (EL_bin op_repR opd_rep (E_ls (EL_lst (EA_cons E_int EA_nil))) (E_fld TC_Table.cl_Table TC_Table.na_Table_many (E_name (pv 2))))))
      (S_cons (S_cFrz (C := C_Table) (i := 2) (f := "base") (S_for PassesOwn.never rfl (EI_enum (fun h => pi_enum rfl T.bt.b_enumerate h) (EA_cons (E_fld TC_Table.cl_Table TC_Table.na_Table_base (E_name (pv 2))) EA_nil)) (EG_tup (is := [4, 5]) rfl (pg_tup rfl (pgs_cons (pg_name (i := 4) sc_solved.nd rfl (by first | exact Or.inl rfl | exact Or.inr rfl)) (pgs_cons (pg_name (i := 5) sc_solved.nd rfl (by first | exact Or.inl rfl | exact Or.inr rfl)) pgs_nil)))) (S_one (S_if (EB_cmp op_lt opd_B0 (E_name (pv 5)) (E_fld TC_Table.cl_Table TC_Table.na_Table_many (E_name (pv 2))) (nomark _)) (S_one (S_setIx (i := 3) (ps_asg (E_ix (E_ix (E_fld TC_Table.cl_Table TC_Table.na_Table_rows (E_name (pv 2))) (E_name (pv 4))) (E_un un_neg opd_neg E_int)) (pg_sub (pv 3) (E_name (pv 5)) set_list)))) S_nil))))
      (S_one (S_frzB (i := 3) (S_ret (E_tup (EA_cons (E_tup (EA_cons (E_name (pv 3)) (EA_cons (E_fld TC_Table.cl_Table TC_Table.na_Table_scale (E_name (pv 2))) EA_nil))) (EA_cons E_non EA_nil)))))))) S_nil)
      (S_one (S_ret (E_tup (EA_cons E_non (EA_cons (E_ls (EL_lc (own := [("i", 4)]) rfl sc_solved.nd (blkOk_by (by first | decide +kernel | rfl)) (by decide) (EI_range1 (fun h => pi_range1 rfl T.bt.b_range h) (EA_cons (E_cb (fun h => pe_callB call_len_seq rfl T.bt.b_len b_len h) opn_len (EA_cons (E_name (pv 0)) EA_nil)) EA_nil)) (fun _ _ _ _ _ => (EG_name (pg_name (i := 4) sc_solved.nd rfl (by first | exact Or.inl rfl | exact Or.inr rfl)))) (fun _ _ _ _ _ => ETs_nil) (fun _ _ _ _ _ => (E_bin op_sub opd_I0 (E_fld TC_Table.cl_Table TC_Table.na_Table_scale (E_name (pv 2))) (E_ix (E_fld TC_Table.cl_Table TC_Table.na_Table_costs (E_name (pv 2))) (E_bin op_addIT opd_add (E_fld TC_Table.cl_Table TC_Table.na_Table_many (E_name (pv 2))) (E_name (pv 4)))))))) EA_nil))))))))) (fun ds Φ hn h => ?_)
  obtain ⟨m, n, A, b, a, rfl, hm, hw, ha, B, hB, hbB, bA, bb, q1, q2⟩ := h
  have hb : (m + 2) * LP.dbd m a < 2 ^ 9000 := Nat.lt_of_lt_of_le hbB (Nat.pow_le_pow_right (by decide) hB)
  refine sq_abs fun N1 hN1 => ?_
  walk_at "jv"
  intro o _
  refine ⟨o, m, n, A, b, rfl, by rw [setC_same], hm, hw, fun t1 tat => ⟨rfl, ?_⟩⟩
  apply hN1
  clear hN1
  refine sq_abs fun N2 hN2 => ?_
  walk_at "jv"
  have tat0 := tat
  obtain ⟨pb, et, ep, po⟩ := tat
  simp only [et]
  walk_at "jv"
  refine ⟨o, n, m, A, b, _, a, rfl, tat0, LP.first_inv (LP.prob_ph m n A b) ?_, LP.prob_bdd ha bA (fun x hx => (bb x hx).2), hb, hw, fun t2 tb tat2 inv he => ?_⟩
  · intro x hx
    show 0 ≤ (if n + m < n then A (n + m) x else if n + m < n + m then (if n + m - n = x then (1 : Int) else 0) else b x)
    rw [if_neg (by omega), if_neg (by omega)]
    exact (bb x hx).1
  · apply hN2
    clear hN2
    have bd := LP.prob_bdd ha bA (fun x hx => (bb x hx).2)
    have sm := J.Inv.tsm inv bd hb hw
    obtain ⟨pb2, et2, ep2, po2⟩ := tat2
    refine sq_abs fun N3 hN3 => ?_
    refine if_abs fun WA WB hA hB => ?_
    walk_at "jv"
    simp only [et2]
    walk_at "jv"
    refine ⟨_, fn_last, shp_int _, ?_⟩
    rw [eq_int]
    by_cases h0 : tb.c (n + m) = 0
    · rw [if_pos (decide_eq_true h0)]
      subst hA
      refine sq_abs fun N4 hN4 => ?_
      walk_at "jv"
      simp only [et2]
      walk_at "jv"
      refine ⟨by rw [sizeL]; omega, by omega, by omega, by rw [sizeL]; omega, ?_⟩
      apply hN4
      clear hN4
      refine sq_abs fun N5 hN5 => ?_
      walk_at "jv"
      refine ⟨_, et2, pb2, rfl, _, ep2, po2, _, by rw [pu_base]; exact lk_base _ _ _ _ _, _, rfl, ?_⟩
      rw [pu_base, Int.toNat_natCast, ← solK_zero (m := m) (tb := tb)]
      refine ⟨fun k ρ t' => t' o = some (.ins C_Table (tf5 (.int n) (.int tb.s) (dMx m (n + m + 1) tb.T) (.lst ((List.range m).map fun k => D.int (tb.β k))) (dLI (fnL (n + m + 1) tb.c)))) ∧ ∃ x4 x5, ρ = [.val (dMx m n fun x l => A l x), .val (dLI (fnL m b)), .val (.hdl o), .own ((fnL n (solK n m k tb)).map D.int), x4, x5], ⟨by rw [setC_same], _, _, rfl⟩, ?_, ?_⟩
      · rintro k ρ t' d ⟨et3, x4, x5, rfl⟩ hd
        obtain ⟨hk, rfl⟩ := enum_rng hd
        walk_at "jv"
        simp only [et3]
        walk_at "jv"
        by_cases hb : (tb.β k : Int) < n
        · rw [if_pos hb]
          refine ⟨_, atI_rng hk, _, rfl, _, fn_last, tb.β k, by rw [fnL_len]; exact ixN_nat (by omega), ?_⟩
          exact ⟨solK_set inv hk (by omega), _, rfl⟩
        · rw [if_neg hb]
          rw [solK_skip (by omega)]
          exact ⟨rfl, _, rfl⟩
      · rintro ρ t' ⟨et3, x4, x5, rfl⟩
        rw [enum_len, List.length_map, List.length_range]
        apply hN5
        clear hN5
        walk_at "jv"
        simp only [et3]
        walk_at "jv"
        refine ⟨by rw [sizeL]; omega, by rw [sizeL]; omega, ?_⟩
        exact q1 (LP.sol m n tb) tb.s inv.sp (fun l => LP.sol_nn inv l) (LP.end_found inv h0) (J.Inv.ssm inv bd hbB) fun l hl => sol_sm inv bd hbB
    · rw [if_neg (by simpa using h0)]
      subst hB
      walk_at "jv"
      apply hN3
      clear hN3
      walk_at "jv"
      rw [List.length_range, Int.toNat_natCast, rangeD_len, rangeD_eq]
      refine ⟨by omega, by omega, by rw [sizeL]; omega, ?_⟩
      refine lcRun_mapS _ (fun x => D.int (tb.s - tb.c (n + x))) _ (fun x hx K hK => ?_) ?_
      · walk_at "jv"
        simp only [et2]
        walk_at "jv"
        have hx := List.mem_range.mp hx
        refine ⟨trivial, _, ?_, _, rfl, hK⟩
        rw [← Int.natCast_add]
        exact fn_at (by omega)
      · refine ⟨by rw [sizeL]; omega, ?_⟩
        have e := LP.end_none inv h0 he
        have q := q2 (fun x => tb.s - tb.c (n + x)) e.1 e.2 fun x hx => J.Inv.ysm inv bd hbB hx
        rw [dLI_fn] at q
        exact q

theorem ok_searched (T : Txt mg) (c_equations : Cal P w K mg base 3 "equations" ["one", "other"] (spP K 2 fs_equations)) (c_plain : Cal P w K mg base 6 "plain" ["teller"] (spP K 1 fs_plain)) (c_solved : Cal P w K mg base 4 "solved" ["matrix", "rest"] (spP K 2 fs_solved)) {f : Addr} {fd : FuncData} (F : Fun K "searched" "searched" s_searched f fd) : FnOk P w K mg base CX0 7 f fd ["one", "other"] (spP K 2 fs_searched) := by
  refine ok_P F sc_searched rfl (fun cdv A outer s H E hr =>
    (S_cons (S_par2 (i := 2) (j := 3) (by decide) (ps_par (by rfl) sc_searched.nd rfl rfl (by decide) rfl rfl (EX_val (E_callC c_plain (hr.mono (by decide)) rfl tk_P (EA_cons (E_name (pv 0)) EA_nil)) (EX_val (E_callC c_plain (hr.mono (by decide)) rfl tk_P (EA_cons (E_name (pv 1)) EA_nil)) EX_nil)) (by rfl)))
      (S_cons (S_asg (ps_asg (E_callC c_equations (hr.mono (by decide)) rfl tk_P (EA_cons (E_name (pv 2)) (EA_cons (E_name (pv 3)) EA_nil))) (EG_tup (is := [4, 5]) rfl (pg_tup rfl (pgs_cons (pg_name (i := 4) sc_searched.nd rfl (by first | exact Or.inl rfl | exact Or.inr rfl)) (pgs_cons (pg_name (i := 5) sc_searched.nd rfl (by first | exact Or.inl rfl | exact Or.inr rfl)) pgs_nil))))))
      (S_one (S_ret (E_tup (EA_cons (E_name (pv 2)) (EA_cons (E_name (pv 3)) (EA_cons (E_callC c_solved (hr.mono (by decide)) rfl tk_P (EA_cons (E_name (pv 4)) (EA_cons (E_name (pv 5)) EA_nil))) EA_nil))))))))) (fun ds Φ hn h => ?_)
  obtain ⟨d, rows, e, goal, rfl, p, hq⟩ := h
  walk_at "jv"
  refine ⟨d, rows, rfl, p.one, fun ys hy _ => ?_⟩
  obtain ⟨d', rows', e1, P⟩ := plain_rel p.one hy
  rw [e1]
  refine ⟨e, goal, rfl, p.two, fun ys hy _ => ?_⟩
  obtain ⟨e', goal', e2, Q⟩ := plain_rel p.two hy
  rw [e2]
  have hl : goal'.length = rows'.length := by rw [P.len, Q.len, p.len]
  refine ⟨d', rows', e', goal', rfl, P.tel, Q.tel, hl, ?_⟩
  have n1 := P.tel.ok.l1
  have n2 := P.tel.ok.l2
  have w1 := P.tel.ok.w1
  have w2 := P.tel.ok.w2
  have s1 := Q.tel.ok.w1
  have s2 := Q.tel.ok.w2
  have d1 := P.tel.d1
  have e1 := Q.tel.d1
  have hs := plain_small p P Q
  obtain ⟨g0, g1⟩ := gcdL_pos (d := d') (l := [e']) (by omega)
  have gd : gcdL [d', e'] ∣ d' := gcdL_dvd List.mem_cons_self
  have ge : gcdL [d', e'] ∣ e' := gcdL_dvd (List.mem_cons_of_mem _ List.mem_cons_self)
  have m1 : rows'.length * wid goal' ≤ 6 * 12 := Nat.mul_le_mul n2 s2
  have m2 : wid rows' * wid goal' ≤ 12 * 12 := Nat.mul_le_mul w2 s2
  have bR := eqR_bd' P.tel (k := e' / gcdL [d', e']) (Int.ediv_nonneg (by omega) (by omega)) (Int.ediv_le_self _ (by omega)) hs
  have bG := eqR_bd' Q.tel (k := d' / gcdL [d', e']) (e := d') (Int.ediv_nonneg (by omega) (by omega)) (Int.ediv_le_self _ (by omega)) (by rw [Int.mul_comm]; exact hs)
  rw [hl] at bG
  unfold eqsD
  walk_at "jv"
  refine ⟨rows'.length * wid goal' + wid rows', wid rows' * wid goal', _, _, 2 ^ 60, rfl, by omega, by omega, by decide, 5640, by decide, dbd_small (by omega), fun l hl r hr => LP.eqA_bd (by decide) (fun x hx y hy => (bR x hx y hy).2) hl hr, fun r hr => LP.eqB_bd (by decide) (by omega) bG r, fun f s s0 f0 ef ss fs => ?_, fun Y h1 h2 ys => ?_⟩
  · refine ⟨by rw [sizeL]; omega, ?_⟩
    exact hq d' rows' e' goal' _ P Q (.inl ⟨f, s, rfl, found_of g0 gd ge s0 f0 ef ss fs⟩)
  · refine ⟨by rw [sizeL]; omega, ?_⟩
    exact hq d' rows' e' goal' _ P Q (.inr ⟨Y, rfl, told_of g0 gd ge h1 h2 ys⟩)

theorem ok_column_of (T : Txt mg)  {f : Addr} {fd : FuncData} (F : Fun K "column_of" "column_of" s_column_of f fd) : FnOk P w K mg base CX0 1 f fd ["teller", "word"] (spP K 2 fs_column_of) := by
  refine ok_P F sc_column_of rfl (fun cdv A outer s H E hr =>
    (S_one (S_ret (E_ls (EL_lc (own := [("row", 2)]) rfl sc_column_of.nd (blkOk_by (by first | decide +kernel | rfl)) (by decide) (EI_seq (E_ix (E_name (pv 0)) E_int)) (fun _ _ _ _ _ => (EG_name (pg_name (i := 2) sc_column_of.nd rfl (by first | exact Or.inl rfl | exact Or.inr rfl)))) (fun _ _ _ _ _ => ETs_nil) (fun _ _ _ _ _ => (E_ix (E_name (pv 2)) (E_name (pv 1))))))))) (fun ds Φ hn h => ?_)
  obtain ⟨d, rows, y, rfl, ht, hy, hq⟩ := h
  walk_at "jv"
  refine ⟨by rw [sizeL]; have := ht.ok.l2; omega, ?_⟩
  refine lcRun_mapOf _ (fun r => D.int (r.getD y 0)) _ (fun r hr K t hK => ?_) ?_
  · walk_at "jv"
    refine ⟨_, ?_, hK⟩
    rw [atI_map, atI_getD (by rw [ht.ok.len r hr]; exact hy)]
    rfl
  · rw [dLI, colW, List.map_map] at hq
    exact hq

theorem ok_direction_of_order (T : Txt mg) (c_column_of : Cal P w K mg base 1 "column_of" ["teller", "word"] (spP K 2 fs_column_of)) (c_common_garblers : Cal P w K mg base 1 "common_garblers" ["numbers"] (spP K 1 fs_common_garblers)) {f : Addr} {fd : FuncData} (F : Fun K "direction_of" "direction_of" s_direction_of_order f fd) : FnOk P w K mg base CX0 2 f fd ["teller", "word"] (spP K 2 fs_direction_of_order) := by
  refine ok_P F sc_direction_of_order rfl (fun cdv A outer s H E hr =>
    (S_cons (S_set (i := 2) (ps_set (i := 2) sc_direction_of_order.nd rfl (by first | exact Or.inl rfl | exact Or.inr rfl) (E_callC c_column_of (hr.mono (by decide)) rfl tk_P (EA_cons (E_name (pv 0)) (EA_cons (E_name (pv 1)) EA_nil)))))
      (S_cons (S_set (i := 3) (ps_set (i := 3) sc_direction_of_order.nd rfl (by first | exact Or.inl rfl | exact Or.inr rfl) (E_callC c_common_garblers (hr.mono (by decide)) rfl tk_P (EA_cons (E_name (pv 2)) EA_nil))))
      (S_one (S_ret (E_if (EB_cmp op_gt opd_B0 (E_name (pv 3)) E_int (nomark _)) (E_tup (EA_cons (E_cb (fun h => pe_callTy call_tuple_of rfl T.bt.b_tuple b_tuple h) opn_tuple (EA_cons (E_ls (EL_lc (own := [("number", 4)]) rfl sc_direction_of_order.nd (blkOk_by (by first | decide +kernel | rfl)) (by decide) (EI_seq (E_name (pv 2))) (fun _ _ _ _ _ => (EG_name (pg_name (i := 4) sc_direction_of_order.nd rfl (by first | exact Or.inl rfl | exact Or.inr rfl)))) (fun _ _ _ _ _ => ETs_nil) (fun _ _ _ _ _ => (E_bin op_fdivW opd_I (E_name (pv 4)) (E_name (pv 3)))))) EA_nil)) (EA_cons (E_name (pv 3)) EA_nil))) (E_tup (EA_cons E_non (EA_cons E_int EA_nil))))))))) (fun ds Φ hn h => ?_)
  obtain ⟨d, rows, y, rfl, ht, hy, hq⟩ := h
  walk_at "jv"
  refine ⟨d, rows, y, rfl, ht, hy, ?_⟩
  refine ⟨_, colW rows y, rfl, .inl rfl, colW_nn ht.ok hy, ?_⟩
  walk_at "jv"
  unfold dirD oft at hq
  by_cases h0 : 0 < gcdL (colW rows y)
  · rw [if_pos h0] at hq ⊢
    have sm := oft_sm ht hy
    refine ⟨by rw [colW_len, sizeL]; have := ht.ok.l2; omega, ?_⟩
    refine lcRun_mapOf _ (fun x => D.int (x / gcdL (colW rows y))) _ (fun x hx K t hK => ?_) ?_
    · walk_at "jv"
      exact ⟨sm.cdiv h0 (by decide) (by decide), hK⟩
    · refine ⟨by rw [sizeL]; omega, ?_⟩
      rw [dI, dirL, List.map_map] at hq
      exact hq
  · rw [if_neg h0] at hq ⊢
    exact ⟨by rw [sizeL]; omega, hq⟩

theorem ok_placed (T : Txt mg) (c_direction_of_order : Cal P w K mg base 2 "direction_of_order" ["teller", "word"] (spP K 2 fs_direction_of_order)) {f : Addr} {fd : FuncData} (F : Fun K "placed" "placed" s_placed f fd) : FnOk P w K mg base CX0 3 f fd ["teller", "short"] (spP K 2 fs_placed) := by
  refine ok_P F sc_placed rfl (fun cdv A outer s H E hr =>
    (S_cons (S_dctC (i := 2) (PS_setDct (i := 2) (own := [("word", 4)]) rfl (hu1 hr) sc_placed.nd (blkOk_by (by first | decide +kernel | rfl)) (by decide) (EI_range1 (fun h => pi_range1 rfl T.bt.b_range h) (EA_cons (E_cb (fun h => pe_callB call_len_seq rfl T.bt.b_len b_len h) opn_len (EA_cons (E_ix (E_ix (E_name (pv 1)) E_int) E_int) EA_nil)) EA_nil)) (fun _ _ _ _ _ => (EG_name (pg_name (i := 4) sc_placed.nd rfl (by first | exact Or.inl rfl | exact Or.inr rfl)))) (fun _ _ _ _ _ => ETs_nil) (fun _ _ _ _ _ => (E_ix (E_callC c_direction_of_order (hr.mono (by decide)) rfl tk_P (EA_cons (E_name (pv 1)) (EA_cons (E_name (pv 4)) EA_nil))) E_int)) (fun _ _ _ _ _ => (E_name (pv 4)))))
      (S_cons (S_own (i := 3) (ps_set (i := 3) sc_placed.nd rfl (by first | exact Or.inl rfl | exact Or.inr rfl) (EL_lst EA_nil)))
      (S_cons (S_for PassesOwn.never rfl (EI_range1 (fun h => pi_range1 rfl T.bt.b_range h) (EA_cons (E_cb (fun h => pe_callB call_len_seq rfl T.bt.b_len b_len h) opn_len (EA_cons (E_ix (E_ix (E_name (pv 0)) E_int) E_int) EA_nil)) EA_nil)) (EG_name (pg_name (i := 4) sc_placed.nd rfl (by first | exact Or.inl rfl | exact Or.inr rfl))) (S_cons (S_asg (ps_asg (E_callC c_direction_of_order (hr.mono (by decide)) rfl tk_P (EA_cons (E_name (pv 0)) (EA_cons (E_name (pv 4)) EA_nil))) (EG_tup (is := [5, 6]) rfl (pg_tup rfl (pgs_cons (pg_name (i := 5) sc_placed.nd rfl (by first | exact Or.inl rfl | exact Or.inr rfl)) (pgs_cons (pg_name (i := 6) sc_placed.nd rfl (by first | exact Or.inl rfl | exact Or.inr rfl)) pgs_nil))))))
      (S_one (S_append (i := 3) (ps_expr (pe_bm PySem.F.plainAttrs_list PySem.F.slot_list_append PySem.F.type_list_append mt_append (pv 3) (pa_cons (E_tup (EA_cons (E_dctGetN (i := 2) (pe_getN (hu1 hr) (pv 2) (E_name (pv 5)) E_int ⟨rfl, rfl, rfl, rfl⟩)) (EA_cons (E_name (pv 6)) EA_nil))) pa_nil)))))))
      (S_one (S_frzB (i := 3) (S_ret (E_name (pv 3))))))))) (fun ds Φ hn h => ?_)
  obtain ⟨d, rows, d', rows', rfl, ht, P, hq⟩ := h
  obtain ⟨r0, hr0, hlr0, hat⟩ := head_at P.tel.ok.l1
  obtain ⟨r1, hr1, hlr1, hat1⟩ := head_at ht.ok.l1
  have w2 := P.tel.ok.w2
  have v2 := ht.ok.w2
  refine sq_abs fun N1 hN1 => ?_
  walk_at "jv"
  refine ⟨_, hat, _, rfl, ?_⟩
  rw [List.length_map, hlr0, Int.toNat_natCast, rangeD_eq]
  refine ⟨by omega, by omega, ?_⟩
  refine dcRun_keys _ (fun i => dirL (colW rows' i)) (fun i => D.int (i : Nat)) (by omega) P.inj (fun i hi Y N hY => ?_) ?_
  · walk_at "jv"
    refine ⟨d', rows', i, rfl, P.tel, hi, ?_⟩
    unfold dirD
    have hp : 0 < oft rows' i := P.pos _ (colW_mem hi)
    rw [if_pos hp]
    walk_at "jv"
    exact ⟨_, rfl, hY⟩
  apply hN1
  clear hN1
  refine sq_abs fun N2 hN2 => ?_
  walk_at "jv"
  refine ⟨by rw [sizeL]; omega, ?_⟩
  apply hN2
  clear hN2
  refine sq_abs fun N3 hN3 => ?_
  refine for_abs fun WB hWB => ?_
  walk_at "jv"
  refine ⟨_, hat1, _, rfl, ?_⟩
  rw [List.length_map, hlr1, Int.toNat_natCast]
  refine ⟨by omega, by omega, ?_⟩
  refine forI_mk (fun k ρ _ => ∃ x4 x5 x6, ρ = [.val (dTel d rows), .val (dTel d' rows'), .dct ((List.range (wid rows')).map fun i => (dirL (colW rows' i), D.int (i : Nat))), .own ((List.range k).map fun y => .tup [.int (plW rows rows' y : Nat), .int (oft rows y)]), x4, x5, x6]) ⟨_, _, _, rfl⟩ ?_ ?_
  · rintro k ρ _ dd ⟨x4, x5, x6, rfl⟩ hd
    obtain ⟨hk, rfl⟩ := range_at hd
    refine ⟨_, rfl, fun N hN => ?_⟩
    subst hWB
    walk_at "jv"
    refine ⟨d, rows, k, rfl, ht, hk, ?_⟩
    unfold dirD
    by_cases h0 : 0 < oft rows k
    · rw [if_pos h0]
      walk_at "jv"
      refine .inr ⟨_, rfl, by rw [sizeL]; omega, by rw [List.length_range, sizeL]; omega, ?_⟩
      have hl := P.pl_lt hk
      have e := lookK_rng (κ := fun i => dirL (colW rows' i)) (v := fun i => D.int (i : Nat)) hl P.inj
      have e3 : dirL (colW rows k) = dirL (colW rows' (plW rows rows' k)) := P.dir_pl hk h0
      rw [e3]
      rw [e]
      refine hN _ _ ⟨.val (.int k), .val (dI (dirL (colW rows' (plW rows rows' k)))), .val (.int (oft rows k)), ?_⟩
      rw [List.range_succ, List.map_append]
      rfl
    · rw [if_neg h0]
      walk_at "jv"
      refine .inl ⟨by rw [sizeL]; omega, by rw [List.length_range, sizeL]; omega, ?_⟩
      refine hN _ _ ⟨.val (.int k), .val .non, .val (.int 0), ?_⟩
      have z1 : oft rows k = 0 := by have := oft_nn rows k; omega
      have z2 : plW rows rows' k = 0 := if_neg h0
      rw [List.range_succ, List.map_append, List.map_cons, List.map_nil, z1, z2]
      rfl
  · rintro ρ _ ⟨x4, x5, x6, rfl⟩
    rw [rangeD_len]
    apply hN3
    clear hN3
    walk_at "jv"
    exact hq

theorem ok_lowered_rows (T : Txt mg) (c_common_garblers : Cal P w K mg base 1 "common_garblers" ["numbers"] (spP K 1 fs_common_garblers)) {f : Addr} {fd : FuncData} (F : Fun K "lowered_rows" "lowered_rows" s_lowered_rows f fd) : FnOk P w K mg base CX0 2 f fd ["whole", "rows"] (spP K 2 fs_lowered_rows) := by
  refine ok_P F sc_lowered_rows rfl (fun cdv A outer s H E hr =>
    (S_cons (S_set (i := 2) (ps_set (i := 2) sc_lowered_rows.nd rfl (by first | exact Or.inl rfl | exact Or.inr rfl) (E_callC c_common_garblers (hr.mono (by decide)) rfl tk_P (EA_cons (E_ls (EL_bin op_catR opd_cat (E_ls (EL_lst (EA_cons (E_name (pv 0)) EA_nil))) (E_ls (EL_lc2 (own := [("row", 3), ("number", 4)]) (vs1 := [4]) rfl sc_lowered_rows.nd (blkOk_by (by first | decide +kernel | rfl)) (by decide) (by decide) (by decide) (EI_seq (E_name (pv 1))) (fun _ _ _ _ _ => (EG_name (pg_name (i := 3) sc_lowered_rows.nd rfl (by first | exact Or.inl rfl | exact Or.inr rfl)))) (fun _ _ _ _ _ => ETs_nil) (fun _ _ _ _ _ => (EI_seq (E_name (pv 3)))) (fun _ _ _ _ _ => (EG_name (pg_name (i := 4) sc_lowered_rows.nd rfl (by first | exact Or.inl rfl | exact Or.inr rfl)))) (fun _ _ _ _ _ => ETs_nil) (fun _ _ _ _ _ => (E_name (pv 4))))))) EA_nil))))
      (S_one (S_ret (E_tup (EA_cons (E_bin op_fdivW opd_I (E_name (pv 0)) (E_name (pv 2))) (EA_cons (E_cb (fun h => pe_callTy call_tuple_of rfl T.bt.b_tuple b_tuple h) opn_tuple (EA_cons (E_ls (EL_lc (own := [("row", 3)]) rfl sc_lowered_rows.nd (blkOk_by (by first | decide +kernel | rfl)) (by decide) (EI_seq (E_name (pv 1))) (fun _ _ _ _ _ => (EG_name (pg_name (i := 3) sc_lowered_rows.nd rfl (by first | exact Or.inl rfl | exact Or.inr rfl)))) (fun _ _ _ _ _ => ETs_nil) (fun _ _ _ _ _ => (E_cb (fun h => pe_callTy call_tuple_of rfl T.bt.b_tuple b_tuple h) opn_tuple (EA_cons (E_ls (EL_lc (own := [("number", 4)]) rfl sc_lowered_rows.nd (blkOk_by (by first | decide +kernel | rfl)) (by decide) (EI_seq (E_name (pv 3))) (fun _ _ _ _ _ => (EG_name (pg_name (i := 4) sc_lowered_rows.nd rfl (by first | exact Or.inl rfl | exact Or.inr rfl)))) (fun _ _ _ _ _ => ETs_nil) (fun _ _ _ _ _ => (E_bin op_fdivW opd_I (E_name (pv 4)) (E_name (pv 2)))))) EA_nil))))) EA_nil)) EA_nil))))))) (fun ds Φ hn h => ?_)
  obtain ⟨d, rows, x, rfl, hx, l1, hr, d0, sd, hq⟩ := h
  obtain ⟨g0, g1⟩ := gcdL_pos (l := rows.flatten) d0
  have hc : ∀ x, CDivW x (gcdL (d :: rows.flatten)) := fun x => Sm.cdiv (sd.le (by omega) g1) g0 (by decide) (by decide)
  have hfl : rows.flatten.length ≤ 144 := flat_len l1 (fun r hx => (hr r hx).1)
  rcases hx with rfl | rfl
  all_goals
    walk_at "jv"
    refine ⟨by decide, ?_⟩
    refine lc2_mapOf _ (fun r => r) D.int (fun _ x => D.int x) rows (fun r hr => ?_) ?_ ?_
    · refine ⟨_, rfl, fun Kb t h => h, fun Kl t h => ?_, fun y hy => ⟨_, rfl, fun Kb t h => h, fun K' t h => ?_⟩⟩
      · walk_at "jv"; exact h
      · walk_at "jv"; exact h
    · rw [flatMap_id', sizeL]; omega
    rw [flatMap_int]
    refine ⟨by rw [List.length_map, sizeL]; omega, _, d :: rows.flatten, rfl, .inl rfl, ?_, ?_⟩
    · intro x hx
      rcases List.mem_cons.mp hx with rfl | hx
      · omega
      · obtain ⟨r, h1, h2⟩ := List.mem_flatten.mp hx
        exact (hr r h1).2 x h2
    walk_at "jv"
    refine ⟨hc d, by rw [sizeL]; omega, ?_⟩
    refine lcRun_mapOf _ (fun r => dI (r.map (· / gcdL (d :: rows.flatten)))) _ (fun r hrr K t hK => ?_) ?_
    · walk_at "jv"
      refine ⟨by rw [sizeL]; have := (hr r hrr).1; omega, ?_⟩
      refine lcRun_mapOf _ (fun x => D.int (x / gcdL (d :: rows.flatten))) _ (fun x hx K t hK => ?_) ?_
      · walk_at "jv"
        exact ⟨hc x, hK⟩
      · rw [dI, List.map_map] at hK; exact hK
    · refine ⟨by decide, ?_⟩
      have e : dRows (lowR (gcdL (d :: rows.flatten)) rows) = D.tup (rows.map fun r => dI (r.map fun x => x / gcdL (d :: rows.flatten))) := by
        simp [lowR, dRows, Function.comp_def]
      rw [e] at hq
      exact hq

end
end J

set_option Elab.async false
set_option linter.all false
set_option maxRecDepth 100000
set_option maxHeartbeats 4000000
namespace J
open PySem PySem.Spec L2 RZ
local macro_rules | `(tactic| walk_at "jv") => `(tactic| simp only [wSq, wIfS, wOrT, wAndT, wNotT, wB, wIsi, wName, wRet, wC, wNilS, wAndV, wOrV, wNotV, wBin, wUn, wIf, wChain, fI0, fI, fIsN, fNotN, fB, fAdd, fEq, fNe, fIx, wCall, wCons, wNil, wTup, wDrop, wSet, wOwn, wFrzA, wFrzB, wAsg, wPar, wxVal, wxOwn, wxNil, bindX, bindP, bindN, wLs, wLst, wLc, wLc2, lcBody, wYes, wipeE, J.wSeq, wRange1, wRange2, wEnum, wZip, wSl, wSlL, wNoO, wSomeO, wAppend, wExtend, wSetIx, wOwnIx, wOwnLen, wFor, wWhile, fLen, fAbs, fMin2, fMax2, fInt, fSum, fMax, fAll, fAny, fTuple, fList, fCat, fRep, startE, List.map, List.cons_append, List.nil_append, List.getElem?_cons_zero, List.getElem?_cons_succ, List.set_cons_zero, List.set_cons_succ, List.length_cons, List.length_nil, List.replicate, Option.some.injEq, Sl.val.injEq, Sl.own.injEq, D.int.injEq, D.bl.injEq, D.tup.injEq, D.lst.injEq, exists_eq_left', exists_eq_left, exists_eq_right, true_and, and_true, if_true, List.cons.injEq, exists_and_left, exists_const, items_tup, items_lst, isT_tup, isT_lst, atI_0, atI_1, atI_2, addD_int, addD_tup, intD_int, intD_bl, dTel, dRows, dI, dSta, dGar, dRat, tyq_tup, tyq_lst, tyq_int, tyq_str, tyq_bl, tyq_non, isi_tt, isi_ss, isi_ii, isi_ib, shp_eq_int, shp_eq_teller, shp_eq_stakes, shp_eq_garbler, eq_str_self, eq_int, Bool.not_true, Bool.not_false, Bool.false_eq_true, if_false, List.length_map, decide_eq_true_eq, Bool.not_eq_true', decide_eq_false_iff_not, Nat.zero_add, Nat.reduceAdd, ite_true, ite_false, Int.reduceAdd, wDctNew, wDctGet, wDctIx, wDctPut, wDctSorted, fRepT, Sl.dct.injEq, wCallT, fsT, lenI_tup, lenI_lst, lenI_scr, fsD, wDrTurn, wDrRest, wDrCells, wDrAny, wDrPop, wDrSetR, wDrSetT, drIs, wFld, wSetF, wSetFL, wCIx, wCApp, wCSet, wCFrz, wMeth, wMake, fsC, Cell.ins.injEq, Cell.lst.injEq, D.hdl.injEq, lk_many, lk_scale, lk_rows, lk_base, lk_costs, lk_m1, lk_m2, lk_m3, lk_m4, lk_m5, pu_scale, pu_rows, pu_base, pu_costs, setC_same, pp_1, pp_2, pp_3, pp_3', pp_4, pp_5, lk3_rows, lk3_many, lk4_many, ln_0, ln_1, ln_2, ln_3, ln_4, ln_5, wDctC, wDc, dcBody, wDctGetN, wListRg])
abbrev s_widened : Stmt := topS 60
theorem sc_widened : FnScope ["one", "other", "short", "brief", "numbers", "said", "mine", "yours", "wholes", "whole", "number", "rows", "i", "own", "j", "place", "often"] ["one", "other", "short", "brief", "numbers"] (defScope s_widened) := ⟨rfl, rfl, rfl, by decide +kernel, rfl, by decide +kernel, by decide +kernel⟩
abbrev s_garbler_for : Stmt := topS 63
theorem sc_garbler_for : FnScope ["one", "other", "short", "brief", "found"] ["one", "other"] (defScope s_garbler_for) := ⟨rfl, rfl, rfl, by decide +kernel, rfl, by decide +kernel, by decide +kernel⟩
abbrev s_no_less : Stmt := topS 62
theorem sc_no_less : FnScope ["one", "other"] ["one", "other"] (defScope s_no_less) := ⟨rfl, rfl, rfl, by decide +kernel, rfl, by decide +kernel, by decide +kernel⟩
abbrev s_are_stakes_against : Stmt := topS 64
theorem sc_are_stakes_against : FnScope ["one", "other", "thing", "mine", "yours"] ["one", "other", "thing"] (defScope s_are_stakes_against) := ⟨rfl, rfl, rfl, by decide +kernel, rfl, by decide +kernel, by decide +kernel⟩
abbrev s__law_sums : Stmt := topS 83
theorem sc__law_sums : FnScope ["column", "stakes", "deed", "gain", "number"] ["column", "stakes"] (defScope s__law_sums) := ⟨rfl, rfl, rfl, by decide +kernel, rfl, by decide +kernel, by decide +kernel⟩
abbrev s__law_columns : Stmt := topS 82
theorem sc__law_columns : FnScope ["teller", "k", "row"] ["teller"] (defScope s__law_columns) := ⟨rfl, rfl, rfl, by decide +kernel, rfl, by decide +kernel, by decide +kernel⟩
abbrev s__law_worth : Stmt := topS 84
theorem sc__law_worth : FnScope ["teller", "stakes", "column"] ["teller", "stakes"] (defScope s__law_worth) := ⟨rfl, rfl, rfl, by decide +kernel, rfl, by decide +kernel, by decide +kernel⟩
section
variable {P : Program} {w : World} {K : PySem.W.Frag} {mg : Str → Option Value} {base : Heap}
theorem ok_widened (T : Txt mg) (c_placed : Cal P w K mg base 3 "placed" ["teller", "short"] (spP K 2 fs_placed)) (c_lowered_rows : Cal P w K mg base 2 "lowered_rows" ["whole", "rows"] (spP K 2 fs_lowered_rows)) (c_common_garblers : Cal P w K mg base 1 "common_garblers" ["numbers"] (spP K 1 fs_common_garblers)) {f : Addr} {fd : FuncData} (F : Fun K "widened" "widened" s_widened f fd) : FnOk P w K mg base CX0 4 f fd ["one", "other", "short", "brief", "numbers"] (spP K 5 fs_widened) := by
  refine ok_P F sc_widened rfl (fun cdv A outer s H E hr =>
    (S_cons (S_set (i := 5) (ps_set (i := 5) sc_widened.nd rfl (by first | exact Or.inl rfl | exact Or.inr rfl) (E_cb (fun h => pe_callB call_len_seq rfl T.bt.b_len b_len h) opn_len (EA_cons (E_ix (E_ix (E_name (pv 3)) E_int) E_int) EA_nil))))
      (S_cons (S_asg (ps_asg (E_tup (EA_cons (E_callC c_placed (hr.mono (by decide)) rfl tk_P (EA_cons (E_name (pv 0)) (EA_cons (E_name (pv 2)) EA_nil))) (EA_cons (E_callC c_placed (hr.mono (by decide)) rfl tk_P (EA_cons (E_name (pv 1)) (EA_cons (E_name (pv 3)) EA_nil))) EA_nil))) (EG_tup (is := [6, 7]) rfl (pg_tup rfl (pgs_cons (pg_name (i := 6) sc_widened.nd rfl (by first | exact Or.inl rfl | exact Or.inr rfl)) (pgs_cons (pg_name (i := 7) sc_widened.nd rfl (by first | exact Or.inl rfl | exact Or.inr rfl)) pgs_nil))))))
      (S_cons (S_set (i := 8) (ps_set (i := 8) sc_widened.nd rfl (by first | exact Or.inl rfl | exact Or.inr rfl) (E_ls (EL_lc (own := [("j", 14)]) rfl sc_widened.nd (blkOk_by (by first | decide +kernel | rfl)) (by decide) (EI_range1 (fun h => pi_range1 rfl T.bt.b_range h) (EA_cons (E_name (pv 5)) EA_nil)) (fun _ _ _ _ _ => (EG_name (pg_name (i := 14) sc_widened.nd rfl (by first | exact Or.inl rfl | exact Or.inr rfl)))) (fun _ _ _ _ _ => ETs_nil) (fun _ _ _ _ _ => (E_cb (fun h => pe_callB (cr_sumS rfl) rfl T.bt.b_sum b_sum h) opn_sum (EA_cons (E_ls (EL_lc (own := [("place", 15), ("often", 16)]) rfl sc_widened.nd (blkOk_by (by first | decide +kernel | rfl)) (by decide) (EI_seq (E_name (pv 7))) (fun _ _ _ _ _ => (EG_tup (is := [15, 16]) rfl (pg_tup rfl (pgs_cons (pg_name (i := 15) sc_widened.nd rfl (by first | exact Or.inl rfl | exact Or.inr rfl)) (pgs_cons (pg_name (i := 16) sc_widened.nd rfl (by first | exact Or.inl rfl | exact Or.inr rfl)) pgs_nil))))) (fun _ _ _ _ _ => (pts_one (EB_cmp (op_eqD hr.units) opd_eq (E_name (pv 15)) (E_name (pv 14)) (nomark _)))) (fun _ _ _ _ _ => (E_name (pv 16))))) EA_nil)))))))
      (S_cons (S_set (i := 9) (ps_set (i := 9) sc_widened.nd rfl (by first | exact Or.inl rfl | exact Or.inr rfl) E_int))
      (S_cons (S_for PassesOwn.never rfl (EI_seq (E_name (pv 8))) (EG_name (pg_name (i := 10) sc_widened.nd rfl (by first | exact Or.inl rfl | exact Or.inr rfl))) (S_one (S_set (i := 9) (ps_set (i := 9) sc_widened.nd rfl (by first | exact Or.inl rfl | exact Or.inr rfl) (E_bin op_fdivW opd_I (E_bin op_mulW opd_I (E_name (pv 9)) (E_name (pv 10))) (E_callC c_common_garblers (hr.mono (by decide)) rfl tk_P (EA_cons (E_ls (EL_lst (EA_cons (E_name (pv 9)) (EA_cons (E_name (pv 10)) EA_nil)))) EA_nil)))))))
      (S_cons (S_own (i := 11) (ps_set (i := 11) sc_widened.nd rfl (by first | exact Or.inl rfl | exact Or.inr rfl) (EL_lst EA_nil)))
      (S_cons (S_for PassesOwn.never rfl (EI_seq (E_name (pv 6))) (EG_tup (is := [12, 13]) rfl (pg_tup rfl (pgs_cons (pg_name (i := 12) sc_widened.nd rfl (by first | exact Or.inl rfl | exact Or.inr rfl)) (pgs_cons (pg_name (i := 13) sc_widened.nd rfl (by first | exact Or.inl rfl | exact Or.inr rfl)) pgs_nil)))) (S_one (S_append (i := 11) (ps_expr (pe_bm PySem.F.plainAttrs_list PySem.F.slot_list_append PySem.F.type_list_append mt_append (pv 11) (pa_cons (E_ls (EL_lc (own := [("j", 14), ("often", 16)]) rfl sc_widened.nd (blkOk_by (by first | decide +kernel | rfl)) (by decide) (EI_seq (E_name (pv 7))) (fun _ _ _ _ _ => (EG_tup (is := [14, 16]) rfl (pg_tup rfl (pgs_cons (pg_name (i := 14) sc_widened.nd rfl (by first | exact Or.inl rfl | exact Or.inr rfl)) (pgs_cons (pg_name (i := 16) sc_widened.nd rfl (by first | exact Or.inl rfl | exact Or.inr rfl)) pgs_nil))))) (fun _ _ _ _ _ => ETs_nil) (fun _ _ _ _ _ => (E_bin op_mulW opd_I (E_bin op_mulW opd_I (E_ix (E_ix (E_name (pv 4)) E_int) (E_bin op_addIT opd_add (E_bin op_mulW opd_I (E_name (pv 12)) (E_name (pv 5))) (E_name (pv 14)))) (E_name (pv 16))) (E_bin op_fdivW opd_I (E_name (pv 9)) (E_ix (E_name (pv 8)) (E_name (pv 14)))))))) pa_nil))))))
      (S_one (S_frzB (i := 11) (S_ret (E_bin op_addIT opd_add (E_tup (EA_cons E_str EA_nil)) (E_callC c_lowered_rows (hr.mono (by decide)) rfl tk_P (EA_cons (E_bin op_mulW opd_I (E_ix (E_name (pv 4)) E_int) (E_name (pv 9))) (EA_cons (E_name (pv 11)) EA_nil))))))))))))))) (fun ds Φ hn h => ?_)
  obtain ⟨d, rows, e, goal, d', rows', e', goal', f, w, rfl, p, P, Q, F, hq⟩ := h
  obtain ⟨r0, hr0, hlr0, hat⟩ := head_at Q.tel.ok.l1
  refine sq_abs fun N1 hN1 => ?_
  walk_at "jv"
  refine ⟨_, hat, _, rfl, ?_⟩
  rw [List.length_map, hlr0]
  apply hN1
  clear hN1
  refine sq_abs fun N2 hN2 => ?_
  walk_at "jv"
  refine ⟨d, rows, d', rows', rfl, p.one, P, ?_⟩
  refine ⟨e, goal, e', goal', rfl, p.two, Q, by rw [sizeL]; omega, ?_⟩
  apply hN2
  clear hN2
  refine sq_abs fun N3 hN3 => ?_
  unfold plD
  have u2 := Q.tel.ok.w2
  have v2 := p.two.ok.w2
  have o2 := p.one.ok.w2
  walk_at "jv"
  rw [Int.toNat_natCast, rangeD_len, rangeD_eq]
  refine ⟨by omega, by omega, by rw [sizeL]; omega, ?_⟩
  refine lcRun_mapOf _ (fun j => D.int (wholeJ goal goal' j)) _ (fun j hj K t hK => ?_) ?_
  · walk_at "jv"
    refine ⟨by rw [List.length_range, sizeL]; omega, ?_⟩
    refine lcRun_fmOf _ (fun z => if plW goal goal' z = j then [D.int (oft goal z)] else []) _ (fun z hz K t hK => ?_) ?_
    · walk_at "jv"
      by_cases e : plW goal goal' z = j
      · rw [if_pos e] at hK
        rw [if_pos (by omega)]
        exact hK
      · rw [if_neg e] at hK
        rw [if_neg (by omega)]
        exact hK
    · rw [fm_map]
      refine ⟨_, .inl rfl, ?_⟩
      rw [fm_sum]
      exact hK
  have hsm : ∀ n ∈ wholesL goal goal', 0 < n ∧ Sm 110 n := fun n hn => by
    obtain ⟨j, hj, rfl⟩ := List.mem_map.mp hn
    have hj := List.mem_range.mp hj
    have h1 := Q.whole_pos hj
    have h2 := Q.whole_le p.two (i := j)
    have h3 := p.two.d2
    refine ⟨h1, ?_⟩
    show (wholeJ goal goal' j).natAbs < 2 ^ 110
    omega
  have hlc := lcm_ok hsm
  have hwl : (wholesL goal goal').length = wid goal' := fnL_len _ _
  apply hN3
  clear hN3
  refine sq_abs fun N4 hN4 => ?_
  walk_at "jv"
  apply hN4
  clear hN4
  refine sq_abs fun N5 hN5 => ?_
  refine for_abs fun WB hWB => ?_
  walk_at "jv"
  have ew : (List.range (wid goal')).map (fun j => D.int (wholeJ goal goal' j)) = (wholesL goal goal').map D.int := by
    unfold wholesL fnL
    rw [List.map_map]
    rfl
  rw [ew]
  refine forI_mk (fun k ρ _ => ∃ x, ρ = [.val (dTel d rows), .val (dTel e goal), .val (dTel d' rows'), .val (dTel e' goal'), .val (.tup [dLI (fnL (wid rows' * wid goal') f), .int w]), .val (.int (wid goal')), .val (plD rows rows'), .val (plD goal goal'), .val (.lst ((wholesL goal goal').map D.int)), .val (.int (lcmL ((wholesL goal goal').take k))), x, .no, .no, .no, .no, .no, .no]) ⟨_, rfl⟩ ?_ ?_
  · rintro k ρ _ dd ⟨x, rfl⟩ hd
    obtain ⟨n, hn, rfl⟩ := map_at hd
    obtain ⟨i1, i2, i3⟩ := hlc k
    have hk : k < (wholesL goal goal').length := (List.getElem?_eq_some_iff.mp hn).1
    obtain ⟨n0, nsm⟩ := hsm n (List.mem_of_getElem? hn)
    refine ⟨_, rfl, fun N hN => ?_⟩
    subst hWB
    walk_at "jv"
    refine ⟨i3.cmul nsm (by omega) (by decide) (by omega), by rw [sizeL]; omega, _, [lcmL ((wholesL goal goal').take k), n], rfl, .inl rfl, ?_, ?_⟩
    · intro y hy
      simp at hy
      omega
    walk_at "jv"
    obtain ⟨g0, g1⟩ := gcdL_pos (d := lcmL ((wholesL goal goal').take k)) (l := [n]) i1
    refine ⟨(i3.le (by omega) g1).cdiv g0 (by omega) (by omega), ?_⟩
    refine hN _ _ ⟨.val (.int n), ?_⟩
    rw [lcm_take hn]
  · rintro ρ _ ⟨x, rfl⟩
    rw [List.length_map, List.take_length]
    have hlw := hlc (wholesL goal goal').length
    rw [List.take_length, hwl] at hlw
    obtain ⟨l0, l1, l2⟩ := hlw
    apply hN5
    clear hN5
    refine sq_abs fun N6 hN6 => ?_
    walk_at "jv"
    refine ⟨Nat.zero_le _, ?_⟩
    apply hN6
    clear hN6
    refine sq_abs fun N7 hN7 => ?_
    refine for_abs fun WC hWC => ?_
    unfold plD
    walk_at "jv"
    refine forI_mk (fun k ρ _ => ∃ x1 x2 x3, ρ = [.val (dTel d rows), .val (dTel e goal), .val (dTel d' rows'), .val (dTel e' goal'), .val (.tup [dLI (fnL (wid rows' * wid goal') f), .int w]), .val (.int (wid goal')), .val (plD rows rows'), .val (plD goal goal'), .val (.lst ((wholesL goal goal').map D.int)), .val (.int (lcmL (wholesL goal goal'))), x1, .own (((wideR rows rows' goal goal' f (lcmL (wholesL goal goal'))).take k).map fun r => dLI r), x2, x3, .no, .no, .no]) ⟨_, _, _, rfl⟩ ?_ ?_
    · rintro k ρ _ dd ⟨x1, x2, x3, rfl⟩ hd
      obtain ⟨y, hy, rfl⟩ := map_at hd
      refine ⟨_, rfl, fun N hN => ?_⟩
      subst hWC
      have hy1 : y < wid rows := by
        have := List.mem_of_getElem? hy
        exact List.mem_range.mp this
      have hyk : y = k := by
        have hk := (List.getElem?_eq_some_iff.mp hy).1
        rw [List.length_range] at hk
        rw [List.getElem?_range hk] at hy
        exact (Option.some.inj hy).symm
      subst hyk
      have pl1 := P.pl_lt hy1
      unfold plD
      walk_at "jv"
      refine ⟨by rw [List.length_range, sizeL]; omega, ?_⟩
      refine lcRun_mapOf _ (fun z => D.int (f (plW rows rows' y * wid goal' + plW goal goal' z) * oft goal z * (lcmL (wholesL goal goal') / wholeJ goal goal' (plW goal goal' z)))) _ (fun z hz K t hK => ?_) ?_
      · have hz := List.mem_range.mp hz
        have pl2 := Q.pl_lt hz
        have hlt : plW rows rows' y * wid goal' + plW goal goal' z < wid rows' * wid goal' := LP.blk_lt pl1 pl2
        have w5 := Q.tel.ok.w2
        have w6 := P.tel.ok.w2
        have wj := hsm _ (List.mem_map.mpr ⟨plW goal goal' z, List.mem_range.mpr pl2, rfl⟩)
        walk_at "jv"
        refine ⟨wide_mul (a := 20) (b := 20) (by rw [Int.natAbs_natCast]; omega) (by rw [Int.natAbs_natCast]; omega) (by decide) (by decide) (by decide), trivial, .int (f (plW rows rows' y * wid goal' + plW goal goal' z)), ?_, _, rfl, ?_⟩
        · rw [← Int.natCast_mul, ← Int.natCast_add]
          exact fn_at hlt
        refine ⟨(F.fs _ hlt).cmul (oft_sm p.two hz) (by decide) (by decide) (by decide), .int (wholeJ goal goal' (plW goal goal' z)), ?_, _, rfl, wj.2.cdiv wj.1 (by decide) (by decide), ?_⟩
        · unfold wholesL
          exact fn_at pl2
        refine ⟨((F.fs _ hlt).mul (oft_sm p.two hz)).cmul l2.div (by decide) (by omega) (by omega), hK⟩
      · refine ⟨by rw [List.length_take, sizeL]; omega, ?_⟩
        have e9 : (List.map (fun r => dLI r) (List.take y (wideR rows rows' goal goal' f (lcmL (wholesL goal goal')))) ++ [dLI (fnL (wid goal) fun z => f (plW rows rows' y * wid goal' + plW goal goal' z) * oft goal z * (lcmL (wholesL goal goal') / wholeJ goal goal' (plW goal goal' z)))]) = List.map (fun r => dLI r) (List.take (y + 1) (wideR rows rows' goal goal' f (lcmL (wholesL goal goal')))) := by
          have : (wideR rows rows' goal goal' f (lcmL (wholesL goal goal')))[y]? = some (fnL (wid goal) fun z => f (plW rows rows' y * wid goal' + plW goal goal' z) * oft goal z * (lcmL (wholesL goal goal') / wholeJ goal goal' (plW goal goal' z))) := by
            unfold wideR
            rw [List.getElem?_map, List.getElem?_range hy1]
            rfl
          rw [take_succ_at this, List.map_append]
          rfl
        rw [dLI_fn] at e9
        rw [e9]
        exact hN _ _ ⟨_, _, _, rfl⟩
    · rintro ρ _ ⟨x1, x2, x3, rfl⟩
      rw [List.length_map, List.length_range, List.take_of_length_le (by rw [wide_len]; exact Nat.le_refl _)]
      apply hN7
      clear hN7
      walk_at "jv"
      obtain ⟨w0, g, e1, m, lo⟩ := found_noLess p P Q F
      have mk := wide_makes p.one p.two p.len P Q F l0 fun j hj => l1 _ (List.mem_map.mpr ⟨j, List.mem_range.mpr hj, rfl⟩)
      refine ⟨by rw [sizeL]; omega, F.ws.cmul l2 (by decide) (by omega) (by omega), w * lcmL (wholesL goal goal'), wideR rows rows' goal goal' f (lcmL (wholesL goal goal')), _, rfl, .inr rfl, by rw [wide_len]; omega, fun r hr => ⟨?_, fun x hx => mk.gar.ok.nn r hr x hx⟩, Int.mul_pos F.w0 l0, (F.ws.mul l2).mono (by omega), ?_⟩
      · rw [mk.gar.ok.len r hr, mk.said]; omega
      · walk_at "jv"
        refine ⟨?_, hq⟩
        show _ ≤ _
        rw [sizeL]
        simp

theorem ok_garbler_for (T : Txt mg) (c_check_pair : Cal P w K mg base 4 "check_pair" ["one", "other"] (spP K 2 fs_check_pair)) (c_searched : Cal P w K mg base 7 "searched" ["one", "other"] (spP K 2 fs_searched)) (c_widened : Cal P w K mg base 4 "widened" ["one", "other", "short", "brief", "numbers"] (spP K 5 fs_widened)) {f : Addr} {fd : FuncData} (F : Fun K "garbler_for" "garbler_for" s_garbler_for f fd) : FnOk P w K mg base CX0 8 f fd ["one", "other"] (spP K 2 fs_garbler_for) := by
  refine ok_P F sc_garbler_for rfl (fun cdv A outer s H E hr =>
    (S_cons (S_expr (E_callC c_check_pair (hr.mono (by decide)) rfl tk_P (EA_cons (E_name (pv 0)) (EA_cons (E_name (pv 1)) EA_nil))))
      (S_cons (S_asg (ps_asg (E_callC c_searched (hr.mono (by decide)) rfl tk_P (EA_cons (E_name (pv 0)) (EA_cons (E_name (pv 1)) EA_nil))) (EG_tup (is := [2, 3, 4]) rfl (pg_tup rfl (pgs_cons (pg_name (i := 2) sc_garbler_for.nd rfl (by first | exact Or.inl rfl | exact Or.inr rfl)) (pgs_cons (pg_name (i := 3) sc_garbler_for.nd rfl (by first | exact Or.inl rfl | exact Or.inr rfl)) (pgs_cons (pg_name (i := 4) sc_garbler_for.nd rfl (by first | exact Or.inl rfl | exact Or.inr rfl)) pgs_nil)))))))
      (S_one (S_ret (E_if (EB_cmp op_notN opd_notN (E_ix (E_name (pv 4)) E_int) E_non (nomark _)) (E_callC c_widened (hr.mono (by decide)) rfl tk_P (EA_cons (E_name (pv 0)) (EA_cons (E_name (pv 1)) (EA_cons (E_name (pv 2)) (EA_cons (E_name (pv 3)) (EA_cons (E_ix (E_name (pv 4)) E_int) EA_nil)))))) E_non)))))) (fun ds Φ hn h => ?_)
  obtain ⟨d, rows, e, goal, rfl, p, hq, hn⟩ := h
  walk_at "jv"
  refine ⟨d, rows, e, goal, rfl, p.one, p.two, p.len, ?_⟩
  refine ⟨d, rows, e, goal, rfl, p, fun d' rows' e' goal' fd P Q F => ?_⟩
  rcases F with ⟨f, w, rfl, F⟩ | ⟨Y, rfl, F⟩
  · unfold dFound
    walk_at "jv"
    obtain ⟨w0, g, e1, m, lo⟩ := found_noLess p P Q F
    refine ⟨d, rows, e, goal, d', rows', e', goal', f, w, rfl, p, P, Q, F, ?_⟩
    rw [e1]
    exact hq w0 g m lo
  · unfold dTold
    walk_at "jv"
    exact hn (told_no p P Q F)

theorem ok_no_less (T : Txt mg) (c_garbler_for : Cal P w K mg base 8 "garbler_for" ["one", "other"] (spP K 2 fs_garbler_for)) {f : Addr} {fd : FuncData} (F : Fun K "no_less" "no_less" s_no_less f fd) : FnOk P w K mg base CX0 9 f fd ["one", "other"] (spP K 2 fs_no_less) := by
  refine ok_P F sc_no_less rfl (fun cdv A outer s H E hr =>
    (S_one (S_ret (E_cmp op_notN opd_notN (E_callC c_garbler_for (hr.mono (by decide)) rfl tk_P (EA_cons (E_name (pv 0)) (EA_cons (E_name (pv 1)) EA_nil))) E_non (nomark _))))) (fun ds Φ hn h => ?_)
  obtain ⟨d, rows, e, goal, rfl, p, hq⟩ := h
  walk_at "jv"
  refine ⟨d, rows, e, goal, rfl, p, fun w g m lo => ?_, fun hn => ?_⟩
  · exact hq true ⟨fun _ => ⟨w, g, m⟩, fun _ => rfl⟩
  · exact hq false ⟨fun z => Bool.noConfusion z, fun z => absurd z hn⟩

theorem ok_are_stakes_against (T : Txt mg) (c_check_pair : Cal P w K mg base 4 "check_pair" ["one", "other"] (spP K 2 fs_check_pair)) (c_worth : Cal P w K mg base 5 "worth" ["teller", "stakes"] (spP K 2 fs_worth)) (c_are_stakes : Cal P w K mg base 1 "are_stakes" ["thing"] (spP K 1 fs_are_stakes)) {f : Addr} {fd : FuncData} (F : Fun K "are_stakes_against" "are_stakes_against" s_are_stakes_against f fd) : FnOk P w K mg base CX0 6 f fd ["one", "other", "thing"] (spP K 3 fs_are_stakes_against) := by
  refine ok_P F sc_are_stakes_against rfl (fun cdv A outer s H E hr =>
    (S_cons (S_expr (E_callC c_check_pair (hr.mono (by decide)) rfl tk_P (EA_cons (E_name (pv 0)) (EA_cons (E_name (pv 1)) EA_nil))))
      (S_cons (S_if (PW.pt (EB_or (EB_not (EB_val (E_callC c_are_stakes (hr.mono (by decide)) rfl tk_P (EA_cons (E_name (pv 2)) EA_nil)))) (EB_or1 (EB_cmp (op_neD hr.units) opd_ne (E_cb (fun h => pe_callB call_len_seq rfl T.bt.b_len b_len h) opn_len (EA_cons (E_ix (E_ix (E_name (pv 2)) E_int) E_int) EA_nil)) (E_cb (fun h => pe_callB call_len_seq rfl T.bt.b_len b_len h) opn_len (EA_cons (E_ix (E_name (pv 0)) E_int) EA_nil)) (nomark _))))) (S_one (S_ret E_bl)) S_nil)
      (S_cons (S_par2 (i := 3) (j := 4) (by decide) (ps_par (by rfl) sc_are_stakes_against.nd rfl rfl (by decide) rfl rfl (EX_val (E_callC c_worth (hr.mono (by decide)) rfl tk_P (EA_cons (E_name (pv 0)) (EA_cons (E_name (pv 2)) EA_nil))) (EX_val (E_callC c_worth (hr.mono (by decide)) rfl tk_P (EA_cons (E_name (pv 1)) (EA_cons (E_name (pv 2)) EA_nil))) EX_nil)) (by rfl)))
      (S_one (S_ret (E_cmp op_lt opd_B0 (E_bin op_mulW opd_I (E_ix (E_name (pv 3)) E_int) (E_ix (E_name (pv 4)) E_int)) (E_bin op_mulW opd_I (E_ix (E_name (pv 4)) E_int) (E_ix (E_name (pv 3)) E_int)) (nomark _)))))))) (fun ds Φ hn h => ?_)
  obtain ⟨d, rows, e, goal, g, rfl, ht, hu, hl, hg, hw, b1, b2, hq⟩ := h
  obtain ⟨r0, hr0, hlr0, hat⟩ := head_at hg.l1
  walk_at "jv"
  refine ⟨d, rows, e, goal, rfl, ht, hu, hl, ?_⟩
  walk_at "jv"
  refine ⟨g, rfl, hg, _, rfl, ?_⟩
  rw [if_neg (by decide)]
  refine ⟨_, hat, _, rfl, ?_⟩
  rw [List.length_map, hlr0, hw, if_neg (by simp)]
  refine ⟨d, rows, g, rfl, ht, hg, hw, e, goal, g, rfl, hu, hg, by rw [hw, hl], ?_⟩
  have s1 : Sm 9000 (ratN (worthN rows g) d).1 := b1.div
  have s2 : Sm 9000 (ratN (worthN rows g) d).2 := ((small_d ht).mono (by decide)).div
  have s3 : Sm 9000 (ratN (worthN goal g) e).1 := b2.div
  have s4 : Sm 9000 (ratN (worthN goal g) e).2 := ((small_d hu).mono (by decide)).div
  refine ⟨_, rfl, _, atI_0 _ _, _, rfl, _, atI_1 _ _ _, _, rfl, _, rfl, s1.cmul s4 (by decide) (by decide) (by decide), _, rfl, _, atI_0 _ _, _, rfl, _, atI_1 _ _ _, _, rfl, _, rfl, s3.cmul s2 (by decide) (by decide) (by decide), ?_⟩
  exact hq

theorem ok__law_sums (T : Txt mg)  {f : Addr} {fd : FuncData} (F : Fun K "_law_sums" "_law_sums" s__law_sums f fd) : FnOk P w K mg base CX0 1 f fd ["column", "stakes"] (spP K 2 fs__law_sums) := by
  refine ok_P F sc__law_sums rfl (fun cdv A outer s H E hr =>
    (S_one (S_ret (E_ls (EL_lc (own := [("deed", 2)]) rfl sc__law_sums.nd (blkOk_by (by first | decide +kernel | rfl)) (by decide) (EI_seq (E_ix (E_name (pv 1)) E_int)) (fun _ _ _ _ _ => (EG_name (pg_name (i := 2) sc__law_sums.nd rfl (by first | exact Or.inl rfl | exact Or.inr rfl)))) (fun _ _ _ _ _ => ETs_nil) (fun _ _ _ _ _ => (E_cb (fun h => pe_callB (cr_sumS rfl) rfl T.bt.b_sum b_sum h) opn_sum (EA_cons (E_ls (EL_lc (own := [("gain", 3), ("number", 4)]) rfl sc__law_sums.nd (blkOk_by (by first | decide +kernel | rfl)) (by decide) (EI_zip (fun h => pi_zipA rfl T.bt.b_zip h) (EA_cons (E_name (pv 2)) (EA_cons (E_name (pv 0)) EA_nil))) (fun _ _ _ _ _ => (EG_tup (is := [3, 4]) rfl (pg_tup rfl (pgs_cons (pg_name (i := 3) sc__law_sums.nd rfl (by first | exact Or.inl rfl | exact Or.inr rfl)) (pgs_cons (pg_name (i := 4) sc__law_sums.nd rfl (by first | exact Or.inl rfl | exact Or.inr rfl)) pgs_nil))))) (fun _ _ _ _ _ => ETs_nil) (fun _ _ _ _ _ => (E_bin op_mulW opd_I (E_name (pv 3)) (E_name (pv 4)))))) EA_nil)))))))) (fun ds Φ hn h => ?_)
  obtain ⟨g, c, rfl, ok, hc, hq⟩ := h
  walk_at "jv"
  refine ⟨by rw [sizeL]; have := ok.l2; omega, ?_⟩
  refine lcRun_mapOf _ (fun a => D.int (dot a c)) _ (fun a ha K t hK => ?_) ?_
  · walk_at "jv"
    refine ⟨_, _, ⟨rfl, rfl⟩, _, rfl, _, rfl, rfl, ?_⟩
    rw [zipD_int]
    refine ⟨by rw [List.length_map, List.length_zip, sizeL]; have := ok.len a ha; have := ok.w2; omega, ?_⟩
    refine lcRun_mapOf _ (fun p => D.int (p.1 * p.2)) _ (fun p hp K t hK => ?_) ?_
    · have h1 := ok.sm a ha p.1 (List.of_mem_zip hp).1
      have h2 := hc p.2 (List.of_mem_zip hp).2
      walk_at "jv"
      exact ⟨h1.cmul h2 (by decide) (by decide) (by decide), hK⟩
    · refine ⟨(a.zip c).map fun p => p.1 * p.2, .inl (by simp [Function.comp_def]), ?_⟩
      exact hK
  · rw [dLI, sumsAt, List.map_map] at hq
    exact hq

theorem ok__law_columns (T : Txt mg)  {f : Addr} {fd : FuncData} (F : Fun K "_law_columns" "_law_columns" s__law_columns f fd) : FnOk P w K mg base CX0 1 f fd ["teller"] (spP K 1 fs__law_columns) := by
  refine ok_P F sc__law_columns rfl (fun cdv A outer s H E hr =>
    (S_one (S_ret (E_ls (EL_lc (own := [("k", 1)]) rfl sc__law_columns.nd (blkOk_by (by first | decide +kernel | rfl)) (by decide) (EI_range1 (fun h => pi_range1 rfl T.bt.b_range h) (EA_cons (E_cb (fun h => pe_callB call_len_seq rfl T.bt.b_len b_len h) opn_len (EA_cons (E_ix (E_ix (E_name (pv 0)) E_int) E_int) EA_nil)) EA_nil)) (fun _ _ _ _ _ => (EG_name (pg_name (i := 1) sc__law_columns.nd rfl (by first | exact Or.inl rfl | exact Or.inr rfl)))) (fun _ _ _ _ _ => ETs_nil) (fun _ _ _ _ _ => (E_cb (fun h => pe_callTy call_tuple_of rfl T.bt.b_tuple b_tuple h) opn_tuple (EA_cons (E_ls (EL_lc (own := [("row", 2)]) rfl sc__law_columns.nd (blkOk_by (by first | decide +kernel | rfl)) (by decide) (EI_seq (E_ix (E_name (pv 0)) E_int)) (fun _ _ _ _ _ => (EG_name (pg_name (i := 2) sc__law_columns.nd rfl (by first | exact Or.inl rfl | exact Or.inr rfl)))) (fun _ _ _ _ _ => ETs_nil) (fun _ _ _ _ _ => (E_ix (E_name (pv 2)) (E_name (pv 1)))))) EA_nil)))))))) (fun ds Φ hn h => ?_)
  obtain ⟨d, rows, rfl, ht, hq⟩ := h
  obtain ⟨r0, hr0, hlr0, hat⟩ := head_at ht.ok.l1
  have w2 := ht.ok.w2
  walk_at "jv"
  refine ⟨_, hat, _, rfl, by rw [List.length_map]; omega, ?_⟩
  rw [List.length_map, hlr0]
  refine ⟨by omega, by rw [rangeD_len, sizeL]; omega, ?_⟩
  rw [Int.toNat_natCast, rangeD_eq]
  refine lcRun_mapOf _ (fun y => dI (rows.map fun r => r.getD y 0)) _ (fun y hy K t hK => ?_) ?_
  · walk_at "jv"
    refine ⟨by rw [sizeL]; have := ht.ok.l2; omega, ?_⟩
    refine lcRun_mapOf _ (fun r => D.int (r.getD y 0)) _ (fun r hr K t hK => ?_) ?_
    · walk_at "jv"
      refine ⟨_, ?_, hK⟩
      rw [atI_map, atI_getD (by rw [ht.ok.len r hr]; exact List.mem_range.mp hy)]
      rfl
    · rw [dI, List.map_map] at hK; exact hK
  · simpa [cols, Function.comp_def] using hq

theorem ok__law_worth (T : Txt mg) (c__law_ratio : Cal P w K mg base 2 "_law_ratio" ["above", "below"] (spP K 2 fs__law_ratio)) (c__law_sums : Cal P w K mg base 1 "_law_sums" ["column", "stakes"] (spP K 2 fs__law_sums)) (c__law_columns : Cal P w K mg base 1 "_law_columns" ["teller"] (spP K 1 fs__law_columns)) {f : Addr} {fd : FuncData} (F : Fun K "_law_worth" "_law_worth" s__law_worth f fd) : FnOk P w K mg base CX0 3 f fd ["teller", "stakes"] (spP K 2 fs__law_worth) := by
  refine ok_P F sc__law_worth rfl (fun cdv A outer s H E hr =>
    (S_one (S_ret (E_callC c__law_ratio (hr.mono (by decide)) rfl tk_P (EA_cons (E_cb (fun h => pe_callB (cr_sumS rfl) rfl T.bt.b_sum b_sum h) opn_sum (EA_cons (E_ls (EL_lc (own := [("column", 2)]) rfl sc__law_worth.nd (blkOk_by (by first | decide +kernel | rfl)) (by decide) (EI_seq (E_callC c__law_columns (hr.mono (by decide)) rfl tk_P (EA_cons (E_name (pv 0)) EA_nil))) (fun _ _ _ _ _ => (EG_name (pg_name (i := 2) sc__law_worth.nd rfl (by first | exact Or.inl rfl | exact Or.inr rfl)))) (fun _ _ _ _ _ => ETs_nil) (fun _ _ _ _ _ => (E_cb (fun h => pe_callB (cr_maxS rfl) rfl T.bt.b_max b_max h) opn_max (EA_cons (E_callC c__law_sums (hr.mono (by decide)) rfl tk_P (EA_cons (E_name (pv 2)) (EA_cons (E_name (pv 1)) EA_nil))) EA_nil))))) EA_nil)) (EA_cons (E_ix (E_name (pv 0)) E_int) EA_nil)))))) (fun ds Φ hn h => ?_)
  obtain ⟨d, rows, g, rfl, ht, ok, hw, hq⟩ := h
  have sd := small_d ht
  have sc : ∀ c ∈ cols rows, ∀ x ∈ c, Sm 400000 x := fun c hc x hx => (cols_sm ht.ok sd hc hx).mono (by decide)
  walk_at "jv"
  refine ⟨d, rows, rfl, ht, ?_⟩
  walk_at "jv"
  refine ⟨by rw [sizeL]; have := ht.ok.w2; rw [cols_len]; omega, ?_⟩
  refine lcRun_mapOf _ (fun c => D.int (maxL (sumsAt g c))) _ (fun c hc K t hK => ?_) ?_
  · walk_at "jv"
    refine ⟨g, c, rfl, ok, sc c hc, _, .inl rfl, ?_, fun m h1 h2 => ?_⟩
    · rw [sumsAt, List.length_map]; have := ok.l1; omega
    · rw [maxL_eq h1 h2] at hK; exact hK
  · refine ⟨(cols rows).map fun c => maxL (sumsAt g c), .inl (by simp [Function.comp_def]), ?_⟩
    have h1 := ht.d1
    exact ⟨_, d, rfl, by omega, sd.mono (by decide), hq⟩

end
end J

set_option Elab.async false
set_option linter.all false
set_option maxRecDepth 100000
set_option maxHeartbeats 4000000
namespace J
open PySem PySem.Spec L2 RZ
local macro_rules | `(tactic| walk_at "jv") => `(tactic| simp only [wSq, wIfS, wOrT, wAndT, wNotT, wB, wIsi, wName, wRet, wC, wNilS, wAndV, wOrV, wNotV, wBin, wUn, wIf, wChain, fI0, fI, fIsN, fNotN, fB, fAdd, fEq, fNe, fIx, wCall, wCons, wNil, wTup, wDrop, wSet, wOwn, wFrzA, wFrzB, wAsg, wPar, wxVal, wxOwn, wxNil, bindX, bindP, bindN, wLs, wLst, wLc, wLc2, lcBody, wYes, wipeE, J.wSeq, wRange1, wRange2, wEnum, wZip, wSl, wSlL, wNoO, wSomeO, wAppend, wExtend, wSetIx, wOwnIx, wOwnLen, wFor, wWhile, fLen, fAbs, fMin2, fMax2, fInt, fSum, fMax, fAll, fAny, fTuple, fList, fCat, fRep, startE, List.map, List.cons_append, List.nil_append, List.getElem?_cons_zero, List.getElem?_cons_succ, List.set_cons_zero, List.set_cons_succ, List.length_cons, List.length_nil, List.replicate, Option.some.injEq, Sl.val.injEq, Sl.own.injEq, D.int.injEq, D.bl.injEq, D.tup.injEq, D.lst.injEq, exists_eq_left', exists_eq_left, exists_eq_right, true_and, and_true, if_true, List.cons.injEq, exists_and_left, exists_const, items_tup, items_lst, isT_tup, isT_lst, atI_0, atI_1, atI_2, addD_int, addD_tup, intD_int, intD_bl, dTel, dRows, dI, dSta, dGar, dRat, tyq_tup, tyq_lst, tyq_int, tyq_str, tyq_bl, tyq_non, isi_tt, isi_ss, isi_ii, isi_ib, shp_eq_int, shp_eq_teller, shp_eq_stakes, shp_eq_garbler, eq_str_self, eq_int, Bool.not_true, Bool.not_false, Bool.false_eq_true, if_false, List.length_map, decide_eq_true_eq, Bool.not_eq_true', decide_eq_false_iff_not, Nat.zero_add, Nat.reduceAdd, ite_true, ite_false, Int.reduceAdd, wDctNew, wDctGet, wDctIx, wDctPut, wDctSorted, fRepT, Sl.dct.injEq, wCallT, fsT, lenI_tup, lenI_lst, lenI_scr, fsD, wDrTurn, wDrRest, wDrCells, wDrAny, wDrPop, wDrSetR, wDrSetT, drIs, wFld, wSetF, wSetFL, wCIx, wCApp, wCSet, wCFrz, wMeth, wMake, fsC, Cell.ins.injEq, Cell.lst.injEq, D.hdl.injEq, lk_many, lk_scale, lk_rows, lk_base, lk_costs, lk_m1, lk_m2, lk_m3, lk_m4, lk_m5, pu_scale, pu_rows, pu_base, pu_costs, setC_same, pp_1, pp_2, pp_3, pp_3', pp_4, pp_5, lk3_rows, lk3_many, lk4_many, ln_0, ln_1, ln_2, ln_3, ln_4, ln_5, wDctC, wDc, dcBody, wDctGetN, wListRg])
abbrev s__law_begun : Stmt := topS 73
theorem sc__law_begun : FnScope ["script", "large", "grain"] ["script"] (defScope s__law_begun) := ⟨rfl, rfl, rfl, by decide +kernel, rfl, by decide +kernel, by decide +kernel⟩
abbrev s_law : Stmt := topS 86
theorem sc_law : FnScope ["script", "draw", "turn", "many", "one", "far", "ask", "n", "k", "teller", "due", "lap", "some", "most", "told", "mine", "yours", "mean", "state", "column", "deed"] ["script"] (defScope s_law) := ⟨rfl, rfl, rfl, by decide +kernel, rfl, by decide +kernel, by decide +kernel⟩
section
variable {P : Program} {w : World} {K : PySem.W.Frag} {mg : Str → Option Value} {base : Heap}
theorem ok__law_begun (T : Txt mg) {f : Addr} {fd : FuncData} (F : Fun K "_law_begun" "_law_begun" s__law_begun f fd) : FnOk P w K mg base CX0 1 f fd ["script"] (spB K) := by
  refine F.ok sc__law_begun (fun vs H Q E h => by obtain ⟨a, ns, rfl, _⟩ := h; rfl) (fun cdv A outer s H vs Q E0 hr h => ?_)
  obtain ⟨a, ns, rfl, hl, h63, q⟩ := h
  refine ⟨_, pss_cons (S_own (R := Rg.pure K H) (i := 1) (PS_setLc (i := 1) (own := [("grain", 2)]) rfl sc__law_begun.nd (blkOk_by (by first | decide +kernel | rfl)) (by decide) (EI_scr (E_name (pv 0))) (fun _ _ _ _ _ => (EG_name (pg_name (i := 2) sc__law_begun.nd rfl (by first | exact Or.inl rfl | exact Or.inr rfl)))) (fun _ _ _ _ _ => (pts_one (EB_cmp op_ge opd_B0 (E_cb (fun h => pe_callB call_abs rfl T.bt.b_abs b_abs h) opn_abs (EA_cons (E_name (pv 2)) EA_nil)) (E_bin op_pow opd_I E_int E_int) (nomark _)))) (fun _ _ _ _ _ => (E_bin op_sub opd_I0 (E_cb (fun h => pe_callB call_abs rfl T.bt.b_abs b_abs h) opn_abs (EA_cons (E_name (pv 2)) EA_nil)) (E_bin op_pow opd_I E_int E_int)))))
    (pss_one (ps_ret (pe_disp (pps_cons pe_str (pv 1) (pps_cons pe_str (E_ls (R := Rg.pure K H) (EL_lc (own := [("grain", 2)]) rfl sc__law_begun.nd (blkOk_by (by first | decide +kernel | rfl)) (by decide) (EI_scr (E_name (pv 0))) (fun _ _ _ _ _ => (EG_name (pg_name (i := 2) sc__law_begun.nd rfl (by first | exact Or.inl rfl | exact Or.inr rfl)))) (fun _ _ _ _ _ => ETs_nil) (fun _ _ _ _ _ => (E_bin op_modN opd_I (E_cb (fun h => pe_callTy call_int1 rfl T.bt.b_int b_int h) opn_int (EA_cons (E_cb (fun h => pe_callB call_abs rfl T.bt.b_abs b_abs h) opn_abs (EA_cons (E_name (pv 2)) EA_nil)) EA_nil)) E_int)))) (pps_cons pe_str pe_int (pps_cons pe_str pe_int pps_nil)))) (by rfl) (by rfl) (by simp) (by decide)))), ?_⟩
  have hst : EnvOk (Rg.pure K H) () H (L2.start ["script", "large", "grain"] [.ref a]) (startE ["script", "large", "grain"] [.scr ns]) := start_ok (R := Rg.pure K H) trivial rfl rfl (.cons (.scr hl) .nil)
  refine ⟨_, (), { nx := fun ρ _ => ∃ ls : List Int, ρ = [.val (.scr ns), .own (ls.map .int), .no] ∧ ∀ x ∈ ls, 0 ≤ x, rt := fun _ _ => False }, hst, ?_, ?_⟩
  · walk_at "jv"
    simp only [wScr]
    walk_at "jv"
    refine ⟨ns, rfl, by rw [sizeL]; omega, ?_⟩
    refine lcRun_fmOf _ (fun x => if 10 ^ 18 ≤ (if x < 0 then -x else x) then [D.int ((if x < 0 then -x else x) - 10 ^ 18)] else []) _ (fun x hx K1 t hK => ?_) ?_
    · walk_at "jv"
      have e18 : (10 : Int) ^ Int.toNat 18 = 10 ^ 18 := rfl
      rw [e18]
      refine ⟨⟨by decide, by decide, by decide⟩, ?_⟩
      by_cases hh : (10 : Int) ^ 18 ≤ (if x < 0 then -x else x)
      · rw [if_pos hh] at hK ⊢
        exact ⟨⟨by decide, by decide, by decide⟩, hK⟩
      · rw [if_neg hh] at hK ⊢
        exact hK
    · rw [fm_ints (fun x => 10 ^ 18 ≤ (if x < 0 then -x else x)) (fun x => (if x < 0 then -x else x) - 10 ^ 18)]
      refine ⟨_, rfl, fun x hx => ?_⟩
      obtain ⟨y, _, hy⟩ := List.mem_flatMap.mp hx
      split at hy <;> simp at hy <;> omega
  · refine ⟨fun σ' H1 ρ' t' x ok ⟨ls, e, h0⟩ => ?_, fun v H' d t' _ _ _ z => z.elim, fun _ _ _ _ _ _ z => z.elim, fun _ _ _ _ _ _ z => z.elim⟩
    subst e
    intro p n
    obtain ⟨lp, lvs, hs1, hl1, hD1, hn0, _⟩ := ok.own 1 _ rfl
    have g1 : (Rg.pure K H).Go t' H1 t' (upd H1 p (.dK [])) := .new ok.gd n
    refine ⟨.ref lp, hs1, _, t', fun d _ => ∃ cs : List Int, d = .lst (cs.map .int), ok.go g1, ?_, fun H3 t3 v d g3 hd hq => ?_⟩
    · walk_at "jv"
      simp only [wScr]
      walk_at "jv"
      refine ⟨ns, rfl, by rw [sizeL]; omega, ?_⟩
      refine lcRun_mapOf _ (fun x => D.int ((if x < 0 then -x else x).fmod 2147483629)) _ (fun x hx K1 t hK => ?_) ?_
      · walk_at "jv"
        exact ⟨by decide, hK⟩
      · exact ⟨ns.map fun x => (if x < 0 then -x else x).fmod 2147483629, by rw [List.map_map]; rfl⟩
    · obtain ⟨cs, rfl⟩ := hq
      cases hd with
      | @lst c vs _ hc hds =>
        have hp3 : H3 p = some (.dK []) := g3.st.st p _ upd_same fun z => z
        refine ⟨hp3, [(.inr "large", .ref lp), (.inr "cells", .ref c), (.inr "rest", .int 0), (.inr "turn", .int 0)], rfl, by simp, ?_⟩
        have em : mergeK [] [((.inr "large" : Key), V.ref lp), (.inr "cells", .ref c), (.inr "rest", .int 0), (.inr "turn", .int 0)] = drKV ⟨ls, cs, 0, 0⟩ lp c := by
          simp only [mergeK, List.foldl_cons, List.foldl_nil, putK, drKV, List.any_cons, List.any_nil, List.nil_append, List.cons_append, k_ne1, k_ne2, k_ne3, k_ne4, k_ne5, k_ne6, decide_false, Bool.or_false, Bool.false_eq_true, if_false]
        rw [em]
        have ne : lp ≠ p := fun z => by rw [z, n] at hl1; cases hl1
        have hl3 : H3 lp = some (.lst lvs) := g3.st.st lp _ (by rw [upd_ne ne]; exact hl1) fun z => z
        obtain ⟨oc, hc⟩ := hc
        have ncp : c ≠ p := fun z => by rw [z, hp3] at hc; cases hc
        refine q _ p lp c ⟨ls, cs, 0, 0⟩ (fun b o hb => ?_) ⟨upd_same, ?_, oc, ?_⟩ ⟨Int.le_refl 0, h0, Int.le_refl 0, Int.le_refl 0⟩
        · have hb1 := ok.st.st b o hb fun z => z
          have nb : b ≠ p := fun z => by rw [z, n] at hb1; cases hb1
          rw [upd_ne nb]
          exact g3.st.st b o (by rw [upd_ne nb]; exact hb1) fun z => z
        · rw [upd_ne ne, hl3, hD1.ints]
        · rw [upd_ne ncp, hc, hds.ints]
theorem ok_law (T : Txt mg) (c__law_take : Cal P w K mg base 2 "_law_take" ["draw", "many"] (spD K 2 fs__law_take)) (c__law_ratio : Cal P w K mg base 2 "_law_ratio" ["above", "below"] (spP K 2 fs__law_ratio)) (c__law_teller : Cal P w K mg base 5 "_law_teller" ["draw", "many", "most"] (spD K 3 fs__law_teller)) (c_beside : Cal P w K mg base 6 "beside" ["one", "other"] (spP K 2 fs_beside)) (c_either : Cal P w K mg base 6 "either" ["one", "other", "k", "n"] (spP K 4 fs_either)) (c_guessing : Cal P w K mg base 5 "guessing" ["teller"] (spP K 1 fs_guessing)) (c__law_less : Cal P w K mg base 1 "_law_less" ["first", "second"] (spP K 2 fs__law_less)) (c__law_stakes : Cal P w K mg base 3 "_law_stakes" ["draw", "many", "low"] (spD K 3 fs__law_stakes)) (c_worth : Cal P w K mg base 5 "worth" ["teller", "stakes"] (spP K 2 fs_worth)) (c_unheard : Cal P w K mg base 3 "unheard" ["stakes"] (spP K 1 fs_unheard)) (c_no_less : Cal P w K mg base 9 "no_less" ["one", "other"] (spP K 2 fs_no_less)) (c_are_stakes_against : Cal P w K mg base 6 "are_stakes_against" ["one", "other", "thing"] (spP K 3 fs_are_stakes_against)) (c__law_worth : Cal P w K mg base 3 "_law_worth" ["teller", "stakes"] (spP K 2 fs__law_worth)) (c__law_columns : Cal P w K mg base 1 "_law_columns" ["teller"] (spP K 1 fs__law_columns)) (c__law_begun : Cal P w K mg base 1 "_law_begun" ["script"] (spB K)) {f : Addr} {fd : FuncData} (F : Fun K "law" "law" s_law f fd) : FnOk P w K mg base CX0 10 f fd ["script"] (spL K) := by
  obtain ⟨fb, fdb, Fb, hmb, hkb, hbb⟩ := c__law_begun.ex
  refine F.ok sc_law (fun vs H Q E h => by obtain ⟨a, ns, rfl, _⟩ := h; rfl) (fun cdv A outer s H vs Q E0 hr h => ?_)
  obtain ⟨a, ns, rfl, hl, h63, q⟩ := h
  refine ⟨_, pss_cons (ps_set (i := 1) sc_law.nd rfl (by first | exact Or.inl rfl | exact Or.inr rfl) (pe_call Fb (hr.mono (by decide)) rfl hmb hkb hbb .nil pass0 (pa_cons (pv 0) pa_nil))) (pss_any (K := K) fun H0 dr dl dc dt =>
    (S_cons (S_for PassesOwn.never rfl (EI_range1 (fun h => pi_range1 rfl T.bt.b_range h) (EA_cons (E_bin op_addIT opd_add E_int (E_cb (fun h => pe_callB (call_min2 rfl) rfl T.bt.b_min b_min h) opn_min2 (EA_cons (E_cb (fun h => pe_callB call_len_seq rfl T.bt.b_len b_len h) opn_len (EA_cons (E_name (pv 0)) EA_nil)) (EA_cons E_int EA_nil)))) EA_nil)) (EG_name (pg_name (i := 2) sc_law.nd rfl (by first | exact Or.inl rfl | exact Or.inr rfl))) (S_cons (S_set (i := 3) (ps_set (i := 3) sc_law.nd rfl (by first | exact Or.inl rfl | exact Or.inr rfl) (E_bin op_addIT opd_add E_int (E_callC c__law_take (hr.mono (by decide)) rfl tk_D (EA_cons (E_name (pv 1)) (EA_cons E_int EA_nil))))))
      (S_cons (S_par2 (i := 4) (j := 5) (by decide) (ps_par (by rfl) sc_law.nd rfl rfl (by decide) rfl rfl (EX_val (E_callC c__law_teller (hr.mono (by decide)) rfl tk_D (EA_cons (E_name (pv 1)) (EA_cons (E_name (pv 3)) (EA_cons E_int EA_nil)))) (EX_val (E_callC c__law_teller (hr.mono (by decide)) rfl tk_D (EA_cons (E_name (pv 1)) (EA_cons (E_name (pv 3)) (EA_cons E_int EA_nil)))) EX_nil)) (by rfl)))
      (S_cons (S_set (i := 6) (ps_set (i := 6) sc_law.nd rfl (by first | exact Or.inl rfl | exact Or.inr rfl) (E_tup (EA_cons E_str (EA_cons (E_cb (fun h => pe_callTy call_tuple_of rfl T.bt.b_tuple b_tuple h) opn_tuple (EA_cons (E_ls (EL_lc (own := [("k", 8)]) rfl sc_law.nd (blkOk_by (by first | decide +kernel | rfl)) (by decide) (EI_range1 (fun h => pi_range1 rfl T.bt.b_range h) (EA_cons (E_name (pv 3)) EA_nil)) (fun _ _ _ _ _ => (EG_name (pg_name (i := 8) sc_law.nd rfl (by first | exact Or.inl rfl | exact Or.inr rfl)))) (fun _ _ _ _ _ => ETs_nil) (fun _ _ _ _ _ => (E_cb (fun h => pe_callTy call_tuple_of rfl T.bt.b_tuple b_tuple h) opn_tuple (EA_cons (E_ls (EL_lc (own := [("state", 18)]) rfl sc_law.nd (blkOk_by (by first | decide +kernel | rfl)) (by decide) (EI_range1 (fun h => pi_range1 rfl T.bt.b_range h) (EA_cons (E_name (pv 3)) EA_nil)) (fun _ _ _ _ _ => (EG_name (pg_name (i := 18) sc_law.nd rfl (by first | exact Or.inl rfl | exact Or.inr rfl)))) (fun _ _ _ _ _ => ETs_nil) (fun _ _ _ _ _ => (E_if (EB_cmp (op_eqD hr.units) opd_eq (E_name (pv 18)) (E_name (pv 8)) (nomark _)) E_int E_int)))) EA_nil))))) EA_nil)) EA_nil)))))
      (S_cons (S_set (i := 7) (ps_set (i := 7) sc_law.nd rfl (by first | exact Or.inl rfl | exact Or.inr rfl) (E_bin op_addIT opd_add E_int (E_callC c__law_take (hr.mono (by decide)) rfl tk_D (EA_cons (E_name (pv 1)) (EA_cons E_int EA_nil))))))
      (S_cons (S_set (i := 8) (ps_set (i := 8) sc_law.nd rfl (by first | exact Or.inl rfl | exact Or.inr rfl) (E_callC c__law_take (hr.mono (by decide)) rfl tk_D (EA_cons (E_name (pv 1)) (EA_cons (E_bin op_addIT opd_add (E_name (pv 7)) E_int) EA_nil)))))
      (S_cons (S_for PassesOwn.never rfl (EI_new (EL_lst (EA_cons (E_name (pv 4)) (EA_cons (E_name (pv 5)) (EA_cons (E_callC c_beside (hr.mono (by decide)) rfl tk_P (EA_cons (E_name (pv 4)) (EA_cons (E_name (pv 5)) EA_nil))) (EA_cons (E_callC c_either (hr.mono (by decide)) rfl tk_P (EA_cons (E_name (pv 4)) (EA_cons (E_name (pv 5)) (EA_cons (E_name (pv 8)) (EA_cons (E_name (pv 7)) EA_nil))))) EA_nil)))))) (EG_name (pg_name (i := 9) sc_law.nd rfl (by first | exact Or.inl rfl | exact Or.inr rfl))) (S_cons (S_set (i := 10) (ps_set (i := 10) sc_law.nd rfl (by first | exact Or.inl rfl | exact Or.inr rfl) (E_callC c__law_ratio (hr.mono (by decide)) rfl tk_P (EA_cons (E_cb (fun h => pe_callB (cr_sumS rfl) rfl T.bt.b_sum b_sum h) opn_sum (EA_cons (E_ls (EL_lc (own := [("column", 19)]) rfl sc_law.nd (blkOk_by (by first | decide +kernel | rfl)) (by decide) (EI_seq (E_callC c__law_columns (hr.mono (by decide)) rfl tk_P (EA_cons (E_name (pv 9)) EA_nil))) (fun _ _ _ _ _ => (EG_name (pg_name (i := 19) sc_law.nd rfl (by first | exact Or.inl rfl | exact Or.inr rfl)))) (fun _ _ _ _ _ => ETs_nil) (fun _ _ _ _ _ => (E_cb (fun h => pe_callB (cr_maxS rfl) rfl T.bt.b_max b_max h) opn_max (EA_cons (E_name (pv 19)) EA_nil))))) EA_nil)) (EA_cons (E_ix (E_name (pv 9)) E_int) EA_nil)))))
      (S_cons (S_if (PW.pt (EB_or (EB_cmp (op_neD hr.units) opd_ne (E_callC c_guessing (hr.mono (by decide)) rfl tk_P (EA_cons (E_name (pv 9)) EA_nil)) (E_name (pv 10)) (nomark _)) (EB_or (EB_cmp (op_neD hr.units) opd_ne (E_callC c_worth (hr.mono (by decide)) rfl tk_P (EA_cons (E_name (pv 9)) (EA_cons (E_name (pv 6)) EA_nil))) (E_name (pv 10)) (nomark _)) (EB_or1 (EB_cmp (op_neD hr.units) opd_ne (E_callC c_unheard (hr.mono (by decide)) rfl tk_P (EA_cons (E_name (pv 6)) EA_nil)) E_int (nomark _)))))) (S_one (S_ret E_bl)) S_nil)
      (S_one (S_for PassesOwn.never rfl (EI_range1 (fun h => pi_range1 rfl T.bt.b_range h) (EA_cons E_int EA_nil)) (EG_name (pg_name (i := 11) sc_law.nd rfl (by first | exact Or.inl rfl | exact Or.inr rfl))) (S_cons (S_set (i := 12) (ps_set (i := 12) sc_law.nd rfl (by first | exact Or.inl rfl | exact Or.inr rfl) (E_callC c__law_stakes (hr.mono (by decide)) rfl tk_D (EA_cons (E_name (pv 1)) (EA_cons (E_name (pv 3)) (EA_cons E_int EA_nil))))))
      (S_cons (S_set (i := 13) (ps_set (i := 13) sc_law.nd rfl (by first | exact Or.inl rfl | exact Or.inr rfl) (E_callC c__law_ratio (hr.mono (by decide)) rfl tk_P (EA_cons (E_bin op_mulW opd_I (E_ix (E_name (pv 10)) E_int) (E_cb (fun h => pe_callB (cr_maxS rfl) rfl T.bt.b_max b_max h) opn_max (EA_cons (E_ls (EL_lc (own := [("deed", 20)]) rfl sc_law.nd (blkOk_by (by first | decide +kernel | rfl)) (by decide) (EI_seq (E_ix (E_name (pv 12)) E_int)) (fun _ _ _ _ _ => (EG_name (pg_name (i := 20) sc_law.nd rfl (by first | exact Or.inl rfl | exact Or.inr rfl)))) (fun _ _ _ _ _ => ETs_nil) (fun _ _ _ _ _ => (E_cb (fun h => pe_callB (cr_sumS rfl) rfl T.bt.b_sum b_sum h) opn_sum (EA_cons (E_name (pv 20)) EA_nil))))) EA_nil))) (EA_cons (E_ix (E_name (pv 10)) E_int) EA_nil)))))
      (S_cons (S_set (i := 14) (ps_set (i := 14) sc_law.nd rfl (by first | exact Or.inl rfl | exact Or.inr rfl) (E_callC c_worth (hr.mono (by decide)) rfl tk_P (EA_cons (E_name (pv 9)) (EA_cons (E_name (pv 12)) EA_nil)))))
      (S_one (S_if (PW.pt (EB_or (EB_cmp (op_neD hr.units) opd_ne (E_name (pv 14)) (E_callC c__law_worth (hr.mono (by decide)) rfl tk_P (EA_cons (E_name (pv 9)) (EA_cons (E_name (pv 12)) EA_nil))) (nomark _)) (EB_or (EB_val (E_callC c__law_less (hr.mono (by decide)) rfl tk_P (EA_cons (E_name (pv 13)) (EA_cons (E_name (pv 14)) EA_nil)))) (EB_or1 (EB_val (E_callC c__law_less (hr.mono (by decide)) rfl tk_P (EA_cons (E_name (pv 14)) (EA_cons (E_tup (EA_cons (E_callC c_unheard (hr.mono (by decide)) rfl tk_P (EA_cons (E_name (pv 12)) EA_nil)) (EA_cons E_int EA_nil))) EA_nil)))))))) (S_one (S_ret E_bl)) S_nil))))))))))
      (S_cons (S_par2 (i := 15) (j := 16) (by decide) (ps_par (by rfl) sc_law.nd rfl rfl (by decide) rfl rfl (EX_val (E_callC c_guessing (hr.mono (by decide)) rfl tk_P (EA_cons (E_name (pv 4)) EA_nil)) (EX_val (E_callC c_guessing (hr.mono (by decide)) rfl tk_P (EA_cons (E_name (pv 5)) EA_nil)) EX_nil)) (by rfl)))
      (S_cons (S_set (i := 17) (ps_set (i := 17) sc_law.nd rfl (by first | exact Or.inl rfl | exact Or.inr rfl) (E_callC c__law_ratio (hr.mono (by decide)) rfl tk_P (EA_cons (E_bin op_addIT opd_add (E_bin op_mulW opd_I (E_bin op_mulW opd_I (E_ix (E_name (pv 15)) E_int) (E_name (pv 8))) (E_ix (E_name (pv 16)) E_int)) (E_bin op_mulW opd_I (E_bin op_mulW opd_I (E_ix (E_name (pv 16)) E_int) (E_bin op_sub opd_I0 (E_name (pv 7)) (E_name (pv 8)))) (E_ix (E_name (pv 15)) E_int))) (EA_cons (E_bin op_mulW opd_I (E_bin op_mulW opd_I (E_ix (E_name (pv 15)) E_int) (E_ix (E_name (pv 16)) E_int)) (E_name (pv 7))) EA_nil)))))
      (S_cons (S_if (EB_cmp (op_neD hr.units) opd_ne (E_callC c_guessing (hr.mono (by decide)) rfl tk_P (EA_cons (E_callC c_either (hr.mono (by decide)) rfl tk_P (EA_cons (E_name (pv 4)) (EA_cons (E_name (pv 5)) (EA_cons (E_name (pv 8)) (EA_cons (E_name (pv 7)) EA_nil))))) EA_nil)) (E_name (pv 17)) (nomark _)) (S_one (S_ret E_bl)) S_nil)
      (S_cons (S_if (PW.pt (EB_and (EB_val (E_callC c__law_less (hr.mono (by decide)) rfl tk_P (EA_cons (E_name (pv 15)) (EA_cons (E_name (pv 16)) EA_nil)))) (EB_and1 (PW.pt (EB_or (EB_cmp op_notBl opd_notB (E_callC c_no_less (hr.mono (by decide)) rfl tk_P (EA_cons (E_name (pv 4)) (EA_cons (E_name (pv 5)) EA_nil))) E_bl (nomark _)) (EB_or1 (EB_cmp op_notBl opd_notB (E_callC c_are_stakes_against (hr.mono (by decide)) rfl tk_P (EA_cons (E_name (pv 4)) (EA_cons (E_name (pv 5)) (EA_cons (E_name (pv 6)) EA_nil)))) E_bl (nomark _)))))))) (S_one (S_ret E_bl)) S_nil)
      (S_one (S_if (PW.pt (EB_and (EB_val (E_callC c__law_less (hr.mono (by decide)) rfl tk_P (EA_cons (E_name (pv 16)) (EA_cons (E_name (pv 15)) EA_nil)))) (EB_and1 (PW.pt (EB_or (EB_cmp op_notBl opd_notB (E_callC c_no_less (hr.mono (by decide)) rfl tk_P (EA_cons (E_name (pv 5)) (EA_cons (E_name (pv 4)) EA_nil))) E_bl (nomark _)) (EB_or1 (EB_cmp op_notBl opd_notB (E_callC c_are_stakes_against (hr.mono (by decide)) rfl tk_P (EA_cons (E_name (pv 5)) (EA_cons (E_name (pv 4)) (EA_cons (E_name (pv 6)) EA_nil)))) E_bl (nomark _)))))))) (S_one (S_ret E_bl)) S_nil)))))))))))))
      (S_one (S_ret E_bl)))), ?_⟩
  refine begin_ok (N := ["script", "draw", "turn", "many", "one", "far", "ask", "n", "k", "teller", "due", "lap", "some", "most", "told", "mine", "yours", "mean", "state", "column", "deed"]) (by decide) hl h63 (fun v H' e => by subst e; exact q H') (fun dr t ht => ?_)
  clear c__law_take c__law_ratio c__law_teller c_beside c_either c_guessing c__law_less c__law_stakes c_worth c_unheard c_no_less c_are_stakes_against c__law_worth c__law_columns c__law_begun F Fb hmb hkb hbb hr q hl T
  have e0 : startE ["script", "draw", "turn", "many", "one", "far", "ask", "n", "k", "teller", "due", "lap", "some", "most", "told", "mine", "yours", "mean", "state", "column", "deed"] [.scr ns] = [.val (.scr ns), .no, .no, .no, .no, .no, .no, .no, .no, .no, .no, .no, .no, .no, .no, .no, .no, .no, .no, .no, .no] := rfl
  rw [e0]
  refine sq_abs fun N hN => ?_
  refine for_abs fun WB hWB => ?_
  walk_at "jv"
  refine ⟨_, _, ⟨rfl, rfl⟩, trivial, ?_⟩
  have hm : 3 ≤ (3 + if (5 : Int) < ns.length then 5 else (ns.length : Int)) ∧ (3 + if (5 : Int) < ns.length then 5 else (ns.length : Int)) ≤ 8 := by split <;> omega
  generalize (3 + if (5 : Int) < ns.length then 5 else (ns.length : Int)) = M at hm ⊢
  refine ⟨by omega, by omega, ?_⟩
  subst hWB
  refine forI_mk (fun k ρ t => k ≤ 8 ∧ Dr (1000 * k) t ∧ ∃ s2 s3 s4 s5 s6 s7 s8 s9 s10 s11 s12 s13 s14 s15 s16 s17 s18 s19 s20, ρ = [.val (.scr ns), .val (.hdl dr), s2, s3, s4, s5, s6, s7, s8, s9, s10, s11, s12, s13, s14, s15, s16, s17, s18, s19, s20]) ⟨by decide, ht, _, _, _, _, _, _, _, _, _, _, _, _, _, _, _, _, _, _, _, rfl⟩ ?_ ?_
  · rintro k0 ρ t1 d ⟨hk8, hb, s2, s3, s4, s5, s6, s7, s8, s9, s10, s11, s12, s13, s14, s15, s16, s17, s18, s19, s20, rfl⟩ hd
    obtain ⟨hk, rfl⟩ := range_at hd
    refine ⟨_, rfl, fun N1 hN1 => ?_⟩
    refine sq_abs fun N2 hN2 => ?_
    walk_at "jv"
    refine ⟨5, rfl, by decide, sm_small (by decide) (by decide), _, hb, by omega, fun r t2 r0 r1 hb2 => ?_⟩
    obtain ⟨many, hmany⟩ := Int.eq_ofNat_of_zero_le (show 0 ≤ 1 + r by omega)
    have m1 : 1 ≤ many := by omega
    have m2 : many ≤ 5 := by omega
    walk_at "jv"
    rw [hmany]
    refine ⟨trivial, hN2 _ _ ?_⟩
    refine sq_abs fun N3 hN3 => ?_
    walk_at "jv"
    refine ⟨many, 5, rfl, m1, by omega, by decide, by decide, _, hb2, by omega, fun d rows t3 hd12 ht hrl hwid hb3 => ?_⟩
    walk_at "jv"
    refine ⟨many, 2, rfl, m1, by omega, by decide, by decide, _, hb3, by omega, fun e goal t4 he12 hu hgl hwid2 hb4 => ?_⟩
    refine hN3 _ _ ?_
    refine sq_abs fun N4 hN4 => ?_
    walk_at "jv"
    have hgl : goal.length = rows.length := by omega
    refine ⟨by omega, by omega, by rw [rangeD_len, sizeL]; omega, ?_⟩
    rw [Int.toNat_natCast, rangeD_eq]
    refine lcRun_mapOf _ (fun (k : Nat) => dI ((List.range many).map fun s => if s = k then (1 : Int) else 0)) _ (fun k hk K t hK => ?_) ?_
    · walk_at "jv"
      refine ⟨by omega, by omega, by rw [rangeD_len, sizeL]; omega, ?_⟩
      rw [Int.toNat_natCast, rangeD_eq]
      refine lcRun_mapOf _ (fun (s : Nat) => D.int (if s = k then 1 else 0)) _ (fun s hs K t hK => ?_) ?_
      · walk_at "jv"
        by_cases h : s = k
        · subst h; rw [if_pos rfl] at hK ⊢; exact hK
        · rw [if_neg h] at hK; rw [if_neg (by omega)]; exact hK
      · rw [dI, List.map_map] at hK; exact hK
    refine ⟨by decide, ?_⟩
    rw [← sta_idG]
    refine hN4 _ _ ?_
    refine sq_abs fun N5 hN5 => ?_
    walk_at "jv"
    refine ⟨5, rfl, by decide, sm_small (by decide) (by decide), _, hb4, by omega, fun r' t5 r'0 r'1 hb5 => ?_⟩
    walk_at "jv"
    refine ⟨trivial, hN5 _ _ ?_⟩
    obtain ⟨n, hn⟩ : ∃ n : Int, n = 1 + r' := ⟨_, rfl⟩
    rw [← hn]
    have n1 : 1 ≤ n := by omega
    have n5 : n ≤ 5 := by omega
    refine sq_abs fun N6 hN6 => ?_
    walk_at "jv"
    refine ⟨trivial, n + 1, rfl, by omega, sm_small (by omega) (by omega), _, hb5, by omega, fun k t6 k00 k01 hb6 => ?_⟩
    refine hN6 _ _ ?_
    refine sq_abs fun N7 hN7 => ?_
    refine for_abs fun WB2 hWB2 => ?_
    walk_at "jv"
    have d1 : 1 ≤ (d : Int) := ht.d1
    have e1 : 1 ≤ (e : Int) := hu.d1
    have hwb : wid rows * wid goal ≤ 12 := Nat.le_trans (Nat.mul_le_mul hwid hwid2) (by decide)
    have hwe : wid rows + wid goal ≤ 12 := by omega
    obtain ⟨bok, bwl, bll⟩ := besR_ok ht hu hgl hwb
    obtain ⟨eok, ewl, ell⟩ := eitR_ok (k := k) (n := n) ht hu hgl hwe k00 (by omega)
    have de1 : 1 ≤ (d : Int) * e := Int.mul_pos (by omega) (by omega)
    have de2 := mul12 hd12 he12
    have den1 : 1 ≤ (d : Int) * e * n := Int.mul_pos (by omega) (by omega)
    have den2 : (d : Int) * e * n ≤ 144 * 5 := Int.mul_le_mul de2 n5 (by omega) (by decide)
    obtain ⟨bt, btl, bM⟩ := tel_telLow de1 bok (Int.le_trans de2 (by decide))
    obtain ⟨et, etl, eM⟩ := tel_telLow den1 eok (Int.le_trans den2 (by decide))
    refine ⟨d, rows, e, goal, rfl, ht, hu, hgl, hwb, bM, ?_⟩
    refine ⟨d, rows, e, goal, k, n, rfl, ht, hu, hgl, hwe, k00, by omega, n1, by omega, eM, by decide, ?_⟩
    subst hWB2
    refine forI_mk (ds := ([((d : Int), rows), ((e : Int), goal), ((d : Int) * e / gcdL ((d : Int) * e :: (besR rows goal).flatten), lowR (gcdL ((d : Int) * e :: (besR rows goal).flatten)) (besR rows goal)), ((d : Int) * e * n / gcdL ((d : Int) * e * n :: (eitR (k * e) ((n - k) * d) rows goal).flatten), lowR (gcdL ((d : Int) * e * n :: (eitR (k * e) ((n - k) * d) rows goal).flatten)) (eitR (k * e) ((n - k) * d) rows goal))] : List (Int × List (List Int))).map fun p => dTel p.1 p.2)
      (fun j ρ t => Dr (1000 * k0 + 213 + 100 * j) t ∧ ∃ u9 u10 u11 u12 u13 u14, ρ = [.val (.scr ns), .val (.hdl dr), .val (.int k0), .val (.int many), .val (dTel d rows), .val (dTel e goal), .val (dSta (idG many)), .val (.int n), .val (.int k), u9, u10, u11, u12, u13, u14, s15, s16, s17, s18, s19, s20]) ⟨hb6.mono (by omega), _, _, _, _, _, _, rfl⟩ ?_ ?_
    · rintro j ρ t7 d' ⟨hb7, u9, u10, u11, u12, u13, u14, rfl⟩ hd'
      have hj4 : j < 4 := by have := (List.getElem?_eq_some_iff.mp hd').1; simpa using this
      obtain ⟨⟨D0, R⟩, hp, rfl⟩ := map_at hd'
      have hT : IsTel D0 R ∧ R.length = many := by
        have := List.mem_of_getElem? hp
        simp only [List.mem_cons, List.not_mem_nil, or_false, Prod.mk.injEq] at this
        rcases this with ⟨rfl, rfl⟩ | ⟨rfl, rfl⟩ | ⟨rfl, rfl⟩ | ⟨rfl, rfl⟩
        · exact ⟨ht, hrl⟩
        · exact ⟨hu, by omega⟩
        · exact ⟨bt, by omega⟩
        · exact ⟨et, by omega⟩
      clear hp hd' bt et btl etl bM eM bok eok bwl bll ewl ell
      obtain ⟨hT, hRm⟩ := hT
      refine ⟨_, rfl, fun N8 hN8 => ?_⟩
      refine sq_abs fun N9 hN9 => ?_
      walk_at "jv"
      have hR1 := hT.ok.l1
      have sD := small_d hT
      have D1 := hT.d1
      refine ⟨D0, R, rfl, hT, _, rfl, by rw [List.length_map, cols_len, sizeL]; have := hT.ok.w2; omega, ?_⟩
      refine lcRun_mapOf _ (fun c => D.int (maxL c)) _ (fun c hc K t hK => ?_) ?_
      · walk_at "jv"
        refine ⟨c, .inr rfl, by rw [col_len hc]; exact hR1, fun m h1 h2 => ?_⟩
        rw [maxL_eq h1 h2] at hK
        exact hK
      refine ⟨(cols R).map maxL, .inl (by rw [List.map_map]; rfl), ?_⟩
      refine ⟨_, D0, rfl, by omega, sD.mono (by decide), ?_⟩
      refine hN9 _ _ ?_
      rw [show ((cols R).map maxL).sum = guessN R from rfl]
      refine sq_abs fun N10 hN10 => ?_
      walk_at "jv"
      obtain ⟨iS, iW, iL, iU⟩ := idG_sta m1 (show many ≤ 6 by omega)
      have gw : worthN R (idG many) = guessN R := by rw [guess_worth, hRm]
      have rq := rat_eq (ratN (guessN R) D0)
      rw [dRat] at rq
      refine ⟨D0, R, rfl, hT, shp_rat _, shp_rat _, ?_⟩
      rw [if_neg (fun z => by rw [rq] at z; cases z)]
      refine ⟨D0, R, idG many, rfl, hT, iS, by rw [iW, hRm], ?_⟩
      rw [gw]
      refine ⟨shp_rat _, shp_rat _, ?_⟩
      rw [if_neg (fun z => by rw [rq] at z; cases z)]
      refine ⟨idG many, rfl, iS, ?_⟩
      rw [iU]
      refine ⟨shp_int 1, ?_⟩
      rw [if_neg (by rw [eq_int]; simp)]
      refine hN10 _ _ ?_
      refine for_abs fun WB3 hWB3 => ?_
      walk_at "jv"
      refine ⟨by decide, by decide, ?_⟩
      subst hWB3
      refine forI_mk (fun i ρ t => Dr (1000 * k0 + 213 + 100 * j + 25 * i) t ∧ ∃ u11 u12 u13 u14, ρ = [.val (.scr ns), .val (.hdl dr), .val (.int k0), .val (.int many), .val (dTel d rows), .val (dTel e goal), .val (dSta (idG many)), .val (.int n), .val (.int k), .val (dTel D0 R), .val (dRat (ratN (guessN R) D0)), u11, u12, u13, u14, s15, s16, s17, s18, s19, s20]) ⟨hb7, _, _, _, _, rfl⟩ ?_ ?_
      · rintro i ρ t8 d'' ⟨hb8, u11, u12, u13, u14, rfl⟩ hd''
        obtain ⟨hi, rfl⟩ := range_at hd''
        have hi4 : i < 4 := hi
        refine ⟨_, rfl, fun N11 hN11 => ?_⟩
        refine sq_abs fun N12 hN12 => ?_
        walk_at "jv"
        refine ⟨many, 0, rfl, m1, by omega, _, hb8, by omega, fun g t9 gl gok hb9 => ?_⟩
        refine hN12 _ _ ?_
        refine sq_abs fun N13 hN13 => ?_
        walk_at "jv"
        have sg : Sg many 11 g := ⟨gok.l1, gok.len, fun r hr x hx => by have := gok.bd r hr x hx; omega⟩
        have ig : IsSta g := sg.sta (by omega) m1 (by omega) (by decide)
        have sb := sums_bd sg (by decide) (by decide) (show many ≤ 6 by omega)
        obtain ⟨sp1, sp2, sp3⟩ := rat_sm2 hT
        obtain ⟨sw1, sw2, sw3⟩ := rat_sm hT sg (by decide) (by decide)
        have sm1 : Sm 2000 ((ratN (guessN R) D0).1 * maxL (g.map List.sum)) := (sp1.mul sb).mono (by decide)
        refine ⟨by rw [sizeL]; omega, ?_⟩
        refine lcRun_mapOf _ (fun a => D.int a.sum) _ (fun a ha K t hK => ?_) ?_
        · walk_at "jv"
          exact ⟨a, .inr rfl, hK⟩
        refine ⟨g.map List.sum, .inl (by rw [List.map_map]; rfl), by rw [List.length_map]; exact gok.l1, fun m h1 h2 => ?_⟩
        rw [← maxL_eq h1 h2]
        refine ⟨sp1.cmul sb (by decide) (by decide) (by decide), _, _, rfl, sp3, sp2.mono (by decide), ?_⟩
        refine hN13 _ _ ?_
        refine sq_abs fun N14 hN14 => ?_
        walk_at "jv"
        refine ⟨D0, R, g, rfl, hT, ig, by rw [sg.wid, hRm], ?_⟩
        refine hN14 _ _ ?_
        walk_at "jv"
        have rw' := rat_eq (ratN (worthN R g) D0)
        rw [dRat] at rw'
        refine ⟨D0, R, g, rfl, hT, ig, by rw [sg.wid, hRm], shp_rat _, shp_rat _, ?_⟩
        rw [if_neg (fun z => by rw [rw'] at z; cases z)]
        refine ⟨(_, _), (_, _), rfl, sm1.div.mono (by decide), sp2.div.mono (by decide), sw1.mono (by decide), sw2.mono (by decide), _, rfl, ?_⟩
        rw [if_neg (by
          rw [decide_eq_true_eq]
          exact k92_most (by omega) (worth_le_guess gok.l1 (fun a ha => ⟨by rw [gok.len a ha, hRm], fun x hx => (gok.bd a ha x hx).1⟩) hT.ok.nn hR1))]
        refine ⟨g, rfl, ig, by rw [sizeL]; decide, ?_⟩
        refine ⟨(_, _), (_, 1), rfl, sw1.mono (by decide), sw2.mono (by decide), sb.mono (by decide), sm_one, _, rfl, ?_⟩
        rw [if_neg (by
          rw [decide_eq_true_eq]
          exact k92_least (by omega) (W_hear hT.ok gok.l1 (fun a ha => by rw [gok.len a ha, hRm])))]
        exact hN11 _ _ ⟨hb9.mono (by omega), _, _, _, _, rfl⟩
      · rintro ρ t8 ⟨hb8, u11, u12, u13, u14, rfl⟩
        exact hN8 _ _ ⟨hb8.mono (by rw [rangeD_len]; show 1000 * k0 + 213 + 100 * j + 25 * 4 ≤ _; omega), _, _, _, _, _, _, rfl⟩
    · rintro ρ t7 ⟨hb7, u9, u10, u11, u12, u13, u14, rfl⟩
      refine hN7 _ _ ?_
      refine sq_abs fun N8 hN8 => ?_
      walk_at "jv"
      refine ⟨d, rows, rfl, ht, e, goal, rfl, hu, ?_⟩
      refine hN8 _ _ ?_
      refine sq_abs fun N9 hN9 => ?_
      walk_at "jv"
      obtain ⟨a1, a2, a3⟩ := rat_sm2 ht
      obtain ⟨b1, b2, b3⟩ := rat_sm2 hu
      have sk : Sm 100 k := sm_le9 k00 (by omega)
      have snk : Sm 100 (n - k) := sm_le9 (by omega) (by omega)
      have sn : Sm 100 n := sm_le9 (by omega) (by omega)
      refine ⟨a1.cmul sk (by decide) (by decide) (by decide), (a1.mul sk).cmul b2 (by decide) (by decide) (by decide), b1.cmul snk (by decide) (by decide) (by decide), (b1.mul snk).cmul a2 (by decide) (by decide) (by decide), trivial, a2.cmul b2 (by decide) (by decide) (by decide), (a2.mul b2).cmul sn (by decide) (by decide) (by decide), _, _, rfl, Int.mul_pos (Int.mul_pos a3 b3) (by omega), ((a2.mul b2).mul sn).mono (by decide), ?_⟩
      rw [← k92_mean (by omega) (by omega) (by omega)]
      refine hN9 _ _ ?_
      refine sq_abs fun N10 hN10 => ?_
      walk_at "jv"
      refine ⟨d, rows, e, goal, k, n, rfl, ht, hu, hgl, hwe, k00, by omega, n1, by omega, eM, ?_⟩
      refine ⟨_, _, rfl, et, ?_⟩
      rw [guess_low den1 eok, guess_eit (Int.mul_nonneg k00 (by omega)) (Int.mul_nonneg (by omega) (by omega)) (cols_eit hgl ht.ok.l1 ht.ok.len hu.ok.len ewl)]
      refine ⟨shp_rat _, shp_rat _, ?_⟩
      rw [if_neg (fun z => by have := rat_eq (ratN (k * e * guessN rows + (n - k) * d * guessN goal) (d * e * n)); rw [this] at z; cases z)]
      refine hN10 _ _ ?_
      obtain ⟨iS, iW, iL, iU⟩ := idG_sta m1 (show many ≤ 6 by omega)
      have gw : worthN rows (idG many) = guessN rows := by rw [guess_worth, hrl]
      have gw' : worthN goal (idG many) = guessN goal := by rw [guess_worth, hgl, hrl]
      have dez : (d : Int) * e < 2 ^ 60 := Int.lt_of_le_of_lt de2 (by decide)
      have p12 : Pair2 d rows e goal := ⟨ht, hu, hgl, dez⟩
      have p21 : Pair2 e goal d rows := p12.swap
      refine sq_abs fun N11 hN11 => ?_
      walk_at "jv"
      refine (fun hL => ?g1) (hN11 ?r1 ?t1 ?g2)
      case' g1 =>
        refine ⟨(_, _), (_, _), rfl, a1.mono (by decide), a2.mono (by decide), b1.mono (by decide), b2.mono (by decide), _, rfl, ?_⟩
        by_cases hlt : (ratN (guessN rows) d).1 * (ratN (guessN goal) e).2 < (ratN (guessN goal) e).1 * (ratN (guessN rows) d).2
        · rw [if_pos (by rw [decide_eq_true_eq]; exact hlt)]
          refine ⟨d, rows, e, goal, rfl, p12, fun b hb' => ⟨b, rfl, ?_⟩⟩
          have hbf : b = false := by
            cases b with
            | false => rfl
            | true => exact absurd (hb'.mp rfl) (k92_less ht hu hgl hlt)
          subst hbf
          rw [if_neg (by decide)]
          refine ⟨d, rows, e, goal, idG many, rfl, ht, hu, hgl, iS, by rw [iW, hrl], by rw [gw]; exact (guess_sm ht).mono (by decide), by rw [gw']; exact (guess_sm hu).mono (by decide), ?_⟩
          rw [gw, gw']
          refine ⟨_, rfl, ?_⟩
          rw [if_neg (by rw [decide_eq_true hlt]; decide)]
          exact hL
        · rw [if_neg (by rw [decide_eq_true_eq]; exact hlt)]
          exact hL
      walk_at "jv"
      refine (fun hL => ?g3) (hN1 ?r3 ?t3 ?g4)
      case' g3 =>
        refine ⟨(_, _), (_, _), rfl, b1.mono (by decide), b2.mono (by decide), a1.mono (by decide), a2.mono (by decide), _, rfl, ?_⟩
        by_cases hlt : (ratN (guessN goal) e).1 * (ratN (guessN rows) d).2 < (ratN (guessN rows) d).1 * (ratN (guessN goal) e).2
        · rw [if_pos (by rw [decide_eq_true_eq]; exact hlt)]
          refine ⟨e, goal, d, rows, rfl, p21, fun b hb' => ⟨b, rfl, ?_⟩⟩
          have hbf : b = false := by
            cases b with
            | false => rfl
            | true => exact absurd (hb'.mp rfl) (k92_less hu ht hgl.symm hlt)
          subst hbf
          rw [if_neg (by decide)]
          refine ⟨e, goal, d, rows, idG many, rfl, hu, ht, hgl.symm, iS, by rw [iW, hgl, hrl], by rw [gw']; exact (guess_sm hu).mono (by decide), by rw [gw]; exact (guess_sm ht).mono (by decide), ?_⟩
          rw [gw', gw]
          refine ⟨_, rfl, ?_⟩
          rw [if_neg (by rw [decide_eq_true hlt]; decide)]
          exact hL
        · rw [if_neg (by rw [decide_eq_true_eq]; exact hlt)]
          exact hL
      exact ⟨by omega, hb7.mono (by show 1000 * k0 + 213 + 100 * 4 ≤ _; omega), _, _, _, _, _, _, _, _, _, _, _, _, _, _, _, _, _, _, _, rfl⟩
  · rintro ρ t1 _
    refine hN _ _ ?_
    walk_at "jv"

end
end J

set_option Elab.async false
set_option linter.all false
set_option maxRecDepth 100000
set_option maxHeartbeats 4000000
namespace J
open PySem PySem.Spec L2 RZ
theorem lk_of {K : PySem.W.Frag} {H : Hp} {a : Addr} {xs : List V} (hO : Only H) (h : SqL K H a xs) : LK K H a xs := by
  rcases h with h | h
  · rcases h with h | ⟨o, h⟩
    · rcases hO a with n | ⟨o, ys, n⟩
      · rw [h] at n; cases n
      · rw [h] at n; cases n
    · exact .inl ⟨o, h⟩
  · exact .inr h
theorem all_mk {l : PySem.W.OpenLaw} {w : World} {K : PySem.W.Frag} {h : Heap} {mg : Str → Option Value} {fa : Addr} (X : K.In h) (G : h.Ns mainGlobals mg) (hfa : mg "law" = some (.ref fa))
    {C_Table : Addr}
    {f0 : Addr} {od0 an0 : Option Addr} {sl0 : Array (Option Value)} {oc0 kV0 dc0 pm0 cd0 ct0 : Value}
    {f1 : Addr} {od1 an1 : Option Addr} {sl1 : Array (Option Value)} {oc1 kV1 dc1 pm1 cd1 ct1 : Value}
    {f2 : Addr} {od2 an2 : Option Addr} {sl2 : Array (Option Value)} {oc2 kV2 dc2 pm2 cd2 ct2 : Value}
    {f3 : Addr} {od3 an3 : Option Addr} {sl3 : Array (Option Value)} {oc3 kV3 dc3 pm3 cd3 ct3 : Value}
    {f4 : Addr} {od4 an4 : Option Addr} {sl4 : Array (Option Value)} {oc4 kV4 dc4 pm4 cd4 ct4 : Value}
    {f5 : Addr} {od5 an5 : Option Addr} {sl5 : Array (Option Value)} {oc5 kV5 dc5 pm5 cd5 ct5 : Value}
    {f6 : Addr} {od6 an6 : Option Addr} {sl6 : Array (Option Value)} {oc6 kV6 dc6 pm6 cd6 ct6 : Value}
    {f7 : Addr} {od7 an7 : Option Addr} {sl7 : Array (Option Value)} {oc7 kV7 dc7 pm7 cd7 ct7 : Value}
    {f8 : Addr} {od8 an8 : Option Addr} {sl8 : Array (Option Value)} {oc8 kV8 dc8 pm8 cd8 ct8 : Value}
    {f9 : Addr} {od9 an9 : Option Addr} {sl9 : Array (Option Value)} {oc9 kV9 dc9 pm9 cd9 ct9 : Value}
    {f10 : Addr} {od10 an10 : Option Addr} {sl10 : Array (Option Value)} {oc10 kV10 dc10 pm10 cd10 ct10 : Value}
    {f11 : Addr} {od11 an11 : Option Addr} {sl11 : Array (Option Value)} {oc11 kV11 dc11 pm11 cd11 ct11 : Value}
    {f12 : Addr} {od12 an12 : Option Addr} {sl12 : Array (Option Value)} {oc12 kV12 dc12 pm12 cd12 ct12 : Value}
    {f13 : Addr} {od13 an13 : Option Addr} {sl13 : Array (Option Value)} {oc13 kV13 dc13 pm13 cd13 ct13 : Value}
    {f14 : Addr} {od14 an14 : Option Addr} {sl14 : Array (Option Value)} {oc14 kV14 dc14 pm14 cd14 ct14 : Value}
    {f15 : Addr} {od15 an15 : Option Addr} {sl15 : Array (Option Value)} {oc15 kV15 dc15 pm15 cd15 ct15 : Value}
    {f16 : Addr} {od16 an16 : Option Addr} {sl16 : Array (Option Value)} {oc16 kV16 dc16 pm16 cd16 ct16 : Value}
    {f17 : Addr} {od17 an17 : Option Addr} {sl17 : Array (Option Value)} {oc17 kV17 dc17 pm17 cd17 ct17 : Value}
    {f18 : Addr} {od18 an18 : Option Addr} {sl18 : Array (Option Value)} {oc18 kV18 dc18 pm18 cd18 ct18 : Value}
    {f19 : Addr} {od19 an19 : Option Addr} {sl19 : Array (Option Value)} {oc19 kV19 dc19 pm19 cd19 ct19 : Value}
    {f20 : Addr} {od20 an20 : Option Addr} {sl20 : Array (Option Value)} {oc20 kV20 dc20 pm20 cd20 ct20 : Value}
    {f21 : Addr} {od21 an21 : Option Addr} {sl21 : Array (Option Value)} {oc21 kV21 dc21 pm21 cd21 ct21 : Value}
    {f22 : Addr} {od22 an22 : Option Addr} {sl22 : Array (Option Value)} {oc22 kV22 dc22 pm22 cd22 ct22 : Value}
    {f23 : Addr} {od23 an23 : Option Addr} {sl23 : Array (Option Value)} {oc23 kV23 dc23 pm23 cd23 ct23 : Value}
    {f24 : Addr} {od24 an24 : Option Addr} {sl24 : Array (Option Value)} {oc24 kV24 dc24 pm24 cd24 ct24 : Value}
    {f25 : Addr} {od25 an25 : Option Addr} {sl25 : Array (Option Value)} {oc25 kV25 dc25 pm25 cd25 ct25 : Value}
    {f26 : Addr} {od26 an26 : Option Addr} {sl26 : Array (Option Value)} {oc26 kV26 dc26 pm26 cd26 ct26 : Value}
    {f27 : Addr} {od27 an27 : Option Addr} {sl27 : Array (Option Value)} {oc27 kV27 dc27 pm27 cd27 ct27 : Value}
    {f28 : Addr} {od28 an28 : Option Addr} {sl28 : Array (Option Value)} {oc28 kV28 dc28 pm28 cd28 ct28 : Value}
    {f29 : Addr} {od29 an29 : Option Addr} {sl29 : Array (Option Value)} {oc29 kV29 dc29 pm29 cd29 ct29 : Value}
    {f30 : Addr} {od30 an30 : Option Addr} {sl30 : Array (Option Value)} {oc30 kV30 dc30 pm30 cd30 ct30 : Value}
    {f31 : Addr} {od31 an31 : Option Addr} {sl31 : Array (Option Value)} {oc31 kV31 dc31 pm31 cd31 ct31 : Value}
    {f32 : Addr} {od32 an32 : Option Addr} {sl32 : Array (Option Value)} {oc32 kV32 dc32 pm32 cd32 ct32 : Value}
    {f33 : Addr} {od33 an33 : Option Addr} {sl33 : Array (Option Value)} {oc33 kV33 dc33 pm33 cd33 ct33 : Value}
    {f34 : Addr} {od34 an34 : Option Addr} {sl34 : Array (Option Value)} {oc34 kV34 dc34 pm34 cd34 ct34 : Value}
    {f35 : Addr} {od35 an35 : Option Addr} {sl35 : Array (Option Value)} {oc35 kV35 dc35 pm35 cd35 ct35 : Value}
    {f36 : Addr} {od36 an36 : Option Addr} {sl36 : Array (Option Value)} {oc36 kV36 dc36 pm36 cd36 ct36 : Value}
    {f37 : Addr} {od37 an37 : Option Addr} {sl37 : Array (Option Value)} {oc37 kV37 dc37 pm37 cd37 ct37 : Value}
    {f38 : Addr} {od38 an38 : Option Addr} {sl38 : Array (Option Value)} {oc38 kV38 dc38 pm38 cd38 ct38 : Value}
    {f39 : Addr} {od39 an39 : Option Addr} {sl39 : Array (Option Value)} {oc39 kV39 dc39 pm39 cd39 ct39 : Value}
    {f40 : Addr} {od40 an40 : Option Addr} {sl40 : Array (Option Value)} {oc40 kV40 dc40 pm40 cd40 ct40 : Value}
    {f41 : Addr} {od41 an41 : Option Addr} {sl41 : Array (Option Value)} {oc41 kV41 dc41 pm41 cd41 ct41 : Value}
    {f42 : Addr} {od42 an42 : Option Addr} {sl42 : Array (Option Value)} {oc42 kV42 dc42 pm42 cd42 ct42 : Value}
    {f43 : Addr} {od43 an43 : Option Addr} {sl43 : Array (Option Value)} {oc43 kV43 dc43 pm43 cd43 ct43 : Value}
    {f44 : Addr} {od44 an44 : Option Addr} {sl44 : Array (Option Value)} {oc44 kV44 dc44 pm44 cd44 ct44 : Value}
    {f45 : Addr} {od45 an45 : Option Addr} {sl45 : Array (Option Value)} {oc45 kV45 dc45 pm45 cd45 ct45 : Value}
    {f46 : Addr} {od46 an46 : Option Addr} {sl46 : Array (Option Value)} {oc46 kV46 dc46 pm46 cd46 ct46 : Value}
    {f47 : Addr} {od47 an47 : Option Addr} {sl47 : Array (Option Value)} {oc47 kV47 dc47 pm47 cd47 ct47 : Value}
    {f48 : Addr} {od48 an48 : Option Addr} {sl48 : Array (Option Value)} {oc48 kV48 dc48 pm48 cd48 ct48 : Value}
    {f49 : Addr} {od49 an49 : Option Addr} {sl49 : Array (Option Value)} {oc49 kV49 dc49 pm49 cd49 ct49 : Value}
    {f50 : Addr} {od50 an50 : Option Addr} {sl50 : Array (Option Value)} {oc50 kV50 dc50 pm50 cd50 ct50 : Value}
    {f51 : Addr} {od51 an51 : Option Addr} {sl51 : Array (Option Value)} {oc51 kV51 dc51 pm51 cd51 ct51 : Value}
    {f52 : Addr} {od52 an52 : Option Addr} {sl52 : Array (Option Value)} {oc52 kV52 dc52 pm52 cd52 ct52 : Value}
    {f53 : Addr} {od53 an53 : Option Addr} {sl53 : Array (Option Value)} {oc53 kV53 dc53 pm53 cd53 ct53 : Value}
    {f54 : Addr} {od54 an54 : Option Addr} {sl54 : Array (Option Value)} {oc54 kV54 dc54 pm54 cd54 ct54 : Value}
    {f55 : Addr} {od55 an55 : Option Addr} {sl55 : Array (Option Value)} {oc55 kV55 dc55 pm55 cd55 ct55 : Value}
    {f56 : Addr} {od56 an56 : Option Addr} {sl56 : Array (Option Value)} {oc56 kV56 dc56 pm56 cd56 ct56 : Value}
    {f57 : Addr} {od57 an57 : Option Addr} {sl57 : Array (Option Value)} {oc57 kV57 dc57 pm57 cd57 ct57 : Value}
    {f58 : Addr} {od58 an58 : Option Addr} {sl58 : Array (Option Value)} {oc58 kV58 dc58 pm58 cd58 ct58 : Value}
    {f59 : Addr} {od59 an59 : Option Addr} {sl59 : Array (Option Value)} {oc59 kV59 dc59 pm59 cd59 ct59 : Value}
    {f60 : Addr} {od60 an60 : Option Addr} {sl60 : Array (Option Value)} {oc60 kV60 dc60 pm60 cd60 ct60 : Value}
    {f61 : Addr} {od61 an61 : Option Addr} {sl61 : Array (Option Value)} {oc61 kV61 dc61 pm61 cd61 ct61 : Value}
    {f62 : Addr} {od62 an62 : Option Addr} {sl62 : Array (Option Value)} {oc62 kV62 dc62 pm62 cd62 ct62 : Value}
    {f63 : Addr} {od63 an63 : Option Addr} {sl63 : Array (Option Value)} {oc63 kV63 dc63 pm63 cd63 ct63 : Value}
    {f64 : Addr} {od64 an64 : Option Addr} {sl64 : Array (Option Value)} {oc64 kV64 dc64 pm64 cd64 ct64 : Value}
    {tk0 : Tok}
    {tk1 : Tok}
    {tk2 : Tok}
    {tk3 : Tok}
    {tk4 : Tok}
    {tk5 : Tok}
    (aC_Table : PySem.W.nsIn K mainGlobals "Table" = some (some (.ref C_Table)))
    (a0 : PySem.W.nsIn K mainGlobals "_law_begun" = some (some (.ref f0)))
    (l0 : K.lookup f0 = some ⟨oc0, od0, .func (PySem.W.fnOf "_law_begun" "_law_begun" (defArgs s__law_begun) (defBody s__law_begun) (defScope s__law_begun) .none kV0 dc0 pm0 an0 cd0 ct0), sl0⟩)
    (c0 : PySem.W.codeIn K cd0 "_law_begun" = true)
    (k0 : PySem.W.keepIn K (.ref f0) = true)
    (a1 : PySem.W.nsIn K mainGlobals "_law_mixed" = some (some (.ref f1)))
    (l1 : K.lookup f1 = some ⟨oc1, od1, .func (PySem.W.fnOf "_law_mixed" "_law_mixed" (defArgs s__law_mixed) (defBody s__law_mixed) (defScope s__law_mixed) .none kV1 dc1 pm1 an1 cd1 ct1), sl1⟩)
    (c1 : PySem.W.codeIn K cd1 "_law_mixed" = true)
    (k1 : PySem.W.keepIn K (.ref f1) = true)
    (a2 : PySem.W.nsIn K mainGlobals "_law_take" = some (some (.ref f2)))
    (l2 : K.lookup f2 = some ⟨oc2, od2, .func (PySem.W.fnOf "_law_take" "_law_take" (defArgs s__law_take) (defBody s__law_take) (defScope s__law_take) .none kV2 dc2 pm2 an2 cd2 ct2), sl2⟩)
    (c2 : PySem.W.codeIn K cd2 "_law_take" = true)
    (k2 : PySem.W.keepIn K (.ref f2) = true)
    (a3 : PySem.W.nsIn K mainGlobals "_law_gcd" = some (some (.ref f3)))
    (l3 : K.lookup f3 = some ⟨oc3, od3, .func (PySem.W.fnOf "_law_gcd" "_law_gcd" (defArgs s__law_gcd) (defBody s__law_gcd) (defScope s__law_gcd) .none kV3 dc3 pm3 an3 cd3 ct3), sl3⟩)
    (c3 : PySem.W.codeIn K cd3 "_law_gcd" = true)
    (k3 : PySem.W.keepIn K (.ref f3) = true)
    (a4 : PySem.W.nsIn K mainGlobals "_law_ratio" = some (some (.ref f4)))
    (l4 : K.lookup f4 = some ⟨oc4, od4, .func (PySem.W.fnOf "_law_ratio" "_law_ratio" (defArgs s__law_ratio) (defBody s__law_ratio) (defScope s__law_ratio) .none kV4 dc4 pm4 an4 cd4 ct4), sl4⟩)
    (c4 : PySem.W.codeIn K cd4 "_law_ratio" = true)
    (k4 : PySem.W.keepIn K (.ref f4) = true)
    (a5 : PySem.W.nsIn K mainGlobals "_law_pick" = some (some (.ref f5)))
    (l5 : K.lookup f5 = some ⟨oc5, od5, .func (PySem.W.fnOf "_law_pick" "_law_pick" (defArgs s__law_pick) (defBody s__law_pick) (defScope s__law_pick) .none kV5 dc5 pm5 an5 cd5 ct5), sl5⟩)
    (c5 : PySem.W.codeIn K cd5 "_law_pick" = true)
    (k5 : PySem.W.keepIn K (.ref f5) = true)
    (a6 : PySem.W.nsIn K mainGlobals "_law_row" = some (some (.ref f6)))
    (l6 : K.lookup f6 = some ⟨oc6, od6, .func (PySem.W.fnOf "_law_row" "_law_row" (defArgs s__law_row) (defBody s__law_row) (defScope s__law_row) .none kV6 dc6 pm6 an6 cd6 ct6), sl6⟩)
    (c6 : PySem.W.codeIn K cd6 "_law_row" = true)
    (k6 : PySem.W.keepIn K (.ref f6) = true)
    (a7 : PySem.W.nsIn K mainGlobals "_law_teller" = some (some (.ref f7)))
    (l7 : K.lookup f7 = some ⟨oc7, od7, .func (PySem.W.fnOf "_law_teller" "_law_teller" (defArgs s__law_teller) (defBody s__law_teller) (defScope s__law_teller) .none kV7 dc7 pm7 an7 cd7 ct7), sl7⟩)
    (c7 : PySem.W.codeIn K cd7 "_law_teller" = true)
    (k7 : PySem.W.keepIn K (.ref f7) = true)
    (a8 : PySem.W.nsIn K mainGlobals "is_number" = some (some (.ref f8)))
    (l8 : K.lookup f8 = some ⟨oc8, od8, .func (PySem.W.fnOf "is_number" "is_number" (defArgs s_is_number) (defBody s_is_number) (defScope s_is_number) .none kV8 dc8 pm8 an8 cd8 ct8), sl8⟩)
    (c8 : PySem.W.codeIn K cd8 "is_number" = true)
    (k8 : PySem.W.keepIn K (.ref f8) = true)
    (a9 : PySem.W.nsIn K mainGlobals "are_rows" = some (some (.ref f9)))
    (l9 : K.lookup f9 = some ⟨oc9, od9, .func (PySem.W.fnOf "are_rows" "are_rows" (defArgs s_are_rows_tellers) (defBody s_are_rows_tellers) (defScope s_are_rows_tellers) .none kV9 dc9 pm9 an9 cd9 ct9), sl9⟩)
    (c9 : PySem.W.codeIn K cd9 "are_rows" = true)
    (k9 : PySem.W.keepIn K (.ref f9) = true)
    (a10 : PySem.W.nsIn K mainGlobals "is_teller" = some (some (.ref f10)))
    (l10 : K.lookup f10 = some ⟨oc10, od10, .func (PySem.W.fnOf "is_teller" "is_teller" (defArgs s_is_teller) (defBody s_is_teller) (defScope s_is_teller) .none kV10 dc10 pm10 an10 cd10 ct10), sl10⟩)
    (c10 : PySem.W.codeIn K cd10 "is_teller" = true)
    (k10 : PySem.W.keepIn K (.ref f10) = true)
    (a11 : PySem.W.nsIn K mainGlobals "check_one" = some (some (.ref f11)))
    (l11 : K.lookup f11 = some ⟨oc11, od11, .func (PySem.W.fnOf "check_one" "check_one" (defArgs s_check_one) (defBody s_check_one) (defScope s_check_one) .none kV11 dc11 pm11 an11 cd11 ct11), sl11⟩)
    (c11 : PySem.W.codeIn K cd11 "check_one" = true)
    (k11 : PySem.W.keepIn K (.ref f11) = true)
    (a12 : PySem.W.nsIn K mainGlobals "check_other" = some (some (.ref f12)))
    (l12 : K.lookup f12 = some ⟨oc12, od12, .func (PySem.W.fnOf "check_other" "check_other" (defArgs s_check_other) (defBody s_check_other) (defScope s_check_other) .none kV12 dc12 pm12 an12 cd12 ct12), sl12⟩)
    (c12 : PySem.W.codeIn K cd12 "check_other" = true)
    (k12 : PySem.W.keepIn K (.ref f12) = true)
    (a13 : PySem.W.nsIn K mainGlobals "check_both" = some (some (.ref f13)))
    (l13 : K.lookup f13 = some ⟨oc13, od13, .func (PySem.W.fnOf "check_both" "check_both" (defArgs s_check_both) (defBody s_check_both) (defScope s_check_both) .none kV13 dc13 pm13 an13 cd13 ct13), sl13⟩)
    (c13 : PySem.W.codeIn K cd13 "check_both" = true)
    (k13 : PySem.W.keepIn K (.ref f13) = true)
    (a14 : PySem.W.nsIn K mainGlobals "divisor" = some (some (.ref f14)))
    (l14 : K.lookup f14 = some ⟨oc14, od14, .func (PySem.W.fnOf "divisor" "divisor" (defArgs s_divisor) (defBody s_divisor) (defScope s_divisor) .none kV14 dc14 pm14 an14 cd14 ct14), sl14⟩)
    (c14 : PySem.W.codeIn K cd14 "divisor" = true)
    (k14 : PySem.W.keepIn K (.ref f14) = true)
    (a15 : PySem.W.nsIn K mainGlobals "common_tellers" = some (some (.ref f15)))
    (l15 : K.lookup f15 = some ⟨oc15, od15, .func (PySem.W.fnOf "common" "common" (defArgs s_common_tellers) (defBody s_common_tellers) (defScope s_common_tellers) .none kV15 dc15 pm15 an15 cd15 ct15), sl15⟩)
    (c15 : PySem.W.codeIn K cd15 "common" = true)
    (k15 : PySem.W.keepIn K (.ref f15) = true)
    (a16 : PySem.W.nsIn K mainGlobals "made" = some (some (.ref f16)))
    (l16 : K.lookup f16 = some ⟨oc16, od16, .func (PySem.W.fnOf "made" "made" (defArgs s_made) (defBody s_made) (defScope s_made) .none kV16 dc16 pm16 an16 cd16 ct16), sl16⟩)
    (c16 : PySem.W.codeIn K cd16 "made" = true)
    (k16 : PySem.W.keepIn K (.ref f16) = true)
    (a17 : PySem.W.nsIn K mainGlobals "made_of_columns" = some (some (.ref f17)))
    (l17 : K.lookup f17 = some ⟨oc17, od17, .func (PySem.W.fnOf "made_of_columns" "made_of_columns" (defArgs s_made_of_columns) (defBody s_made_of_columns) (defScope s_made_of_columns) .none kV17 dc17 pm17 an17 cd17 ct17), sl17⟩)
    (c17 : PySem.W.codeIn K cd17 "made_of_columns" = true)
    (k17 : PySem.W.keepIn K (.ref f17) = true)
    (a18 : PySem.W.nsIn K mainGlobals "beside_columns" = some (some (.ref f18)))
    (l18 : K.lookup f18 = some ⟨oc18, od18, .func (PySem.W.fnOf "beside_columns" "beside_columns" (defArgs s_beside_columns) (defBody s_beside_columns) (defScope s_beside_columns) .none kV18 dc18 pm18 an18 cd18 ct18), sl18⟩)
    (c18 : PySem.W.codeIn K cd18 "beside_columns" = true)
    (k18 : PySem.W.keepIn K (.ref f18) = true)
    (a19 : PySem.W.nsIn K mainGlobals "columns_of" = some (some (.ref f19)))
    (l19 : K.lookup f19 = some ⟨oc19, od19, .func (PySem.W.fnOf "columns_of" "columns_of" (defArgs s_columns_of) (defBody s_columns_of) (defScope s_columns_of) .none kV19 dc19 pm19 an19 cd19 ct19), sl19⟩)
    (c19 : PySem.W.codeIn K cd19 "columns_of" = true)
    (k19 : PySem.W.keepIn K (.ref f19) = true)
    (a20 : PySem.W.nsIn K mainGlobals "beside" = some (some (.ref f20)))
    (l20 : K.lookup f20 = some ⟨oc20, od20, .func (PySem.W.fnOf "beside" "beside" (defArgs s_beside) (defBody s_beside) (defScope s_beside) .none kV20 dc20 pm20 an20 cd20 ct20), sl20⟩)
    (c20 : PySem.W.codeIn K cd20 "beside" = true)
    (k20 : PySem.W.keepIn K (.ref f20) = true)
    (a21 : PySem.W.nsIn K mainGlobals "check_part" = some (some (.ref f21)))
    (l21 : K.lookup f21 = some ⟨oc21, od21, .func (PySem.W.fnOf "check_part" "check_part" (defArgs s_check_part) (defBody s_check_part) (defScope s_check_part) .none kV21 dc21 pm21 an21 cd21 ct21), sl21⟩)
    (c21 : PySem.W.codeIn K cd21 "check_part" = true)
    (k21 : PySem.W.keepIn K (.ref f21) = true)
    (a22 : PySem.W.nsIn K mainGlobals "weighed" = some (some (.ref f22)))
    (l22 : K.lookup f22 = some ⟨oc22, od22, .func (PySem.W.fnOf "weighed" "weighed" (defArgs s_weighed) (defBody s_weighed) (defScope s_weighed) .none kV22 dc22 pm22 an22 cd22 ct22), sl22⟩)
    (c22 : PySem.W.codeIn K cd22 "weighed" = true)
    (k22 : PySem.W.keepIn K (.ref f22) = true)
    (a23 : PySem.W.nsIn K mainGlobals "either" = some (some (.ref f23)))
    (l23 : K.lookup f23 = some ⟨oc23, od23, .func (PySem.W.fnOf "either" "either" (defArgs s_either) (defBody s_either) (defScope s_either) .none kV23 dc23 pm23 an23 cd23 ct23), sl23⟩)
    (c23 : PySem.W.codeIn K cd23 "either" = true)
    (k23 : PySem.W.keepIn K (.ref f23) = true)
    (a24 : PySem.W.nsIn K mainGlobals "check_teller" = some (some (.ref f24)))
    (l24 : K.lookup f24 = some ⟨oc24, od24, .func (PySem.W.fnOf "check_teller" "check_teller" (defArgs s_check_teller) (defBody s_check_teller) (defScope s_check_teller) .none kV24 dc24 pm24 an24 cd24 ct24), sl24⟩)
    (c24 : PySem.W.codeIn K cd24 "check_teller" = true)
    (k24 : PySem.W.keepIn K (.ref f24) = true)
    (a25 : PySem.W.nsIn K mainGlobals "ratio" = some (some (.ref f25)))
    (l25 : K.lookup f25 = some ⟨oc25, od25, .func (PySem.W.fnOf "ratio" "ratio" (defArgs s_ratio) (defBody s_ratio) (defScope s_ratio) .none kV25 dc25 pm25 an25 cd25 ct25), sl25⟩)
    (c25 : PySem.W.codeIn K cd25 "ratio" = true)
    (k25 : PySem.W.keepIn K (.ref f25) = true)
    (a26 : PySem.W.nsIn K mainGlobals "guessing" = some (some (.ref f26)))
    (l26 : K.lookup f26 = some ⟨oc26, od26, .func (PySem.W.fnOf "guessing" "guessing" (defArgs s_guessing) (defBody s_guessing) (defScope s_guessing) .none kV26 dc26 pm26 an26 cd26 ct26), sl26⟩)
    (c26 : PySem.W.codeIn K cd26 "guessing" = true)
    (k26 : PySem.W.keepIn K (.ref f26) = true)
    (a27 : PySem.W.nsIn K mainGlobals "_law_less" = some (some (.ref f27)))
    (l27 : K.lookup f27 = some ⟨oc27, od27, .func (PySem.W.fnOf "_law_less" "_law_less" (defArgs s__law_less) (defBody s__law_less) (defScope s__law_less) .none kV27 dc27 pm27 an27 cd27 ct27), sl27⟩)
    (c27 : PySem.W.codeIn K cd27 "_law_less" = true)
    (k27 : PySem.W.keepIn K (.ref f27) = true)
    (a28 : PySem.W.nsIn K mainGlobals "_law_stakes" = some (some (.ref f28)))
    (l28 : K.lookup f28 = some ⟨oc28, od28, .func (PySem.W.fnOf "_law_stakes" "_law_stakes" (defArgs s__law_stakes) (defBody s__law_stakes) (defScope s__law_stakes) .none kV28 dc28 pm28 an28 cd28 ct28), sl28⟩)
    (c28 : PySem.W.codeIn K cd28 "_law_stakes" = true)
    (k28 : PySem.W.keepIn K (.ref f28) = true)
    (a29 : PySem.W.nsIn K mainGlobals "are_stakes" = some (some (.ref f29)))
    (l29 : K.lookup f29 = some ⟨oc29, od29, .func (PySem.W.fnOf "are_stakes" "are_stakes" (defArgs s_are_stakes) (defBody s_are_stakes) (defScope s_are_stakes) .none kV29 dc29 pm29 an29 cd29 ct29), sl29⟩)
    (c29 : PySem.W.codeIn K cd29 "are_stakes" = true)
    (k29 : PySem.W.keepIn K (.ref f29) = true)
    (a30 : PySem.W.nsIn K mainGlobals "are_stakes_for" = some (some (.ref f30)))
    (l30 : K.lookup f30 = some ⟨oc30, od30, .func (PySem.W.fnOf "are_stakes_for" "are_stakes_for" (defArgs s_are_stakes_for) (defBody s_are_stakes_for) (defScope s_are_stakes_for) .none kV30 dc30 pm30 an30 cd30 ct30), sl30⟩)
    (c30 : PySem.W.codeIn K cd30 "are_stakes_for" = true)
    (k30 : PySem.W.keepIn K (.ref f30) = true)
    (a31 : PySem.W.nsIn K mainGlobals "check_stakes_for" = some (some (.ref f31)))
    (l31 : K.lookup f31 = some ⟨oc31, od31, .func (PySem.W.fnOf "check_stakes_for" "check_stakes_for" (defArgs s_check_stakes_for) (defBody s_check_stakes_for) (defScope s_check_stakes_for) .none kV31 dc31 pm31 an31 cd31 ct31), sl31⟩)
    (c31 : PySem.W.codeIn K cd31 "check_stakes_for" = true)
    (k31 : PySem.W.keepIn K (.ref f31) = true)
    (a32 : PySem.W.nsIn K mainGlobals "sums_at" = some (some (.ref f32)))
    (l32 : K.lookup f32 = some ⟨oc32, od32, .func (PySem.W.fnOf "sums_at" "sums_at" (defArgs s_sums_at) (defBody s_sums_at) (defScope s_sums_at) .none kV32 dc32 pm32 an32 cd32 ct32), sl32⟩)
    (c32 : PySem.W.codeIn K cd32 "sums_at" = true)
    (k32 : PySem.W.keepIn K (.ref f32) = true)
    (a33 : PySem.W.nsIn K mainGlobals "worth_told" = some (some (.ref f33)))
    (l33 : K.lookup f33 = some ⟨oc33, od33, .func (PySem.W.fnOf "worth_told" "worth_told" (defArgs s_worth_told) (defBody s_worth_told) (defScope s_worth_told) .none kV33 dc33 pm33 an33 cd33 ct33), sl33⟩)
    (c33 : PySem.W.codeIn K cd33 "worth_told" = true)
    (k33 : PySem.W.keepIn K (.ref f33) = true)
    (a34 : PySem.W.nsIn K mainGlobals "worth" = some (some (.ref f34)))
    (l34 : K.lookup f34 = some ⟨oc34, od34, .func (PySem.W.fnOf "worth" "worth" (defArgs s_worth) (defBody s_worth) (defScope s_worth) .none kV34 dc34 pm34 an34 cd34 ct34), sl34⟩)
    (c34 : PySem.W.codeIn K cd34 "worth" = true)
    (k34 : PySem.W.keepIn K (.ref f34) = true)
    (a35 : PySem.W.nsIn K mainGlobals "check_stakes" = some (some (.ref f35)))
    (l35 : K.lookup f35 = some ⟨oc35, od35, .func (PySem.W.fnOf "check_stakes" "check_stakes" (defArgs s_check_stakes) (defBody s_check_stakes) (defScope s_check_stakes) .none kV35 dc35 pm35 an35 cd35 ct35), sl35⟩)
    (c35 : PySem.W.codeIn K cd35 "check_stakes" = true)
    (k35 : PySem.W.keepIn K (.ref f35) = true)
    (a36 : PySem.W.nsIn K mainGlobals "unheard" = some (some (.ref f36)))
    (l36 : K.lookup f36 = some ⟨oc36, od36, .func (PySem.W.fnOf "unheard" "unheard" (defArgs s_unheard) (defBody s_unheard) (defScope s_unheard) .none kV36 dc36 pm36 an36 cd36 ct36), sl36⟩)
    (c36 : PySem.W.codeIn K cd36 "unheard" = true)
    (k36 : PySem.W.keepIn K (.ref f36) = true)
    (a37 : PySem.W.nsIn K mainGlobals "check_pair" = some (some (.ref f37)))
    (l37 : K.lookup f37 = some ⟨oc37, od37, .func (PySem.W.fnOf "check_pair" "check_pair" (defArgs s_check_pair) (defBody s_check_pair) (defScope s_check_pair) .none kV37 dc37 pm37 an37 cd37 ct37), sl37⟩)
    (c37 : PySem.W.codeIn K cd37 "check_pair" = true)
    (k37 : PySem.W.keepIn K (.ref f37) = true)
    (a38 : PySem.W.nsIn K mainGlobals "common_garblers" = some (some (.ref f38)))
    (l38 : K.lookup f38 = some ⟨oc38, od38, .func (PySem.W.fnOf "common" "common" (defArgs s_common_garblers) (defBody s_common_garblers) (defScope s_common_garblers) .none kV38 dc38 pm38 an38 cd38 ct38), sl38⟩)
    (c38 : PySem.W.codeIn K cd38 "common" = true)
    (k38 : PySem.W.keepIn K (.ref f38) = true)
    (a39 : PySem.W.nsIn K mainGlobals "evened" = some (some (.ref f39)))
    (l39 : K.lookup f39 = some ⟨oc39, od39, .func (PySem.W.fnOf "evened" "evened" (defArgs s_evened) (defBody s_evened) (defScope s_evened) .none kV39 dc39 pm39 an39 cd39 ct39), sl39⟩)
    (c39 : PySem.W.codeIn K cd39 "evened" = true)
    (k39 : PySem.W.keepIn K (.ref f39) = true)
    (a40 : PySem.W.nsIn K mainGlobals "equations" = some (some (.ref f40)))
    (l40 : K.lookup f40 = some ⟨oc40, od40, .func (PySem.W.fnOf "equations" "equations" (defArgs s_equations) (defBody s_equations) (defScope s_equations) .none kV40 dc40 pm40 an40 cd40 ct40), sl40⟩)
    (c40 : PySem.W.codeIn K cd40 "equations" = true)
    (k40 : PySem.W.keepIn K (.ref f40) = true)
    (a41 : PySem.W.nsIn K mainGlobals "direction_of_plain" = some (some (.ref f41)))
    (l41 : K.lookup f41 = some ⟨oc41, od41, .func (PySem.W.fnOf "direction_of" "direction_of" (defArgs s_direction_of) (defBody s_direction_of) (defScope s_direction_of) .none kV41 dc41 pm41 an41 cd41 ct41), sl41⟩)
    (c41 : PySem.W.codeIn K cd41 "direction_of" = true)
    (k41 : PySem.W.keepIn K (.ref f41) = true)
    (a42 : PySem.W.nsIn K mainGlobals "plain_of" = some (some (.ref f42)))
    (l42 : K.lookup f42 = some ⟨oc42, od42, .func (PySem.W.fnOf "plain_of" "plain_of" (defArgs s_plain_of) (defBody s_plain_of) (defScope s_plain_of) .none kV42 dc42 pm42 an42 cd42 ct42), sl42⟩)
    (c42 : PySem.W.codeIn K cd42 "plain_of" = true)
    (k42 : PySem.W.keepIn K (.ref f42) = true)
    (a43 : PySem.W.nsIn K mainGlobals "plain_told" = some (some (.ref f43)))
    (l43 : K.lookup f43 = some ⟨oc43, od43, .func (PySem.W.fnOf "plain_told" "plain_told" (defArgs s_plain_told) (defBody s_plain_told) (defScope s_plain_told) .none kV43 dc43 pm43 an43 cd43 ct43), sl43⟩)
    (c43 : PySem.W.codeIn K cd43 "plain_told" = true)
    (k43 : PySem.W.keepIn K (.ref f43) = true)
    (a44 : PySem.W.nsIn K mainGlobals "plain" = some (some (.ref f44)))
    (l44 : K.lookup f44 = some ⟨oc44, od44, .func (PySem.W.fnOf "plain" "plain" (defArgs s_plain) (defBody s_plain) (defScope s_plain) .none kV44 dc44 pm44 an44 cd44 ct44), sl44⟩)
    (c44 : PySem.W.codeIn K cd44 "plain" = true)
    (k44 : PySem.W.keepIn K (.ref f44) = true)
    (a45 : PySem.W.findIn K (.ref C_Table) "__init__" = some (some (.ref f45)))
    (i45 : PySem.W.isFn K (.ref f45) = true)
    (l45 : K.lookup f45 = some ⟨oc45, od45, .func (PySem.W.fnOf "__init__" "Table.__init__" (defArgs s_Table_init) (defBody s_Table_init) (defScope s_Table_init) .none kV45 dc45 pm45 an45 cd45 ct45), sl45⟩)
    (c45 : PySem.W.codeIn K cd45 "Table.__init__" = true)
    (k45 : PySem.W.keepIn K (.ref f45) = true)
    (a46 : PySem.W.findIn K (.ref C_Table) "column" = some (some (.ref f46)))
    (i46 : PySem.W.isFn K (.ref f46) = true)
    (l46 : K.lookup f46 = some ⟨oc46, od46, .func (PySem.W.fnOf "column" "Table.column" (defArgs s_Table_column) (defBody s_Table_column) (defScope s_Table_column) .none kV46 dc46 pm46 an46 cd46 ct46), sl46⟩)
    (c46 : PySem.W.codeIn K cd46 "Table.column" = true)
    (k46 : PySem.W.keepIn K (.ref f46) = true)
    (a47 : PySem.W.findIn K (.ref C_Table) "cleared" = some (some (.ref f47)))
    (i47 : PySem.W.isFn K (.ref f47) = true)
    (l47 : K.lookup f47 = some ⟨oc47, od47, .func (PySem.W.fnOf "cleared" "Table.cleared" (defArgs s_Table_cleared) (defBody s_Table_cleared) (defScope s_Table_cleared) .none kV47 dc47 pm47 an47 cd47 ct47), sl47⟩)
    (c47 : PySem.W.codeIn K cd47 "Table.cleared" = true)
    (k47 : PySem.W.keepIn K (.ref f47) = true)
    (a48 : PySem.W.findIn K (.ref C_Table) "exchange" = some (some (.ref f48)))
    (i48 : PySem.W.isFn K (.ref f48) = true)
    (l48 : K.lookup f48 = some ⟨oc48, od48, .func (PySem.W.fnOf "exchange" "Table.exchange" (defArgs s_Table_exchange) (defBody s_Table_exchange) (defScope s_Table_exchange) .none kV48 dc48 pm48 an48 cd48 ct48), sl48⟩)
    (c48 : PySem.W.codeIn K cd48 "Table.exchange" = true)
    (k48 : PySem.W.keepIn K (.ref f48) = true)
    (a49 : PySem.W.findIn K (.ref C_Table) "row" = some (some (.ref f49)))
    (i49 : PySem.W.isFn K (.ref f49) = true)
    (l49 : K.lookup f49 = some ⟨oc49, od49, .func (PySem.W.fnOf "row" "Table.row" (defArgs s_Table_row) (defBody s_Table_row) (defScope s_Table_row) .none kV49 dc49 pm49 an49 cd49 ct49), sl49⟩)
    (c49 : PySem.W.codeIn K cd49 "Table.row" = true)
    (k49 : PySem.W.keepIn K (.ref f49) = true)
    (a50 : PySem.W.findIn K (.ref C_Table) "run" = some (some (.ref f50)))
    (i50 : PySem.W.isFn K (.ref f50) = true)
    (l50 : K.lookup f50 = some ⟨oc50, od50, .func (PySem.W.fnOf "run" "Table.run" (defArgs s_Table_run) (defBody s_Table_run) (defScope s_Table_run) .none kV50 dc50 pm50 an50 cd50 ct50), sl50⟩)
    (c50 : PySem.W.codeIn K cd50 "Table.run" = true)
    (k50 : PySem.W.keepIn K (.ref f50) = true)
    (a51 : PySem.W.nsIn K mainGlobals "solved" = some (some (.ref f51)))
    (l51 : K.lookup f51 = some ⟨oc51, od51, .func (PySem.W.fnOf "solved" "solved" (defArgs s_solved) (defBody s_solved) (defScope s_solved) .none kV51 dc51 pm51 an51 cd51 ct51), sl51⟩)
    (c51 : PySem.W.codeIn K cd51 "solved" = true)
    (k51 : PySem.W.keepIn K (.ref f51) = true)
    (a52 : PySem.W.nsIn K mainGlobals "searched" = some (some (.ref f52)))
    (l52 : K.lookup f52 = some ⟨oc52, od52, .func (PySem.W.fnOf "searched" "searched" (defArgs s_searched) (defBody s_searched) (defScope s_searched) .none kV52 dc52 pm52 an52 cd52 ct52), sl52⟩)
    (c52 : PySem.W.codeIn K cd52 "searched" = true)
    (k52 : PySem.W.keepIn K (.ref f52) = true)
    (a53 : PySem.W.nsIn K mainGlobals "column_of" = some (some (.ref f53)))
    (l53 : K.lookup f53 = some ⟨oc53, od53, .func (PySem.W.fnOf "column_of" "column_of" (defArgs s_column_of) (defBody s_column_of) (defScope s_column_of) .none kV53 dc53 pm53 an53 cd53 ct53), sl53⟩)
    (c53 : PySem.W.codeIn K cd53 "column_of" = true)
    (k53 : PySem.W.keepIn K (.ref f53) = true)
    (a54 : PySem.W.nsIn K mainGlobals "direction_of_order" = some (some (.ref f54)))
    (l54 : K.lookup f54 = some ⟨oc54, od54, .func (PySem.W.fnOf "direction_of" "direction_of" (defArgs s_direction_of_order) (defBody s_direction_of_order) (defScope s_direction_of_order) .none kV54 dc54 pm54 an54 cd54 ct54), sl54⟩)
    (c54 : PySem.W.codeIn K cd54 "direction_of" = true)
    (k54 : PySem.W.keepIn K (.ref f54) = true)
    (a55 : PySem.W.nsIn K mainGlobals "placed" = some (some (.ref f55)))
    (l55 : K.lookup f55 = some ⟨oc55, od55, .func (PySem.W.fnOf "placed" "placed" (defArgs s_placed) (defBody s_placed) (defScope s_placed) .none kV55 dc55 pm55 an55 cd55 ct55), sl55⟩)
    (c55 : PySem.W.codeIn K cd55 "placed" = true)
    (k55 : PySem.W.keepIn K (.ref f55) = true)
    (a56 : PySem.W.nsIn K mainGlobals "lowered_rows" = some (some (.ref f56)))
    (l56 : K.lookup f56 = some ⟨oc56, od56, .func (PySem.W.fnOf "lowered_rows" "lowered_rows" (defArgs s_lowered_rows) (defBody s_lowered_rows) (defScope s_lowered_rows) .none kV56 dc56 pm56 an56 cd56 ct56), sl56⟩)
    (c56 : PySem.W.codeIn K cd56 "lowered_rows" = true)
    (k56 : PySem.W.keepIn K (.ref f56) = true)
    (a57 : PySem.W.nsIn K mainGlobals "widened" = some (some (.ref f57)))
    (l57 : K.lookup f57 = some ⟨oc57, od57, .func (PySem.W.fnOf "widened" "widened" (defArgs s_widened) (defBody s_widened) (defScope s_widened) .none kV57 dc57 pm57 an57 cd57 ct57), sl57⟩)
    (c57 : PySem.W.codeIn K cd57 "widened" = true)
    (k57 : PySem.W.keepIn K (.ref f57) = true)
    (a58 : PySem.W.nsIn K mainGlobals "garbler_for" = some (some (.ref f58)))
    (l58 : K.lookup f58 = some ⟨oc58, od58, .func (PySem.W.fnOf "garbler_for" "garbler_for" (defArgs s_garbler_for) (defBody s_garbler_for) (defScope s_garbler_for) .none kV58 dc58 pm58 an58 cd58 ct58), sl58⟩)
    (c58 : PySem.W.codeIn K cd58 "garbler_for" = true)
    (k58 : PySem.W.keepIn K (.ref f58) = true)
    (a59 : PySem.W.nsIn K mainGlobals "no_less" = some (some (.ref f59)))
    (l59 : K.lookup f59 = some ⟨oc59, od59, .func (PySem.W.fnOf "no_less" "no_less" (defArgs s_no_less) (defBody s_no_less) (defScope s_no_less) .none kV59 dc59 pm59 an59 cd59 ct59), sl59⟩)
    (c59 : PySem.W.codeIn K cd59 "no_less" = true)
    (k59 : PySem.W.keepIn K (.ref f59) = true)
    (a60 : PySem.W.nsIn K mainGlobals "are_stakes_against" = some (some (.ref f60)))
    (l60 : K.lookup f60 = some ⟨oc60, od60, .func (PySem.W.fnOf "are_stakes_against" "are_stakes_against" (defArgs s_are_stakes_against) (defBody s_are_stakes_against) (defScope s_are_stakes_against) .none kV60 dc60 pm60 an60 cd60 ct60), sl60⟩)
    (c60 : PySem.W.codeIn K cd60 "are_stakes_against" = true)
    (k60 : PySem.W.keepIn K (.ref f60) = true)
    (a61 : PySem.W.nsIn K mainGlobals "_law_sums" = some (some (.ref f61)))
    (l61 : K.lookup f61 = some ⟨oc61, od61, .func (PySem.W.fnOf "_law_sums" "_law_sums" (defArgs s__law_sums) (defBody s__law_sums) (defScope s__law_sums) .none kV61 dc61 pm61 an61 cd61 ct61), sl61⟩)
    (c61 : PySem.W.codeIn K cd61 "_law_sums" = true)
    (k61 : PySem.W.keepIn K (.ref f61) = true)
    (a62 : PySem.W.nsIn K mainGlobals "_law_columns" = some (some (.ref f62)))
    (l62 : K.lookup f62 = some ⟨oc62, od62, .func (PySem.W.fnOf "_law_columns" "_law_columns" (defArgs s__law_columns) (defBody s__law_columns) (defScope s__law_columns) .none kV62 dc62 pm62 an62 cd62 ct62), sl62⟩)
    (c62 : PySem.W.codeIn K cd62 "_law_columns" = true)
    (k62 : PySem.W.keepIn K (.ref f62) = true)
    (a63 : PySem.W.nsIn K mainGlobals "_law_worth" = some (some (.ref f63)))
    (l63 : K.lookup f63 = some ⟨oc63, od63, .func (PySem.W.fnOf "_law_worth" "_law_worth" (defArgs s__law_worth) (defBody s__law_worth) (defScope s__law_worth) .none kV63 dc63 pm63 an63 cd63 ct63), sl63⟩)
    (c63 : PySem.W.codeIn K cd63 "_law_worth" = true)
    (k63 : PySem.W.keepIn K (.ref f63) = true)
    (a64 : PySem.W.nsIn K mainGlobals "law" = some (some (.ref f64)))
    (l64 : K.lookup f64 = some ⟨oc64, od64, .func (PySem.W.fnOf "law" "law" (defArgs s_law) (defBody s_law) (defScope s_law) .none kV64 dc64 pm64 an64 cd64 ct64), sl64⟩)
    (c64 : PySem.W.codeIn K cd64 "law" = true)
    (k64 : PySem.W.keepIn K (.ref f64) = true)
    (pg_Table : PySem.W.plainGet K C_Table Str.empty = true)
    (hd_Table : PySem.W.hasDictIn K C_Table = true)
    (po_Table : PySem.W.plainOver K C_Table = true)
    (sa_Table : PySem.W.findIn K (.ref C_Table) "__setattr__" = some (some (.builtin "object.__setattr__")))
    (mk_Table : PySem.W.makesIn K C_Table = true)
    (kc_Table : PySem.W.keepIn K (.ref C_Table) = true)
    (na_Table_many : PySem.W.findIn K (.ref C_Table) "many" = some none)
    (na_Table_scale : PySem.W.findIn K (.ref C_Table) "scale" = some none)
    (na_Table_rows : PySem.W.findIn K (.ref C_Table) "rows" = some none)
    (na_Table_base : PySem.W.findIn K (.ref C_Table) "base" = some none)
    (na_Table_costs : PySem.W.findIn K (.ref C_Table) "costs" = some none)
    (n0 : PySem.W.nsIn K mainGlobals "STATES" = some (some (.int (6) tk0)))
    (n1 : PySem.W.nsIn K mainGlobals "WORDS" = some (some (.int (12) tk1)))
    (n2 : PySem.W.nsIn K mainGlobals "DIGITS" = some (some (.int (30) tk2)))
    (n3 : PySem.W.nsIn K mainGlobals "MOST" = some (some (.int (10 ^ 30) tk3)))
    (n4 : PySem.W.nsIn K mainGlobals "DEEDS" = some (some (.int (12) tk4)))
    (n5 : PySem.W.nsIn K mainGlobals "PARTS" = some (some (.int (10 ^ 9) tk5)))
    (z0 : PySem.W.nsIn K mainGlobals "len" = some none)
    (z1 : PySem.W.nsIn K mainGlobals "abs" = some none)
    (z2 : PySem.W.nsIn K mainGlobals "sum" = some none)
    (z3 : PySem.W.nsIn K mainGlobals "max" = some none)
    (z4 : PySem.W.nsIn K mainGlobals "min" = some none)
    (z5 : PySem.W.nsIn K mainGlobals "all" = some none)
    (z6 : PySem.W.nsIn K mainGlobals "any" = some none)
    (z7 : PySem.W.nsIn K mainGlobals "int" = some none)
    (z8 : PySem.W.nsIn K mainGlobals "bool" = some none)
    (z9 : PySem.W.nsIn K mainGlobals "str" = some none)
    (z10 : PySem.W.nsIn K mainGlobals "tuple" = some none)
    (z11 : PySem.W.nsIn K mainGlobals "list" = some none)
    (z12 : PySem.W.nsIn K mainGlobals "isinstance" = some none)
    (z13 : PySem.W.nsIn K mainGlobals "range" = some none)
    (z14 : PySem.W.nsIn K mainGlobals "enumerate" = some none)
    (z15 : PySem.W.nsIn K mainGlobals "zip" = some none)
    (z16 : PySem.W.nsIn K mainGlobals "sorted" = some none) :
    ∃ fd : FuncData, (∀ (s : Shared) (v : Value), BindsTo s fd ⟨[v], []⟩ [("script", v)]) ∧ ∀ base : Heap, K.In base → base.Ns mainGlobals mg → FnOk l.prog w K mg base CX0 10 fa fd ["script"] (spL K) := by
  have e := hfa.symm.trans (PySem.W.mg_of X G a64)
  cases e
  have T : Txt mg := ⟨⟨PySem.W.mg_none_of X G z0, PySem.W.mg_none_of X G z1, PySem.W.mg_none_of X G z2, PySem.W.mg_none_of X G z3, PySem.W.mg_none_of X G z4, PySem.W.mg_none_of X G z5, PySem.W.mg_none_of X G z6, PySem.W.mg_none_of X G z7, PySem.W.mg_none_of X G z8, PySem.W.mg_none_of X G z9, PySem.W.mg_none_of X G z10, PySem.W.mg_none_of X G z11, PySem.W.mg_none_of X G z12, PySem.W.mg_none_of X G z13, PySem.W.mg_none_of X G z14, PySem.W.mg_none_of X G z15, PySem.W.mg_none_of X G z16⟩, ⟨tk0, PySem.W.mg_of X G n0⟩, ⟨tk1, PySem.W.mg_of X G n1⟩, ⟨tk2, PySem.W.mg_of X G n2⟩, ⟨tk3, PySem.W.mg_of X G n3⟩, ⟨tk4, PySem.W.mg_of X G n4⟩, ⟨tk5, PySem.W.mg_of X G n5⟩⟩
  have TC_Table : TxtC_Table K C_Table := ⟨⟨pg_Table, hd_Table, po_Table, sa_Table⟩, na_Table_many, na_Table_scale, na_Table_rows, na_Table_base, na_Table_costs⟩
  have F0 := fun_mk (st := s__law_begun) l0 c0 k0
  have b0 := F0.binds (ps := ["script"]) fun _ _ _ _ _ _ us hl => match us, hl with | [_], _ => rfl
  have F1 := fun_mk (st := s__law_mixed) l1 c1 k1
  have b1 := F1.binds (ps := ["draw"]) fun _ _ _ _ _ _ us hl => match us, hl with | [_], _ => rfl
  have F2 := fun_mk (st := s__law_take) l2 c2 k2
  have b2 := F2.binds (ps := ["draw", "many"]) fun _ _ _ _ _ _ us hl => match us, hl with | [_, _], _ => rfl
  have F3 := fun_mk (st := s__law_gcd) l3 c3 k3
  have b3 := F3.binds (ps := ["one", "other"]) fun _ _ _ _ _ _ us hl => match us, hl with | [_, _], _ => rfl
  have F4 := fun_mk (st := s__law_ratio) l4 c4 k4
  have b4 := F4.binds (ps := ["above", "below"]) fun _ _ _ _ _ _ us hl => match us, hl with | [_, _], _ => rfl
  have F5 := fun_mk (st := s__law_pick) l5 c5 k5
  have b5 := F5.binds (ps := ["draw", "some"]) fun _ _ _ _ _ _ us hl => match us, hl with | [_, _], _ => rfl
  have F6 := fun_mk (st := s__law_row) l6 c6 k6
  have b6 := F6.binds (ps := ["draw", "size", "many"]) fun _ _ _ _ _ _ us hl => match us, hl with | [_, _, _], _ => rfl
  have F7 := fun_mk (st := s__law_teller) l7 c7 k7
  have b7 := F7.binds (ps := ["draw", "many", "most"]) fun _ _ _ _ _ _ us hl => match us, hl with | [_, _, _], _ => rfl
  have F8 := fun_mk (st := s_is_number) l8 c8 k8
  have b8 := F8.binds (ps := ["thing", "low", "high"]) fun _ _ _ _ _ _ us hl => match us, hl with | [_, _, _], _ => rfl
  have F9 := fun_mk (st := s_are_rows_tellers) l9 c9 k9
  have b9 := F9.binds (ps := ["thing", "total", "most", "wide"]) fun _ _ _ _ _ _ us hl => match us, hl with | [_, _, _, _], _ => rfl
  have F10 := fun_mk (st := s_is_teller) l10 c10 k10
  have b10 := F10.binds (ps := ["thing"]) fun _ _ _ _ _ _ us hl => match us, hl with | [_], _ => rfl
  have F11 := fun_mk (st := s_check_one) l11 c11 k11
  have b11 := F11.binds (ps := ["one"]) fun _ _ _ _ _ _ us hl => match us, hl with | [_], _ => rfl
  have F12 := fun_mk (st := s_check_other) l12 c12 k12
  have b12 := F12.binds (ps := ["one", "other"]) fun _ _ _ _ _ _ us hl => match us, hl with | [_, _], _ => rfl
  have F13 := fun_mk (st := s_check_both) l13 c13 k13
  have b13 := F13.binds (ps := ["one", "other"]) fun _ _ _ _ _ _ us hl => match us, hl with | [_, _], _ => rfl
  have F14 := fun_mk (st := s_divisor) l14 c14 k14
  have b14 := F14.binds (ps := ["one", "other"]) fun _ _ _ _ _ _ us hl => match us, hl with | [_, _], _ => rfl
  have F15 := fun_mk (st := s_common_tellers) l15 c15 k15
  have b15 := F15.binds (ps := ["numbers"]) fun _ _ _ _ _ _ us hl => match us, hl with | [_], _ => rfl
  have F16 := fun_mk (st := s_made) l16 c16 k16
  have b16 := F16.binds (ps := ["d", "rows"]) fun _ _ _ _ _ _ us hl => match us, hl with | [_, _], _ => rfl
  have F17 := fun_mk (st := s_made_of_columns) l17 c17 k17
  have b17 := F17.binds (ps := ["d", "columns"]) fun _ _ _ _ _ _ us hl => match us, hl with | [_, _], _ => rfl
  have F18 := fun_mk (st := s_beside_columns) l18 c18 k18
  have b18 := F18.binds (ps := ["columns", "others"]) fun _ _ _ _ _ _ us hl => match us, hl with | [_, _], _ => rfl
  have F19 := fun_mk (st := s_columns_of) l19 c19 k19
  have b19 := F19.binds (ps := ["teller"]) fun _ _ _ _ _ _ us hl => match us, hl with | [_], _ => rfl
  have F20 := fun_mk (st := s_beside) l20 c20 k20
  have b20 := F20.binds (ps := ["one", "other"]) fun _ _ _ _ _ _ us hl => match us, hl with | [_, _], _ => rfl
  have F21 := fun_mk (st := s_check_part) l21 c21 k21
  have b21 := F21.binds (ps := ["k", "n"]) fun _ _ _ _ _ _ us hl => match us, hl with | [_, _], _ => rfl
  have F22 := fun_mk (st := s_weighed) l22 c22 k22
  have b22 := F22.binds (ps := ["one", "other", "k", "n"]) fun _ _ _ _ _ _ us hl => match us, hl with | [_, _, _, _], _ => rfl
  have F23 := fun_mk (st := s_either) l23 c23 k23
  have b23 := F23.binds (ps := ["one", "other", "k", "n"]) fun _ _ _ _ _ _ us hl => match us, hl with | [_, _, _, _], _ => rfl
  have F24 := fun_mk (st := s_check_teller) l24 c24 k24
  have b24 := F24.binds (ps := ["teller"]) fun _ _ _ _ _ _ us hl => match us, hl with | [_], _ => rfl
  have F25 := fun_mk (st := s_ratio) l25 c25 k25
  have b25 := F25.binds (ps := ["top", "bottom"]) fun _ _ _ _ _ _ us hl => match us, hl with | [_, _], _ => rfl
  have F26 := fun_mk (st := s_guessing) l26 c26 k26
  have b26 := F26.binds (ps := ["teller"]) fun _ _ _ _ _ _ us hl => match us, hl with | [_], _ => rfl
  have F27 := fun_mk (st := s__law_less) l27 c27 k27
  have b27 := F27.binds (ps := ["first", "second"]) fun _ _ _ _ _ _ us hl => match us, hl with | [_, _], _ => rfl
  have F28 := fun_mk (st := s__law_stakes) l28 c28 k28
  have b28 := F28.binds (ps := ["draw", "many", "low"]) fun _ _ _ _ _ _ us hl => match us, hl with | [_, _, _], _ => rfl
  have F29 := fun_mk (st := s_are_stakes) l29 c29 k29
  have b29 := F29.binds (ps := ["thing"]) fun _ _ _ _ _ _ us hl => match us, hl with | [_], _ => rfl
  have F30 := fun_mk (st := s_are_stakes_for) l30 c30 k30
  have b30 := F30.binds (ps := ["many", "thing"]) fun _ _ _ _ _ _ us hl => match us, hl with | [_, _], _ => rfl
  have F31 := fun_mk (st := s_check_stakes_for) l31 c31 k31
  have b31 := F31.binds (ps := ["many", "stakes"]) fun _ _ _ _ _ _ us hl => match us, hl with | [_, _], _ => rfl
  have F32 := fun_mk (st := s_sums_at) l32 c32 k32
  have b32 := F32.binds (ps := ["stakes", "numbers"]) fun _ _ _ _ _ _ us hl => match us, hl with | [_, _], _ => rfl
  have F33 := fun_mk (st := s_worth_told) l33 c33 k33
  have b33 := F33.binds (ps := ["teller", "stakes"]) fun _ _ _ _ _ _ us hl => match us, hl with | [_, _], _ => rfl
  have F34 := fun_mk (st := s_worth) l34 c34 k34
  have b34 := F34.binds (ps := ["teller", "stakes"]) fun _ _ _ _ _ _ us hl => match us, hl with | [_, _], _ => rfl
  have F35 := fun_mk (st := s_check_stakes) l35 c35 k35
  have b35 := F35.binds (ps := ["stakes"]) fun _ _ _ _ _ _ us hl => match us, hl with | [_], _ => rfl
  have F36 := fun_mk (st := s_unheard) l36 c36 k36
  have b36 := F36.binds (ps := ["stakes"]) fun _ _ _ _ _ _ us hl => match us, hl with | [_], _ => rfl
  have F37 := fun_mk (st := s_check_pair) l37 c37 k37
  have b37 := F37.binds (ps := ["one", "other"]) fun _ _ _ _ _ _ us hl => match us, hl with | [_, _], _ => rfl
  have F38 := fun_mk (st := s_common_garblers) l38 c38 k38
  have b38 := F38.binds (ps := ["numbers"]) fun _ _ _ _ _ _ us hl => match us, hl with | [_], _ => rfl
  have F39 := fun_mk (st := s_evened) l39 c39 k39
  have b39 := F39.binds (ps := ["one", "other"]) fun _ _ _ _ _ _ us hl => match us, hl with | [_, _], _ => rfl
  have F40 := fun_mk (st := s_equations) l40 c40 k40
  have b40 := F40.binds (ps := ["one", "other"]) fun _ _ _ _ _ _ us hl => match us, hl with | [_, _], _ => rfl
  have F41 := fun_mk (st := s_direction_of) l41 c41 k41
  have b41 := F41.binds (ps := ["column"]) fun _ _ _ _ _ _ us hl => match us, hl with | [_], _ => rfl
  have F42 := fun_mk (st := s_plain_of) l42 c42 k42
  have b42 := F42.binds (ps := ["d", "columns"]) fun _ _ _ _ _ _ us hl => match us, hl with | [_, _], _ => rfl
  have F43 := fun_mk (st := s_plain_told) l43 c43 k43
  have b43 := F43.binds (ps := ["teller"]) fun _ _ _ _ _ _ us hl => match us, hl with | [_], _ => rfl
  have F44 := fun_mk (st := s_plain) l44 c44 k44
  have b44 := F44.binds (ps := ["teller"]) fun _ _ _ _ _ _ us hl => match us, hl with | [_], _ => rfl
  have F45 := fun_mk (st := s_Table_init) l45 c45 k45
  have b45 := F45.binds (ps := ["self", "matrix", "rest"]) fun _ _ _ _ _ _ us hl => match us, hl with | [_, _, _], _ => rfl
  have F46 := fun_mk (st := s_Table_column) l46 c46 k46
  have b46 := F46.binds (ps := ["self"]) fun _ _ _ _ _ _ us hl => match us, hl with | [_], _ => rfl
  have F47 := fun_mk (st := s_Table_cleared) l47 c47 k47
  have b47 := F47.binds (ps := ["self", "row", "own", "j"]) fun _ _ _ _ _ _ us hl => match us, hl with | [_, _, _, _], _ => rfl
  have F48 := fun_mk (st := s_Table_exchange) l48 c48 k48
  have b48 := F48.binds (ps := ["self", "i", "j"]) fun _ _ _ _ _ _ us hl => match us, hl with | [_, _, _], _ => rfl
  have F49 := fun_mk (st := s_Table_row) l49 c49 k49
  have b49 := F49.binds (ps := ["self", "j"]) fun _ _ _ _ _ _ us hl => match us, hl with | [_, _], _ => rfl
  have F50 := fun_mk (st := s_Table_run) l50 c50 k50
  have b50 := F50.binds (ps := ["self"]) fun _ _ _ _ _ _ us hl => match us, hl with | [_], _ => rfl
  have F51 := fun_mk (st := s_solved) l51 c51 k51
  have b51 := F51.binds (ps := ["matrix", "rest"]) fun _ _ _ _ _ _ us hl => match us, hl with | [_, _], _ => rfl
  have F52 := fun_mk (st := s_searched) l52 c52 k52
  have b52 := F52.binds (ps := ["one", "other"]) fun _ _ _ _ _ _ us hl => match us, hl with | [_, _], _ => rfl
  have F53 := fun_mk (st := s_column_of) l53 c53 k53
  have b53 := F53.binds (ps := ["teller", "word"]) fun _ _ _ _ _ _ us hl => match us, hl with | [_, _], _ => rfl
  have F54 := fun_mk (st := s_direction_of_order) l54 c54 k54
  have b54 := F54.binds (ps := ["teller", "word"]) fun _ _ _ _ _ _ us hl => match us, hl with | [_, _], _ => rfl
  have F55 := fun_mk (st := s_placed) l55 c55 k55
  have b55 := F55.binds (ps := ["teller", "short"]) fun _ _ _ _ _ _ us hl => match us, hl with | [_, _], _ => rfl
  have F56 := fun_mk (st := s_lowered_rows) l56 c56 k56
  have b56 := F56.binds (ps := ["whole", "rows"]) fun _ _ _ _ _ _ us hl => match us, hl with | [_, _], _ => rfl
  have F57 := fun_mk (st := s_widened) l57 c57 k57
  have b57 := F57.binds (ps := ["one", "other", "short", "brief", "numbers"]) fun _ _ _ _ _ _ us hl => match us, hl with | [_, _, _, _, _], _ => rfl
  have F58 := fun_mk (st := s_garbler_for) l58 c58 k58
  have b58 := F58.binds (ps := ["one", "other"]) fun _ _ _ _ _ _ us hl => match us, hl with | [_, _], _ => rfl
  have F59 := fun_mk (st := s_no_less) l59 c59 k59
  have b59 := F59.binds (ps := ["one", "other"]) fun _ _ _ _ _ _ us hl => match us, hl with | [_, _], _ => rfl
  have F60 := fun_mk (st := s_are_stakes_against) l60 c60 k60
  have b60 := F60.binds (ps := ["one", "other", "thing"]) fun _ _ _ _ _ _ us hl => match us, hl with | [_, _, _], _ => rfl
  have F61 := fun_mk (st := s__law_sums) l61 c61 k61
  have b61 := F61.binds (ps := ["column", "stakes"]) fun _ _ _ _ _ _ us hl => match us, hl with | [_, _], _ => rfl
  have F62 := fun_mk (st := s__law_columns) l62 c62 k62
  have b62 := F62.binds (ps := ["teller"]) fun _ _ _ _ _ _ us hl => match us, hl with | [_], _ => rfl
  have F63 := fun_mk (st := s__law_worth) l63 c63 k63
  have b63 := F63.binds (ps := ["teller", "stakes"]) fun _ _ _ _ _ _ us hl => match us, hl with | [_, _], _ => rfl
  have F64 := fun_mk (st := s_law) l64 c64 k64
  refine ⟨PySem.W.fnOf "law" "law" (defArgs s_law) (defBody s_law) (defScope s_law) .none kV64 dc64 pm64 an64 cd64 ct64, fun s v => .of_eq rfl, fun base _ _ => ?_⟩
  have q__law_begun := Cal.mk' (P := l.prog) (w := w) (mg := mg) (base := base) (x := "_law_begun") F0 (ok__law_begun T  F0) (PySem.W.mg_of X G a0) b0
  have q__law_mixed := Cal.mk' (P := l.prog) (w := w) (mg := mg) (base := base) (x := "_law_mixed") F1 (ok__law_mixed T  F1) (PySem.W.mg_of X G a1) b1
  have q__law_take := Cal.mk' (P := l.prog) (w := w) (mg := mg) (base := base) (x := "_law_take") F2 (ok__law_take T q__law_mixed F2) (PySem.W.mg_of X G a2) b2
  have q__law_gcd := Cal.mk' (P := l.prog) (w := w) (mg := mg) (base := base) (x := "_law_gcd") F3 (ok__law_gcd T  F3) (PySem.W.mg_of X G a3) b3
  have q__law_ratio := Cal.mk' (P := l.prog) (w := w) (mg := mg) (base := base) (x := "_law_ratio") F4 (ok__law_ratio T q__law_gcd F4) (PySem.W.mg_of X G a4) b4
  have q__law_pick := Cal.mk' (P := l.prog) (w := w) (mg := mg) (base := base) (x := "_law_pick") F5 (ok__law_pick T q__law_take F5) (PySem.W.mg_of X G a5) b5
  have q__law_row := Cal.mk' (P := l.prog) (w := w) (mg := mg) (base := base) (x := "_law_row") F6 (ok__law_row T q__law_pick q__law_take F6) (PySem.W.mg_of X G a6) b6
  have q__law_teller := Cal.mk' (P := l.prog) (w := w) (mg := mg) (base := base) (x := "_law_teller") F7 (ok__law_teller T q__law_row q__law_take F7) (PySem.W.mg_of X G a7) b7
  have q_is_number := Cal.mk' (P := l.prog) (w := w) (mg := mg) (base := base) (x := "is_number") F8 (ok_is_number T  F8) (PySem.W.mg_of X G a8) b8
  have q_are_rows := Cal.mk' (P := l.prog) (w := w) (mg := mg) (base := base) (x := "are_rows") F9 (ok_are_rows_tellers T q_is_number F9) (PySem.W.mg_of X G a9) b9
  have q_is_teller := Cal.mk' (P := l.prog) (w := w) (mg := mg) (base := base) (x := "is_teller") F10 (ok_is_teller T q_is_number q_are_rows F10) (PySem.W.mg_of X G a10) b10
  have q_check_one := Cal.mk' (P := l.prog) (w := w) (mg := mg) (base := base) (x := "check_one") F11 (ok_check_one T q_is_teller F11) (PySem.W.mg_of X G a11) b11
  have q_check_other := Cal.mk' (P := l.prog) (w := w) (mg := mg) (base := base) (x := "check_other") F12 (ok_check_other T q_is_teller F12) (PySem.W.mg_of X G a12) b12
  have q_check_both := Cal.mk' (P := l.prog) (w := w) (mg := mg) (base := base) (x := "check_both") F13 (ok_check_both T q_check_one q_check_other F13) (PySem.W.mg_of X G a13) b13
  have q_divisor := Cal.mk' (P := l.prog) (w := w) (mg := mg) (base := base) (x := "divisor") F14 (ok_divisor T  F14) (PySem.W.mg_of X G a14) b14
  have q_common_tellers := Cal.mk' (P := l.prog) (w := w) (mg := mg) (base := base) (x := "common_tellers") F15 (ok_common_tellers T q_divisor F15) (PySem.W.mg_of X G a15) b15
  have q_made := Cal.mk' (P := l.prog) (w := w) (mg := mg) (base := base) (x := "made") F16 (ok_made T q_common_tellers F16) (PySem.W.mg_of X G a16) b16
  have q_made_of_columns := Cal.mk' (P := l.prog) (w := w) (mg := mg) (base := base) (x := "made_of_columns") F17 (ok_made_of_columns T q_made F17) (PySem.W.mg_of X G a17) b17
  have q_beside_columns := Cal.mk' (P := l.prog) (w := w) (mg := mg) (base := base) (x := "beside_columns") F18 (ok_beside_columns T  F18) (PySem.W.mg_of X G a18) b18
  have q_columns_of := Cal.mk' (P := l.prog) (w := w) (mg := mg) (base := base) (x := "columns_of") F19 (ok_columns_of T  F19) (PySem.W.mg_of X G a19) b19
  have q_beside := Cal.mk' (P := l.prog) (w := w) (mg := mg) (base := base) (x := "beside") F20 (ok_beside T q_check_both q_made_of_columns q_beside_columns q_columns_of F20) (PySem.W.mg_of X G a20) b20
  have q_check_part := Cal.mk' (P := l.prog) (w := w) (mg := mg) (base := base) (x := "check_part") F21 (ok_check_part T q_is_number F21) (PySem.W.mg_of X G a21) b21
  have q_weighed := Cal.mk' (P := l.prog) (w := w) (mg := mg) (base := base) (x := "weighed") F22 (ok_weighed T  F22) (PySem.W.mg_of X G a22) b22
  have q_either := Cal.mk' (P := l.prog) (w := w) (mg := mg) (base := base) (x := "either") F23 (ok_either T q_check_both q_check_part q_weighed q_made F23) (PySem.W.mg_of X G a23) b23
  have q_check_teller := Cal.mk' (P := l.prog) (w := w) (mg := mg) (base := base) (x := "check_teller") F24 (ok_check_teller T q_is_teller F24) (PySem.W.mg_of X G a24) b24
  have q_ratio := Cal.mk' (P := l.prog) (w := w) (mg := mg) (base := base) (x := "ratio") F25 (ok_ratio T q_divisor F25) (PySem.W.mg_of X G a25) b25
  have q_guessing := Cal.mk' (P := l.prog) (w := w) (mg := mg) (base := base) (x := "guessing") F26 (ok_guessing T q_check_teller q_ratio F26) (PySem.W.mg_of X G a26) b26
  have q__law_less := Cal.mk' (P := l.prog) (w := w) (mg := mg) (base := base) (x := "_law_less") F27 (ok__law_less T  F27) (PySem.W.mg_of X G a27) b27
  have q__law_stakes := Cal.mk' (P := l.prog) (w := w) (mg := mg) (base := base) (x := "_law_stakes") F28 (ok__law_stakes T q__law_take F28) (PySem.W.mg_of X G a28) b28
  have q_are_stakes := Cal.mk' (P := l.prog) (w := w) (mg := mg) (base := base) (x := "are_stakes") F29 (ok_are_stakes T  F29) (PySem.W.mg_of X G a29) b29
  have q_are_stakes_for := Cal.mk' (P := l.prog) (w := w) (mg := mg) (base := base) (x := "are_stakes_for") F30 (ok_are_stakes_for T q_are_stakes F30) (PySem.W.mg_of X G a30) b30
  have q_check_stakes_for := Cal.mk' (P := l.prog) (w := w) (mg := mg) (base := base) (x := "check_stakes_for") F31 (ok_check_stakes_for T q_are_stakes_for F31) (PySem.W.mg_of X G a31) b31
  have q_sums_at := Cal.mk' (P := l.prog) (w := w) (mg := mg) (base := base) (x := "sums_at") F32 (ok_sums_at T  F32) (PySem.W.mg_of X G a32) b32
  have q_worth_told := Cal.mk' (P := l.prog) (w := w) (mg := mg) (base := base) (x := "worth_told") F33 (ok_worth_told T q_ratio q_sums_at q_columns_of F33) (PySem.W.mg_of X G a33) b33
  have q_worth := Cal.mk' (P := l.prog) (w := w) (mg := mg) (base := base) (x := "worth") F34 (ok_worth T q_check_teller q_check_stakes_for q_worth_told F34) (PySem.W.mg_of X G a34) b34
  have q_check_stakes := Cal.mk' (P := l.prog) (w := w) (mg := mg) (base := base) (x := "check_stakes") F35 (ok_check_stakes T q_are_stakes F35) (PySem.W.mg_of X G a35) b35
  have q_unheard := Cal.mk' (P := l.prog) (w := w) (mg := mg) (base := base) (x := "unheard") F36 (ok_unheard T q_check_stakes F36) (PySem.W.mg_of X G a36) b36
  have q_check_pair := Cal.mk' (P := l.prog) (w := w) (mg := mg) (base := base) (x := "check_pair") F37 (ok_check_pair T q_is_teller F37) (PySem.W.mg_of X G a37) b37
  have q_common_garblers := Cal.mk' (P := l.prog) (w := w) (mg := mg) (base := base) (x := "common_garblers") F38 (ok_common_garblers T  F38) (PySem.W.mg_of X G a38) b38
  have q_evened := Cal.mk' (P := l.prog) (w := w) (mg := mg) (base := base) (x := "evened") F39 (ok_evened T q_common_garblers F39) (PySem.W.mg_of X G a39) b39
  have q_equations := Cal.mk' (P := l.prog) (w := w) (mg := mg) (base := base) (x := "equations") F40 (ok_equations T q_evened F40) (PySem.W.mg_of X G a40) b40
  have q_direction_of_plain := Cal.mk' (P := l.prog) (w := w) (mg := mg) (base := base) (x := "direction_of_plain") F41 (ok_direction_of T q_common_tellers F41) (PySem.W.mg_of X G a41) b41
  have q_plain_of := Cal.mk' (P := l.prog) (w := w) (mg := mg) (base := base) (x := "plain_of") F42 (ok_plain_of T q_made q_direction_of_plain F42) (PySem.W.mg_of X G a42) b42
  have q_plain_told := Cal.mk' (P := l.prog) (w := w) (mg := mg) (base := base) (x := "plain_told") F43 (ok_plain_told T q_plain_of q_columns_of F43) (PySem.W.mg_of X G a43) b43
  have q_plain := Cal.mk' (P := l.prog) (w := w) (mg := mg) (base := base) (x := "plain") F44 (ok_plain T q_check_teller q_plain_told F44) (PySem.W.mg_of X G a44) b44
  have g45 := ok_Table_init (P := l.prog) (w := w) (mg := mg) (base := base) T TC_Table F45
  have k_Table : CalK l.prog w K mg base 1 C_Table "Table" ["self", "matrix", "rest"] _ := ⟨⟨_, _, g45, ⟨mk_Table, a45, i45, kc_Table⟩, PySem.W.mg_of X G aC_Table, b45⟩⟩
  have g46 := ok_Table_column (P := l.prog) (w := w) (mg := mg) (base := base) T TC_Table F46
  have m_Table_column : CalM l.prog w K mg base 1 C_Table "column" ["self"] _ := ⟨⟨_, _, g46, ⟨a46, i46, k46⟩, b46⟩⟩
  have g47 := ok_Table_cleared (P := l.prog) (w := w) (mg := mg) (base := base) T TC_Table F47
  have m_Table_cleared : CalM l.prog w K mg base 1 C_Table "cleared" ["self", "row", "own", "j"] _ := ⟨⟨_, _, g47, ⟨a47, i47, k47⟩, b47⟩⟩
  have g48 := ok_Table_exchange (P := l.prog) (w := w) (mg := mg) (base := base) T TC_Table m_Table_cleared F48
  have m_Table_exchange : CalM l.prog w K mg base 2 C_Table "exchange" ["self", "i", "j"] _ := ⟨⟨_, _, g48, ⟨a48, i48, k48⟩, b48⟩⟩
  have g49 := ok_Table_row (P := l.prog) (w := w) (mg := mg) (base := base) T TC_Table F49
  have m_Table_row : CalM l.prog w K mg base 1 C_Table "row" ["self", "j"] _ := ⟨⟨_, _, g49, ⟨a49, i49, k49⟩, b49⟩⟩
  have g50 := ok_Table_run (P := l.prog) (w := w) (mg := mg) (base := base) T TC_Table m_Table_column m_Table_exchange m_Table_row F50
  have m_Table_run : CalM l.prog w K mg base 3 C_Table "run" ["self"] _ := ⟨⟨_, _, g50, ⟨a50, i50, k50⟩, b50⟩⟩
  have q_solved := Cal.mk' (P := l.prog) (w := w) (mg := mg) (base := base) (x := "solved") F51 (ok_solved T TC_Table k_Table m_Table_run F51) (PySem.W.mg_of X G a51) b51
  have q_searched := Cal.mk' (P := l.prog) (w := w) (mg := mg) (base := base) (x := "searched") F52 (ok_searched T q_equations q_plain q_solved F52) (PySem.W.mg_of X G a52) b52
  have q_column_of := Cal.mk' (P := l.prog) (w := w) (mg := mg) (base := base) (x := "column_of") F53 (ok_column_of T  F53) (PySem.W.mg_of X G a53) b53
  have q_direction_of_order := Cal.mk' (P := l.prog) (w := w) (mg := mg) (base := base) (x := "direction_of_order") F54 (ok_direction_of_order T q_column_of q_common_garblers F54) (PySem.W.mg_of X G a54) b54
  have q_placed := Cal.mk' (P := l.prog) (w := w) (mg := mg) (base := base) (x := "placed") F55 (ok_placed T q_direction_of_order F55) (PySem.W.mg_of X G a55) b55
  have q_lowered_rows := Cal.mk' (P := l.prog) (w := w) (mg := mg) (base := base) (x := "lowered_rows") F56 (ok_lowered_rows T q_common_garblers F56) (PySem.W.mg_of X G a56) b56
  have q_widened := Cal.mk' (P := l.prog) (w := w) (mg := mg) (base := base) (x := "widened") F57 (ok_widened T q_placed q_lowered_rows q_common_garblers F57) (PySem.W.mg_of X G a57) b57
  have q_garbler_for := Cal.mk' (P := l.prog) (w := w) (mg := mg) (base := base) (x := "garbler_for") F58 (ok_garbler_for T q_check_pair q_searched q_widened F58) (PySem.W.mg_of X G a58) b58
  have q_no_less := Cal.mk' (P := l.prog) (w := w) (mg := mg) (base := base) (x := "no_less") F59 (ok_no_less T q_garbler_for F59) (PySem.W.mg_of X G a59) b59
  have q_are_stakes_against := Cal.mk' (P := l.prog) (w := w) (mg := mg) (base := base) (x := "are_stakes_against") F60 (ok_are_stakes_against T q_check_pair q_worth q_are_stakes F60) (PySem.W.mg_of X G a60) b60
  have q__law_sums := Cal.mk' (P := l.prog) (w := w) (mg := mg) (base := base) (x := "_law_sums") F61 (ok__law_sums T  F61) (PySem.W.mg_of X G a61) b61
  have q__law_columns := Cal.mk' (P := l.prog) (w := w) (mg := mg) (base := base) (x := "_law_columns") F62 (ok__law_columns T  F62) (PySem.W.mg_of X G a62) b62
  have q__law_worth := Cal.mk' (P := l.prog) (w := w) (mg := mg) (base := base) (x := "_law_worth") F63 (ok__law_worth T q__law_ratio q__law_sums q__law_columns F63) (PySem.W.mg_of X G a63) b63
  exact ok_law T q__law_take q__law_ratio q__law_teller q_beside q_either q_guessing q__law_less q__law_stakes q_worth q_unheard q_no_less q_are_stakes_against q__law_worth q__law_columns q__law_begun F64
theorem walk {l : PySem.W.OpenLaw} {q : Program} {loose : List Str} {XP : (Str → Option Value) → Heap → Prop} {YP : World → Heap → Prop} {d : DefRec} {K : Params → PySem.W.Frag} (hn : l.most = some 63) (hdf : d.params.defaults = [])
    (hY : ∀ (w : World) (h : Heap), YP w h → (K w.params).In h)
    (F : ∀ (w : World) (mg : Str → Option Value) (fa : Addr) (h : Heap), (K w.params).In h → h.Ns mainGlobals mg → mg d.name = some (.ref fa) →
      ∃ fd : FuncData, (∀ (s : Shared) (u : Value), BindsTo s fd ⟨[u], []⟩ [("script", u)]) ∧ ∀ base : Heap, (K w.params).In base → base.Ns mainGlobals mg → FnOk l.prog w (K w.params) mg base CX0 10 fa fd ["script"] (spL (K w.params))) :
    PySem.W.WalkO q loose XP YP l.row.toRowW d [] (fun f vs => PySem.call f vs) :=
  L2.walk_of (n := 63) (k := 10) (x := "script") (CX := fun _ => CX0) (sp := fun w => spL (K w.params)) hn (by decide) hdf ⟨rfl, by decide, by decide⟩ hY F (fun _ _ a ns hl hO hS => ⟨a, ns, rfl, lk_of hO hS, hl, fun _ => rfl⟩) fun _ _ _ _ _ z => z
end J
open PySem PySem.W PyProof.Rows
set_option maxRecDepth 100000 in
set_option maxHeartbeats 0 in
theorem PySem.Challenge.cw_toldnoless_k92_whole_across_the_greatest_holds : PySem.Challenge.rw_toldnoless_k92_whole_across_the_greatest.Holds := by
  w_on; o_law; k_head; (case hw => w_witness2)
  k_fill
  refine J.walk (l := PySem.Challenge.rw_toldnoless_k92_whole_across_the_greatest) rfl rfl (fun w h Y => PySem.W.kIn_of Y) ?F
  case F =>
    intro w mg fa h KX G hmg
    refine' J.all_mk KX G hmg ?aC_Table ?a0 ?l0 ?c0 ?k0 ?a1 ?l1 ?c1 ?k1 ?a2 ?l2 ?c2 ?k2 ?a3 ?l3 ?c3 ?k3 ?a4 ?l4 ?c4 ?k4 ?a5 ?l5 ?c5 ?k5 ?a6 ?l6 ?c6 ?k6 ?a7 ?l7 ?c7 ?k7 ?a8 ?l8 ?c8 ?k8 ?a9 ?l9 ?c9 ?k9 ?a10 ?l10 ?c10 ?k10 ?a11 ?l11 ?c11 ?k11 ?a12 ?l12 ?c12 ?k12 ?a13 ?l13 ?c13 ?k13 ?a14 ?l14 ?c14 ?k14 ?a15 ?l15 ?c15 ?k15 ?a16 ?l16 ?c16 ?k16 ?a17 ?l17 ?c17 ?k17 ?a18 ?l18 ?c18 ?k18 ?a19 ?l19 ?c19 ?k19 ?a20 ?l20 ?c20 ?k20 ?a21 ?l21 ?c21 ?k21 ?a22 ?l22 ?c22 ?k22 ?a23 ?l23 ?c23 ?k23 ?a24 ?l24 ?c24 ?k24 ?a25 ?l25 ?c25 ?k25 ?a26 ?l26 ?c26 ?k26 ?a27 ?l27 ?c27 ?k27 ?a28 ?l28 ?c28 ?k28 ?a29 ?l29 ?c29 ?k29 ?a30 ?l30 ?c30 ?k30 ?a31 ?l31 ?c31 ?k31 ?a32 ?l32 ?c32 ?k32 ?a33 ?l33 ?c33 ?k33 ?a34 ?l34 ?c34 ?k34 ?a35 ?l35 ?c35 ?k35 ?a36 ?l36 ?c36 ?k36 ?a37 ?l37 ?c37 ?k37 ?a38 ?l38 ?c38 ?k38 ?a39 ?l39 ?c39 ?k39 ?a40 ?l40 ?c40 ?k40 ?a41 ?l41 ?c41 ?k41 ?a42 ?l42 ?c42 ?k42 ?a43 ?l43 ?c43 ?k43 ?a44 ?l44 ?c44 ?k44 ?a45 ?i45 ?l45 ?c45 ?k45 ?a46 ?i46 ?l46 ?c46 ?k46 ?a47 ?i47 ?l47 ?c47 ?k47 ?a48 ?i48 ?l48 ?c48 ?k48 ?a49 ?i49 ?l49 ?c49 ?k49 ?a50 ?i50 ?l50 ?c50 ?k50 ?a51 ?l51 ?c51 ?k51 ?a52 ?l52 ?c52 ?k52 ?a53 ?l53 ?c53 ?k53 ?a54 ?l54 ?c54 ?k54 ?a55 ?l55 ?c55 ?k55 ?a56 ?l56 ?c56 ?k56 ?a57 ?l57 ?c57 ?k57 ?a58 ?l58 ?c58 ?k58 ?a59 ?l59 ?c59 ?k59 ?a60 ?l60 ?c60 ?k60 ?a61 ?l61 ?c61 ?k61 ?a62 ?l62 ?c62 ?k62 ?a63 ?l63 ?c63 ?k63 ?a64 ?l64 ?c64 ?k64 ?pg_Table ?hd_Table ?po_Table ?sa_Table ?mk_Table ?kc_Table ?na_Table_many ?na_Table_scale ?na_Table_rows ?na_Table_base ?na_Table_costs ?n0 ?n1 ?n2 ?n3 ?n4 ?n5 ?z0 ?z1 ?z2 ?z3 ?z4 ?z5 ?z6 ?z7 ?z8 ?z9 ?z10 ?z11 ?z12 ?z13 ?z14 ?z15 ?z16
    (case aC_Table => k_is)
    (case a0 => k_is)
    (case l0 => k_is)
    (case c0 => k_is)
    (case k0 => k_is)
    (case a1 => k_is)
    (case l1 => k_is)
    (case c1 => k_is)
    (case k1 => k_is)
    (case a2 => k_is)
    (case l2 => k_is)
    (case c2 => k_is)
    (case k2 => k_is)
    (case a3 => k_is)
    (case l3 => k_is)
    (case c3 => k_is)
    (case k3 => k_is)
    (case a4 => k_is)
    (case l4 => k_is)
    (case c4 => k_is)
    (case k4 => k_is)
    (case a5 => k_is)
    (case l5 => k_is)
    (case c5 => k_is)
    (case k5 => k_is)
    (case a6 => k_is)
    (case l6 => k_is)
    (case c6 => k_is)
    (case k6 => k_is)
    (case a7 => k_is)
    (case l7 => k_is)
    (case c7 => k_is)
    (case k7 => k_is)
    (case a8 => k_is)
    (case l8 => k_is)
    (case c8 => k_is)
    (case k8 => k_is)
    (case a9 => k_is)
    (case l9 => k_is)
    (case c9 => k_is)
    (case k9 => k_is)
    (case a10 => k_is)
    (case l10 => k_is)
    (case c10 => k_is)
    (case k10 => k_is)
    (case a11 => k_is)
    (case l11 => k_is)
    (case c11 => k_is)
    (case k11 => k_is)
    (case a12 => k_is)
    (case l12 => k_is)
    (case c12 => k_is)
    (case k12 => k_is)
    (case a13 => k_is)
    (case l13 => k_is)
    (case c13 => k_is)
    (case k13 => k_is)
    (case a14 => k_is)
    (case l14 => k_is)
    (case c14 => k_is)
    (case k14 => k_is)
    (case a15 => k_is)
    (case l15 => k_is)
    (case c15 => k_is)
    (case k15 => k_is)
    (case a16 => k_is)
    (case l16 => k_is)
    (case c16 => k_is)
    (case k16 => k_is)
    (case a17 => k_is)
    (case l17 => k_is)
    (case c17 => k_is)
    (case k17 => k_is)
    (case a18 => k_is)
    (case l18 => k_is)
    (case c18 => k_is)
    (case k18 => k_is)
    (case a19 => k_is)
    (case l19 => k_is)
    (case c19 => k_is)
    (case k19 => k_is)
    (case a20 => k_is)
    (case l20 => k_is)
    (case c20 => k_is)
    (case k20 => k_is)
    (case a21 => k_is)
    (case l21 => k_is)
    (case c21 => k_is)
    (case k21 => k_is)
    (case a22 => k_is)
    (case l22 => k_is)
    (case c22 => k_is)
    (case k22 => k_is)
    (case a23 => k_is)
    (case l23 => k_is)
    (case c23 => k_is)
    (case k23 => k_is)
    (case a24 => k_is)
    (case l24 => k_is)
    (case c24 => k_is)
    (case k24 => k_is)
    (case a25 => k_is)
    (case l25 => k_is)
    (case c25 => k_is)
    (case k25 => k_is)
    (case a26 => k_is)
    (case l26 => k_is)
    (case c26 => k_is)
    (case k26 => k_is)
    (case a27 => k_is)
    (case l27 => k_is)
    (case c27 => k_is)
    (case k27 => k_is)
    (case a28 => k_is)
    (case l28 => k_is)
    (case c28 => k_is)
    (case k28 => k_is)
    (case a29 => k_is)
    (case l29 => k_is)
    (case c29 => k_is)
    (case k29 => k_is)
    (case a30 => k_is)
    (case l30 => k_is)
    (case c30 => k_is)
    (case k30 => k_is)
    (case a31 => k_is)
    (case l31 => k_is)
    (case c31 => k_is)
    (case k31 => k_is)
    (case a32 => k_is)
    (case l32 => k_is)
    (case c32 => k_is)
    (case k32 => k_is)
    (case a33 => k_is)
    (case l33 => k_is)
    (case c33 => k_is)
    (case k33 => k_is)
    (case a34 => k_is)
    (case l34 => k_is)
    (case c34 => k_is)
    (case k34 => k_is)
    (case a35 => k_is)
    (case l35 => k_is)
    (case c35 => k_is)
    (case k35 => k_is)
    (case a36 => k_is)
    (case l36 => k_is)
    (case c36 => k_is)
    (case k36 => k_is)
    (case a37 => k_is)
    (case l37 => k_is)
    (case c37 => k_is)
    (case k37 => k_is)
    (case a38 => k_is)
    (case l38 => k_is)
    (case c38 => k_is)
    (case k38 => k_is)
    (case a39 => k_is)
    (case l39 => k_is)
    (case c39 => k_is)
    (case k39 => k_is)
    (case a40 => k_is)
    (case l40 => k_is)
    (case c40 => k_is)
    (case k40 => k_is)
    (case a41 => k_is)
    (case l41 => k_is)
    (case c41 => k_is)
    (case k41 => k_is)
    (case a42 => k_is)
    (case l42 => k_is)
    (case c42 => k_is)
    (case k42 => k_is)
    (case a43 => k_is)
    (case l43 => k_is)
    (case c43 => k_is)
    (case k43 => k_is)
    (case a44 => k_is)
    (case l44 => k_is)
    (case c44 => k_is)
    (case k44 => k_is)
    (case a45 => k_is)
    (case i45 => k_is)
    (case l45 => k_is)
    (case c45 => k_is)
    (case k45 => k_is)
    (case a46 => k_is)
    (case i46 => k_is)
    (case l46 => k_is)
    (case c46 => k_is)
    (case k46 => k_is)
    (case a47 => k_is)
    (case i47 => k_is)
    (case l47 => k_is)
    (case c47 => k_is)
    (case k47 => k_is)
    (case a48 => k_is)
    (case i48 => k_is)
    (case l48 => k_is)
    (case c48 => k_is)
    (case k48 => k_is)
    (case a49 => k_is)
    (case i49 => k_is)
    (case l49 => k_is)
    (case c49 => k_is)
    (case k49 => k_is)
    (case a50 => k_is)
    (case i50 => k_is)
    (case l50 => k_is)
    (case c50 => k_is)
    (case k50 => k_is)
    (case a51 => k_is)
    (case l51 => k_is)
    (case c51 => k_is)
    (case k51 => k_is)
    (case a52 => k_is)
    (case l52 => k_is)
    (case c52 => k_is)
    (case k52 => k_is)
    (case a53 => k_is)
    (case l53 => k_is)
    (case c53 => k_is)
    (case k53 => k_is)
    (case a54 => k_is)
    (case l54 => k_is)
    (case c54 => k_is)
    (case k54 => k_is)
    (case a55 => k_is)
    (case l55 => k_is)
    (case c55 => k_is)
    (case k55 => k_is)
    (case a56 => k_is)
    (case l56 => k_is)
    (case c56 => k_is)
    (case k56 => k_is)
    (case a57 => k_is)
    (case l57 => k_is)
    (case c57 => k_is)
    (case k57 => k_is)
    (case a58 => k_is)
    (case l58 => k_is)
    (case c58 => k_is)
    (case k58 => k_is)
    (case a59 => k_is)
    (case l59 => k_is)
    (case c59 => k_is)
    (case k59 => k_is)
    (case a60 => k_is)
    (case l60 => k_is)
    (case c60 => k_is)
    (case k60 => k_is)
    (case a61 => k_is)
    (case l61 => k_is)
    (case c61 => k_is)
    (case k61 => k_is)
    (case a62 => k_is)
    (case l62 => k_is)
    (case c62 => k_is)
    (case k62 => k_is)
    (case a63 => k_is)
    (case l63 => k_is)
    (case c63 => k_is)
    (case k63 => k_is)
    (case a64 => k_is)
    (case l64 => k_is)
    (case c64 => k_is)
    (case k64 => k_is)
    (case pg_Table => k_is)
    (case hd_Table => k_is)
    (case po_Table => k_is)
    (case sa_Table => k_is)
    (case mk_Table => k_is)
    (case kc_Table => k_is)
    (case na_Table_many => k_is)
    (case na_Table_scale => k_is)
    (case na_Table_rows => k_is)
    (case na_Table_base => k_is)
    (case na_Table_costs => k_is)
    (case n0 => k_is)
    (case n1 => k_is)
    (case n2 => k_is)
    (case n3 => k_is)
    (case n4 => k_is)
    (case n5 => k_is)
    (case z0 => k_is)
    (case z1 => k_is)
    (case z2 => k_is)
    (case z3 => k_is)
    (case z4 => k_is)
    (case z5 => k_is)
    (case z6 => k_is)
    (case z7 => k_is)
    (case z8 => k_is)
    (case z9 => k_is)
    (case z10 => k_is)
    (case z11 => k_is)
    (case z12 => k_is)
    (case z13 => k_is)
    (case z14 => k_is)
    (case z15 => k_is)
    (case z16 => k_is)

