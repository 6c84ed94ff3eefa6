import PyProof.Rows.All
import Wide.All
import OpenK.AllK
import Wide.FinOn
import HandS.ForMost
import HandS.Wide
import HandS.IsInst
import HandS.DictComp
import HandS.TupAny
import HandS.Zip
import KE.SortData
import KE.DataCmp
import HandS.Deep
import PySem.Challenge.RW_rungstock_k15_costs_told
set_option Elab.async false
set_option linter.all false
set_option maxRecDepth 100000
set_option maxHeartbeats 1000000
/-! DL: a layer of data over HandS: the slots of a def as pure data (PyData), lists and dicts that are owned by a slot,
 things of a kind of one's own (ghosts); each construct's reading is «the mirror (a partial function of the slots) tells the answer». -/
namespace DL
open PySem PySem.Spec PyProof.Rows L2

abbrev D := PyData
section
variable {K : PySem.W.Frag} {F F' H H' : Hp}
theorem sqt_mono {a : Addr} {xs : List V} (e : Same F F') (h : SqT K F a xs) : SqT K F' a xs := by
  rcases h with (h | ⟨o, h⟩) | h
  · exact .inl (.inl (e _ _ h))
  · exact .inl (.inr ⟨o, e _ _ h⟩)
  · exact .inr h
end
def kD : Key → D
  | .inl i => .int i
  | .inr x => .str x
mutual
/-- the value v is the datum d, by what stands in F -/
inductive Dq (K : PySem.W.Frag) (F : Hp) : V → D → Prop
  | non : Dq K F .non .none
  | bl (b : Bool) : Dq K F (.bl b) (.bool b)
  | int (i : Int) : Dq K F (.int i) (.int i)
  | str (x : Str) : Dq K F (.str x) (.str x)
  | lst {a : Addr} {xs : List V} {ds : List D} : SqL K F a xs → DqAll K F xs ds → Dq K F (.ref a) (.list ds)
  | tup {a : Addr} {xs : List V} {ds : List D} : SqT K F a xs → DqAll K F xs ds → Dq K F (.ref a) (.tuple ds)
  | dct {a : Addr} {o : Obj} {kvs : List (Key × V)} {ds : List (D × D)} : F a = some (.frz o (.dK kvs)) → DqKv K F kvs ds → Dq K F (.ref a) (.dict ds)
inductive DqAll (K : PySem.W.Frag) (F : Hp) : List V → List D → Prop
  | nil : DqAll K F [] []
  | cons {v : V} {vs : List V} {d : D} {ds : List D} : Dq K F v d → DqAll K F vs ds → DqAll K F (v :: vs) (d :: ds)
inductive DqKv (K : PySem.W.Frag) (F : Hp) : List (Key × V) → List (D × D) → Prop
  | nil : DqKv K F [] []
  | cons {k : Key} {v : V} {vs : List (Key × V)} {kd d : D} {ds : List (D × D)} : kd = kD k → Dq K F v d → DqKv K F vs ds → DqKv K F ((k, v) :: vs) ((kd, d) :: ds)
end
section
variable {K : PySem.W.Frag} {F F' H H' : Hp}
mutual
theorem dp_mono (e : Same F F') : ∀ (d : D) (v : V), Dq K F v d → Dq K F' v d
  | .none, _, h => by cases h; exact .non
  | .bool b, _, h => by cases h; exact .bl b
  | .int i, _, h => by cases h; exact .int i
  | .str x, _, h => by cases h; exact .str x
  | .list ds, _, h => by
    cases h with
    | lst hs ha => exact .lst (e.seq hs) (dpa_mono e ds _ ha)
  | .tuple ds, _, h => by
    cases h with
    | tup hs ha => exact .tup (sqt_mono e hs) (dpa_mono e ds _ ha)
  | .dict ds, _, h => by
    cases h with
    | dct hs ha => exact .dct (e _ _ hs) (dpk_mono e ds _ ha)
theorem dpa_mono (e : Same F F') : ∀ (ds : List D) (vs : List V), DqAll K F vs ds → DqAll K F' vs ds
  | [], _, h => by cases h; exact .nil
  | d :: ds, _, h => by
    cases h with
    | cons h1 h2 => exact .cons (dp_mono e d _ h1) (dpa_mono e ds _ h2)
theorem dpk_mono (e : Same F F') : ∀ (ds : List (D × D)) (vs : List (Key × V)), DqKv K F vs ds → DqKv K F' vs ds
  | [], _, h => by cases h; exact .nil
  | (k, d) :: ds, _, h => by
    cases h with
    | cons h0 h1 h2 => exact .cons h0 (dp_mono e d _ h1) (dpk_mono e ds _ h2)
end
mutual
/-- what can be compared as data -/
theorem Dq.dp : ∀ (d : D) (v : V), Dq K F v d → d.canLay0 = true → L2.Dp K F v d
  | .none, _, h, _ => by cases h; exact .non
  | .bool b, _, h, _ => by cases h; exact .bl b
  | .int i, _, h, _ => by cases h; exact .int i
  | .str x, _, h, _ => by cases h; exact .str x
  | .list ds, _, h, c => by
    cases h with
    | lst hs ha => exact .lst hs (DqAll.dp ds _ ha (by simpa only [PyData.canLay0] using c))
  | .tuple ds, _, h, c => by
    cases h with
    | tup hs ha => exact .tup hs (DqAll.dp ds _ ha (by simpa only [PyData.canLay0] using c))
  | .dict ds, _, h, c => by simp [PyData.canLay0] at c
theorem DqAll.dp : ∀ (ds : List D) (vs : List V), DqAll K F vs ds → PyData.canLayAll0 ds = true → L2.DpAll K F vs ds
  | [], _, h, _ => by cases h; exact .nil
  | d :: ds, _, h, c => by
    have c' : d.canLay0 = true ∧ PyData.canLayAll0 ds = true := by simpa [PyData.canLayAll0] using c
    cases h with
    | cons h1 h2 => exact .cons (Dq.dp d _ h1 c'.1) (DqAll.dp ds _ h2 c'.2)
end
theorem Dq.mono {v : V} {d : D} (h : Dq K F v d) (e : Same F F') : Dq K F' v d := dp_mono e d v h
theorem DqAll.mono {vs : List V} {ds : List D} (h : DqAll K F vs ds) (e : Same F F') : DqAll K F' vs ds := dpa_mono e ds vs h
theorem DqAll.length : ∀ {vs : List V} {ds : List D}, DqAll K F vs ds → vs.length = ds.length
  | _, _, .nil => rfl
  | _, _, .cons _ t => congrArg (· + 1) (DqAll.length t)
theorem DqAll.get : ∀ {vs : List V} {ds : List D} {i : Nat} {d : D}, DqAll K F vs ds → ds[i]? = some d → ∃ v, vs[i]? = some v ∧ Dq K F v d
  | _, _, _, _, .nil, e => by simp at e
  | _, _, 0, _, .cons r _, e => by simp at e; subst e; exact ⟨_, rfl, r⟩
  | _, _, i + 1, d, .cons _ t, e => by
    obtain ⟨v, h1, h2⟩ := DqAll.get (i := i) (d := d) t (by simpa using e)
    exact ⟨v, by simpa using h1, h2⟩
theorem DqAll.getV : ∀ {vs : List V} {ds : List D} {i : Nat} {v : V}, DqAll K F vs ds → vs[i]? = some v → ∃ d, ds[i]? = some d ∧ Dq K F v d
  | _, _, _, _, .nil, e => by simp at e
  | _, _, 0, _, .cons r _, e => by simp at e; subst e; exact ⟨_, rfl, r⟩
  | _, _, i + 1, d, .cons _ t, e => by
    obtain ⟨v, h1, h2⟩ := DqAll.getV (i := i) (v := d) t (by simpa using e)
    exact ⟨v, by simpa using h1, h2⟩
theorem DqAll.append : ∀ {vs ws : List V} {ds es : List D}, DqAll K F vs ds → DqAll K F ws es → DqAll K F (vs ++ ws) (ds ++ es)
  | _, _, _, _, .nil, s => s
  | _, _, _, _, .cons r t, s => .cons r (DqAll.append t s)
theorem DqAll.take : ∀ {vs : List V} {ds : List D} (n : Nat), DqAll K F vs ds → DqAll K F (vs.take n) (ds.take n)
  | _, _, 0, _ => .nil
  | _, _, _ + 1, .nil => .nil
  | _, _, n + 1, .cons r t => .cons r (DqAll.take n t)
theorem DqAll.drop : ∀ {vs : List V} {ds : List D} (n : Nat), DqAll K F vs ds → DqAll K F (vs.drop n) (ds.drop n)
  | _, _, 0, r => r
  | _, _, _ + 1, .nil => .nil
  | _, _, n + 1, .cons _ t => DqAll.drop n t
theorem DqAll.set {v : V} {d : D} (r : Dq K F v d) : ∀ {vs : List V} {ds : List D} (i : Nat), DqAll K F vs ds → DqAll K F (vs.set i v) (ds.set i d)
  | _, _, _, .nil => .nil
  | _, _, 0, .cons _ t => .cons r t
  | _, _, i + 1, .cons q t => .cons q (DqAll.set r i t)
theorem dpa_ints : ∀ (ns : List Int), DqAll K F (ns.map V.int) (ns.map PyData.int)
  | [] => .nil
  | n :: r => .cons (.int n) (dpa_ints r)
theorem dpa_ints_inv : ∀ {ns : List Int} {vs : List V}, DqAll K F vs (ns.map PyData.int) → vs = ns.map V.int
  | [], _, h => by cases h; rfl
  | n :: r, _, h => by
    cases h with
    | cons h1 h2 =>
      cases h1
      rw [dpa_ints_inv h2]
      rfl
end

/-! ### slots -/
/-- a thing that a slot owns: a list of data, a dict of data by keys, a ghost -/
inductive Ow (G : Type) where
  | seq (ds : List D) | dct (kvs : List (Key × D)) | gho (g : G)
inductive Sl (G : Type) where
  | un | val (d : D) | own (o : Ow G)

inductive KDp (K : PySem.W.Frag) (F : Hp) : List (Key × V) → List (Key × D) → Prop
  | nil : KDp K F [] []
  | cons {k : Key} {v : V} {d : D} {vs : List (Key × V)} {ds : List (Key × D)} : Dq K F v d → KDp K F vs ds → KDp K F ((k, v) :: vs) ((k, d) :: ds)
theorem KDp.mono {K : PySem.W.Frag} {F F' : Hp} (e : Same F F') : ∀ {vs : List (Key × V)} {ds : List (Key × D)}, KDp K F vs ds → KDp K F' vs ds
  | _, _, .nil => .nil
  | _, _, .cons h t => .cons (Dq.mono h e) (KDp.mono e t)

/-- what a ghost is in the heap: F what stands for good, P its own addresses -/
structure GS (K : PySem.W.Frag) (G : Type) where
  rep : Hp → Hp → (Addr → Prop) → V → G → Prop
  mono : ∀ {F H : Hp} {P : Addr → Prop} {v : V} {g : G} {F' H' : Hp} {P' : Addr → Prop}, rep F H P v g → Same F F' → (∀ b o, P b → H b = some o → H' b = some o) → (∀ b, P b → P' b) → rep F' H' P' v g
def noG (K : PySem.W.Frag) : GS K Empty where
  rep := fun _ _ _ _ _ => False
  mono := fun h _ _ _ => h

variable {G : Type} {K : PySem.W.Frag}
def OwOk (S : GS K G) (F H : Hp) (P : Addr → Prop) (v : V) : Ow G → Prop
  | .seq ds => ∃ a xs, v = .ref a ∧ P a ∧ H a = some (.lst xs) ∧ DqAll K F xs ds
  | .dct kvs => ∃ a vs, v = .ref a ∧ P a ∧ H a = some (.dK vs) ∧ KDp K F vs kvs
  | .gho g => S.rep F H P v g
theorem OwOk.mono {S : GS K G} {F H F' H' : Hp} {P P' : Addr → Prop} {v : V} : ∀ {o : Ow G}, OwOk S F H P v o → Same F F' → (∀ b x, P b → H b = some x → H' b = some x) → (∀ b, P b → P' b) → OwOk S F' H' P' v o
  | .seq _, ⟨a, xs, e, p, h, r⟩, ef, eh, ep => ⟨a, xs, e, ep a p, eh a _ p h, r.mono ef⟩
  | .dct _, ⟨a, xs, e, p, h, r⟩, ef, eh, ep => ⟨a, xs, e, ep a p, eh a _ p h, r.mono ef⟩
  | .gho _, h, ef, eh, ep => S.mono h ef eh ep
def SlOk (S : GS K G) (F H : Hp) (P : Addr → Prop) (x : Option V) : Sl G → Prop
  | .un => True
  | .val d => ∃ v, x = some v ∧ Dq K F v d
  | .own o => ∃ v, x = some v ∧ OwOk S F H P v o
theorem SlOk.mono {S : GS K G} {F H F' H' : Hp} {P P' : Addr → Prop} {x : Option V} : ∀ {s : Sl G}, SlOk S F H P x s → Same F F' → (∀ b x, P b → H b = some x → H' b = some x) → (∀ b, P b → P' b) → SlOk S F' H' P' x s
  | .un, _, _, _, _ => trivial
  | .val _, ⟨v, e, r⟩, ef, _, _ => ⟨v, e, r.mono ef⟩
  | .own _, ⟨v, e, r⟩, ef, eh, ep => ⟨v, e, r.mono ef eh ep⟩

abbrev Om := Addr → Option Nat
/-- the slots' data ρ in σ, H: F stands for good, ω tells whose each owned address is; pv: the arguments, which an owned parameter stays -/
structure RE (S : GS K G) (pv : List V) (F H : Hp) (ω : Om) (σ : L2.St) (ρ : List (Sl G)) : Prop where
  len : σ.length = ρ.length
  fh : Same F H
  wf : ∀ b i, ω b = some i → F b = none ∧ H b ≠ none
  slot : ∀ i s, ρ[i]? = some s → ∃ x, σ[i]? = some x ∧ SlOk S F H (fun b => ω b = some i) x s
  fix : ∀ (i : Nat) v o, pv[i]? = some v → ρ[i]? = some (.own o) → σ[i]? = some (some v)
/-- how the heaps may go on -/
structure Ev (F H : Hp) (ω : Om) (F' H' : Hp) (ω' : Om) : Prop where
  ff : Same F F'
  fn : ∀ b o, F' b = some o → F b = some o ∨ H b = none ∨ ω b ≠ none
  hh : ∀ b o, H b = some o → ω b = none → H' b = some o
  wn : ∀ b, ω' b ≠ none → ω b ≠ none ∨ H b = none
  dom : ∀ b, H b ≠ none → H' b ≠ none
theorem Ev.refl {F H : Hp} {ω : Om} : Ev F H ω F H ω := ⟨Same.refl F, fun _ _ h => .inl h, fun _ _ h _ => h, fun _ h => .inl h, fun _ h => h⟩
theorem Ev.trans {F H F1 H1 F2 H2 : Hp} {ω ω1 ω2 : Om} (a : Ev F H ω F1 H1 ω1) (b : Ev F1 H1 ω1 F2 H2 ω2) : Ev F H ω F2 H2 ω2 where
  ff := a.ff.trans b.ff
  fn := fun c o h => by
    rcases b.fn c o h with h | h | h
    · exact a.fn c o h
    · refine .inr (.inl ?_)
      cases e : H c with
      | none => rfl
      | some u => exact absurd h (a.dom c (by rw [e]; simp))
    · rcases a.wn c h with h | h
      · exact .inr (.inr h)
      · exact .inr (.inl h)
  hh := fun c o h w => by
    refine b.hh c o (a.hh c o h w) ?_
    cases e : ω1 c with
    | none => rfl
    | some u =>
      rcases a.wn c (by rw [e]; simp) with h1 | h1
      · exact absurd w h1
      · rw [h1] at h; cases h
  wn := fun c h => by
    rcases b.wn c h with h | h
    · exact a.wn c h
    · refine .inr ?_
      cases e : H c with
      | none => rfl
      | some u => exact absurd h (a.dom c (by rw [e]; simp))
  dom := fun c h => b.dom c (a.dom c h)
/-- new things alone, none of them owned -/
structure Al (F H F' H' : Hp) : Prop where
  ff : Same F F'
  fn : ∀ b o, F' b = some o → F b = some o ∨ H b = none
  hh : Same H H'
  fh : Same F' H'
theorem ne_none_of {H H' : Hp} (h : Same H H') {b : Addr} (n : H b ≠ none) : H' b ≠ none := by
  cases e : H b with
  | none => exact absurd e n
  | some o => rw [h b o e]; simp
theorem Al.refl {F H : Hp} (h : Same F H) : Al F H F H := ⟨Same.refl F, fun _ _ h => .inl h, Same.refl H, h⟩
theorem Al.ev {F H F' H' : Hp} {ω : Om} (a : Al F H F' H') : Ev F H ω F' H' ω :=
  ⟨a.ff, fun b o h => (a.fn b o h).imp id .inl, fun b o h _ => a.hh b o h, fun _ h => .inl h, fun _ h => ne_none_of a.hh h⟩
theorem same_new {H : Hp} {p : Addr} {o : HO} (h : H p = none) : Same H (upd H p o) := fun b x e => by
  rw [upd_ne (ne_of_none e h)]
  exact e
theorem same_upd2 {F H : Hp} {p : Addr} {o : HO} (h : Same F H) : Same (upd F p o) (upd H p o) := fun b x e => by
  by_cases hb : b = p
  · subst hb
    rw [upd_same] at e ⊢
    exact e
  · rw [upd_ne hb] at e ⊢
    exact h b x e
theorem Al.new {F H : Hp} {p : Addr} {o : HO} (h : Same F H) (hp : H p = none) : Al F H (upd F p o) (upd H p o) where
  ff := same_new (h.free hp)
  fn := fun b x e => by
    by_cases hb : b = p
    · subst hb
      exact .inr hp
    · rw [upd_ne hb] at e
      exact .inl e
  hh := same_new hp
  fh := same_upd2 h
theorem Al.trans {F H F1 H1 F2 H2 : Hp} (a : Al F H F1 H1) (b : Al F1 H1 F2 H2) : Al F H F2 H2 where
  ff := a.ff.trans b.ff
  fn := fun c o h => by
    rcases b.fn c o h with h | h
    · exact a.fn c o h
    · exact .inr (a.hh.free h)
  hh := a.hh.trans b.hh
  fh := b.fh
section
variable {S : GS K G} {pv : List V} {F H F' H' : Hp} {ω : Om} {σ : L2.St} {ρ : List (Sl G)}
theorem RE.al (r : RE S pv F H ω σ ρ) (a : Al F H F' H') : RE S pv F' H' ω σ ρ where
  len := r.len
  fh := a.fh
  wf := fun b i e => by
    obtain ⟨h1, h2⟩ := r.wf b i e
    refine ⟨?_, ne_none_of a.hh h2⟩
    cases q : F' b with
    | none => rfl
    | some o =>
      rcases a.fn b o q with z | z
      · rw [h1] at z; cases z
      · exact absurd z h2
  slot := fun i s e => by
    obtain ⟨x, h1, h2⟩ := r.slot i s e
    exact ⟨x, h1, h2.mono a.ff (fun b o _ h => a.hh b o h) fun _ h => h⟩
  fix := r.fix
theorem RE.lt (r : RE S pv F H ω σ ρ) {i : Nat} {s : Sl G} (h : ρ[i]? = some s) : i < σ.length := by
  obtain ⟨h1, _⟩ := List.getElem?_eq_some_iff.mp h
  rw [r.len]
  exact h1
/-- a slot takes a datum -/
theorem RE.setV (r : RE S pv F H ω σ ρ) {i : Nat} {v : V} {d : D} (h : Dq K F v d) : RE S pv F H ω (σ.set i (some v)) (ρ.set i (.val d)) where
  len := by rw [List.length_set, List.length_set]; exact r.len
  fh := r.fh
  wf := r.wf
  slot := fun j s e => by
    by_cases hj : i = j
    · subst hj
      have hl : i < ρ.length := by
        obtain ⟨h1, _⟩ := List.getElem?_eq_some_iff.mp e
        rw [List.length_set] at h1
        exact h1
      rw [List.getElem?_set_self hl] at e
      cases e
      exact ⟨some v, List.getElem?_set_self (by rw [r.len]; exact hl), v, rfl, h⟩
    · rw [List.getElem?_set_ne hj] at e ⊢
      exact r.slot j s e
  fix := fun j v' o h1 e => by
    by_cases hj : i = j
    · subst hj
      have hl : i < ρ.length := by
        obtain ⟨h1, _⟩ := List.getElem?_eq_some_iff.mp e
        rw [List.length_set] at h1
        exact h1
      rw [List.getElem?_set_self hl] at e
      cases e
    · rw [List.getElem?_set_ne hj] at e ⊢
      exact r.fix j v' o h1 e
/-- a slot takes what is owned and waits (its mark: the number of slots) -/
theorem RE.setO (r : RE S pv F H ω σ ρ) {i : Nat} {v : V} {o : Ow G} (hp : pv[i]? = none) (h : OwOk S F H (fun b => ω b = some σ.length) v o) :
    RE S pv F H (fun b => if ω b = some σ.length then some i else ω b) (σ.set i (some v)) (ρ.set i (.own o)) where
  len := by rw [List.length_set, List.length_set]; exact r.len
  fh := r.fh
  wf := fun b j e => by
    by_cases hb : ω b = some σ.length
    · exact r.wf b _ hb
    · rw [if_neg hb] at e
      exact r.wf b _ e
  slot := fun j s e => by
    by_cases hj : i = j
    · subst hj
      have hl : i < ρ.length := by
        obtain ⟨h1, _⟩ := List.getElem?_eq_some_iff.mp e
        rw [List.length_set] at h1
        exact h1
      rw [List.getElem?_set_self hl] at e
      cases e
      refine ⟨some v, List.getElem?_set_self (by rw [r.len]; exact hl), v, rfl, h.mono (Same.refl F) (fun _ _ _ h => h) fun b hb => ?_⟩
      show (if ω b = some σ.length then some i else ω b) = some i
      rw [if_pos hb]
    · rw [List.getElem?_set_ne hj] at e ⊢
      obtain ⟨x, h1, h2⟩ := r.slot j s e
      refine ⟨x, h1, h2.mono (Same.refl F) (fun _ _ _ h => h) fun b hb => ?_⟩
      have hl := r.lt e
      show (if ω b = some σ.length then some i else ω b) = some j
      rw [if_neg (by rw [hb]; intro z; cases z; exact absurd hl (Nat.lt_irrefl _))]
      exact hb
  fix := fun j v' o h1 e => by
    by_cases hj : i = j
    · subst hj
      rw [hp] at h1
      cases h1
    · rw [List.getElem?_set_ne hj] at e ⊢
      exact r.fix j v' o h1 e
theorem Ev.setO {n i : Nat} : Ev F H ω F H (fun b => if ω b = some n then some i else ω b) :=
  ⟨Same.refl F, fun _ _ h => .inl h, fun _ _ h _ => h, fun b h => by
    by_cases hb : ω b = some n
    · exact .inl (by rw [hb]; simp)
    · exact .inl (by rw [if_neg hb] at h; exact h), fun _ h => h⟩
/-- a slot is forgotten -/
theorem RE.drop (r : RE S pv F H ω σ ρ) (i : Nat) (x : Option V) : RE S pv F H ω (σ.set i x) (ρ.set i .un) where
  len := by rw [List.length_set, List.length_set]; exact r.len
  fh := r.fh
  wf := r.wf
  slot := fun j s e => by
    by_cases hj : i = j
    · subst hj
      have hl : i < ρ.length := by
        obtain ⟨h1, _⟩ := List.getElem?_eq_some_iff.mp e
        rw [List.length_set] at h1
        exact h1
      rw [List.getElem?_set_self hl] at e
      cases e
      exact ⟨x, List.getElem?_set_self (by rw [r.len]; exact hl), trivial⟩
    · rw [List.getElem?_set_ne hj] at e ⊢
      exact r.slot j s e
  fix := fun j v' o h1 e => by
    by_cases hj : i = j
    · subst hj
      have hl : i < ρ.length := by
        obtain ⟨h1, _⟩ := List.getElem?_eq_some_iff.mp e
        rw [List.length_set] at h1
        exact h1
      rw [List.getElem?_set_self hl] at e
      cases e
    · rw [List.getElem?_set_ne hj] at e ⊢
      exact r.fix j v' o h1 e
/-- what a slot owns is written at one place -/
theorem RE.wr (r : RE S pv F H ω σ ρ) {i : Nat} {v : V} {o1 o2 : Ow G} {a : Addr} {u : HO} (h1 : ρ[i]? = some (.own o1)) (hv : σ[i]? = some (some v)) (ha : ω a = some i)
    (h2 : OwOk S F (upd H a u) (fun b => ω b = some i) v o2) : RE S pv F (upd H a u) ω σ (ρ.set i (.own o2)) ∧ Ev F H ω F (upd H a u) ω := by
  obtain ⟨fa, na⟩ := r.wf a i ha
  refine ⟨⟨by rw [List.length_set]; exact r.len, fun b o e => ?_, fun b j e => ?_, fun j s e => ?_, fun j v' o h3 e => ?_⟩, Same.refl F, fun _ _ h => .inl h, fun b o h w => ?_, fun _ h => .inl h, fun b h => ?_⟩
  · have hb : b ≠ a := fun z => by rw [z, fa] at e; cases e
    rw [upd_ne hb]
    exact r.fh b o e
  · obtain ⟨q1, q2⟩ := r.wf b j e
    refine ⟨q1, ?_⟩
    by_cases hb : b = a
    · subst hb; rw [upd_same]; simp
    · rw [upd_ne hb]; exact q2
  · by_cases hj : i = j
    · subst hj
      have hl : i < ρ.length := (List.getElem?_eq_some_iff.mp h1).1
      rw [List.getElem?_set_self hl] at e
      cases e
      exact ⟨some v, hv, v, rfl, h2⟩
    · rw [List.getElem?_set_ne hj] at e
      obtain ⟨x, q1, q2⟩ := r.slot j s e
      refine ⟨x, q1, q2.mono (Same.refl F) (fun b o hb h => ?_) fun _ h => h⟩
      have hba : b ≠ a := fun z => by
        rw [z] at hb
        rw [ha] at hb
        cases hb
        exact hj rfl
      rw [upd_ne hba]
      exact h
  · by_cases hj : i = j
    · subst hj
      rw [hv, ← r.fix i v' o1 h3 h1, hv]
    · rw [List.getElem?_set_ne hj] at e
      exact r.fix j v' o h3 e
  · have hb : b ≠ a := fun z => by rw [z, ha] at w; cases w
    rw [upd_ne hb]
    exact h
  · by_cases hb : b = a
    · subst hb; rw [upd_same]; simp
    · rw [upd_ne hb]; exact h
/-- a list that a slot owns stands from now on for good -/
theorem RE.frz (r : RE S pv F H ω σ ρ) {i : Nat} {ds : List D} {a : Addr} {xs : List V} (ha : ω a = some i) (hH : H a = some (.lst xs)) (hs : DqAll K F xs ds) (hv : σ[i]? = some (some (.ref a))) :
    RE S pv (upd F a (.lst xs)) H (fun b => if b = a then none else ω b) σ (ρ.set i (.val (.list ds))) ∧ Ev F H ω (upd F a (.lst xs)) H (fun b => if b = a then none else ω b) ∧ Dq K (upd F a (.lst xs)) (.ref a) (.list ds) := by
  obtain ⟨fa, na⟩ := r.wf a i ha
  have ff : Same F (upd F a (.lst xs)) := same_new fa
  have dp : Dq K (upd F a (.lst xs)) (.ref a) (.list ds) := .lst (.of upd_same) (hs.mono ff)
  refine ⟨⟨by rw [List.length_set]; exact r.len, fun b o e => ?_, fun b j e => ?_, fun j s e => ?_, fun j v' o h3 e => ?_⟩, ⟨ff, fun b o h => ?_, fun _ _ h _ => h, fun b h => ?_, fun _ h => h⟩, dp⟩
  · by_cases hb : b = a
    · subst hb; rw [upd_same] at e; cases e; exact hH
    · rw [upd_ne hb] at e; exact r.fh b o e
  · by_cases hb : b = a
    · rw [if_pos hb] at e; cases e
    · rw [if_neg hb] at e
      rw [upd_ne hb]
      exact r.wf b j e
  · by_cases hj : i = j
    · subst hj
      have hl : i < ρ.length := by
        obtain ⟨h1, _⟩ := List.getElem?_eq_some_iff.mp e
        rw [List.length_set] at h1
        exact h1
      rw [List.getElem?_set_self hl] at e
      cases e
      exact ⟨_, hv, _, rfl, dp⟩
    · rw [List.getElem?_set_ne hj] at e
      obtain ⟨x, q1, q2⟩ := r.slot j s e
      refine ⟨x, q1, q2.mono ff (fun _ _ _ h => h) fun b hb => ?_⟩
      have hba : b ≠ a := fun z => by
        rw [z] at hb
        rw [ha] at hb
        cases hb
        exact hj rfl
      show (if b = a then none else ω b) = some j
      rw [if_neg hba]
      exact hb
  · by_cases hj : i = j
    · subst hj
      have hl : i < ρ.length := by
        obtain ⟨h1, _⟩ := List.getElem?_eq_some_iff.mp e
        rw [List.length_set] at h1
        exact h1
      rw [List.getElem?_set_self hl] at e
      cases e
    · rw [List.getElem?_set_ne hj] at e
      exact r.fix j v' o h3 e
  · by_cases hb : b = a
    · subst hb; exact .inr (.inr (by rw [ha]; simp))
    · rw [upd_ne hb] at h; exact .inl h
  · by_cases hb : b = a
    · rw [if_pos hb] at h; exact absurd rfl h
    · rw [if_neg hb] at h; exact .inl h
end
end DL
set_option Elab.async false
set_option linter.all false
set_option maxRecDepth 100000
set_option maxHeartbeats 1000000
namespace DL
open PySem PySem.Spec PyProof.Rows L2
variable {G : Type}

/-! ### mirrors -/
abbrev M (G α : Type) := List (Sl G) → Option (α × List (Sl G))
section
variable {α β : Type}
def mret (a : α) : M G α := fun ρ => some (a, ρ)
def mbnd (f : M G α) (k : α → M G β) : M G β := fun ρ => match f ρ with
  | none => none
  | some (a, ρ') => k a ρ'
def mlft (o : Option α) : M G α := fun ρ => match o with
  | none => none
  | some a => some (a, ρ)
end
def rd (i : Nat) : M G D := fun ρ => match ρ[i]? with
  | some (.val d) => some (d, ρ)
  | some (.own (.seq ds)) => some (.list ds, ρ.set i (.val (.list ds)))
  | _ => none

variable {K : PySem.W.Frag}
section
variable {α β γ δ : Type} (S : GS K G) (pv : List V)
def XF (R : Hp → Hp → (Addr → Prop) → β → α → Prop) (F : Hp) (f : M G α) (σ : L2.St) (H : Hp) (Q : β → Hp → Prop) : Prop :=
  ∃ ω ρ, RE S pv F H ω σ ρ ∧ ∃ a ρ', f ρ = some (a, ρ') ∧ ∀ F' H' ω' b, Ev F H ω F' H' ω' → RE S pv F' H' ω' σ ρ' → R F' H' (fun c => ω' c = some σ.length) b a → Q b H'
def RV (R : Hp → β → α → Prop) : Hp → Hp → (Addr → Prop) → β → α → Prop := fun F _ _ b a => R F b a
def tX (R : Hp → Hp → (Addr → Prop) → β → α → Prop) (f : M G α) : L2.St → Hp → (β → Hp → Prop) → Prop := fun σ H Q => ∃ F, XF S pv R F f σ H Q
def tD (f : M G D) : TE := tX S pv (RV (Dq K)) f
def tT (f : M G Bool) : TT := tX S pv (RV fun _ b a => b = a) f
def tA (f : M G (List D)) : TA := tX S pv (RV (DqAll K)) f
def tO (f : M G (Ow G)) : TE := tX S pv (fun F H P v o => OwOk S F H P v o) f
variable {S pv}
variable {F H : Hp} {σ : L2.St}
theorem XF.step {R2 : Hp → Hp → (Addr → Prop) → γ → δ → Prop} {R1 : Hp → β → α → Prop} {f : M G α} {k : α → M G δ} {Q : γ → Hp → Prop} {Q1 : β → Hp → Prop} (h : XF S pv R2 F (mbnd f k) σ H Q)
    (c : ∀ a b F1 H1, Same F F1 → R1 F1 b a → XF S pv R2 F1 (k a) σ H1 Q → Q1 b H1) : XF S pv (RV R1) F f σ H Q1 := by
  obtain ⟨ω, ρ, re, a2, ρ2, e, q⟩ := h
  unfold mbnd at e
  cases e1 : f ρ with
  | none => rw [e1] at e; cases e
  | some p =>
    obtain ⟨a, ρ1⟩ := p
    rw [e1] at e
    refine ⟨ω, ρ, re, a, ρ1, e1, fun F1 H1 ω1 b ev re1 r1 => ?_⟩
    exact c a b F1 H1 ev.ff r1 ⟨ω1, ρ1, re1, a2, ρ2, e, fun F2 H2 ω2 b2 ev2 re2 r2 => q F2 H2 ω2 b2 (ev.trans ev2) re2 r2⟩
theorem XF.last {R : Hp → β → α → Prop} {o : Option α} {Q : β → Hp → Prop} (h : XF S pv (RV R) F (mlft o) σ H Q) : ∃ a, o = some a ∧ Same F H ∧ ∀ F' H' b, Al F H F' H' → R F' b a → Q b H' := by
  obtain ⟨ω, ρ, re, a, ρ', e, q⟩ := h
  unfold mlft at e
  cases o with
  | none => cases e
  | some a2 =>
    cases e
    exact ⟨a, rfl, re.fh, fun F' H' b al r => q F' H' ω b al.ev (re.al al) r⟩
theorem XF.ret {R : Hp → β → α → Prop} {a : α} {Q : β → Hp → Prop} (h : XF S pv (RV R) F (mret a) σ H Q) : Same F H ∧ ∀ F' H' b, Al F H F' H' → R F' b a → Q b H' := by
  obtain ⟨ω, ρ, re, a, ρ', e, q⟩ := h
  cases e
  exact ⟨re.fh, fun F' H' b al r => q F' H' ω b al.ev (re.al al) r⟩
theorem XF.ret1 {R : Hp → β → α → Prop} {a : α} {Q : β → Hp → Prop} {b : β} (h : XF S pv (RV R) F (mret a) σ H Q) (r : R F b a) : Q b H :=
  (XF.ret h).2 F H b (Al.refl (XF.ret h).1) r
end

section
variable {X : Cx}
theorem pe_weak {e : Expr} {t t' : TE} (h : PE X e t) (w : ∀ σ H Q, t' σ H Q → t σ H Q) : PE X e t' := ⟨fun pins s σ H Q I q => h.run pins s σ H Q I (w σ H Q q)⟩
theorem pt_weak {e : Expr} {t t' : TT} (h : PT X e t) (w : ∀ σ H Q, t' σ H Q → t σ H Q) : PT X e t' := ⟨fun pins s σ H Q I q => h.run pins s σ H Q I (w σ H Q q)⟩
theorem pw_weak {e : Expr} {t t' : TT} (h : PW X e t) (w : ∀ σ H Q, t' σ H Q → t σ H Q) : PW X e t' := ⟨fun wh pins s σ H Q I q => h.run wh pins s σ H Q I (w σ H Q q)⟩
theorem pa_weak {es : List Expr} {t t' : TA} (h : PA X es t) (w : ∀ σ H Q, t' σ H Q → t σ H Q) : PA X es t' := ⟨fun p pins s σ H Q I q => h.run p pins s σ H Q I (w σ H Q q)⟩
theorem ps_weak {st : Stmt} {t t' : TS} (h : PS X st t) (w : ∀ En σ H, t' En σ H → t En σ H) : PS X st t' := ⟨fun pins s σ H En I q => h.run pins s σ H En I (w En σ H q)⟩
theorem pss_weak {st : List Stmt} {t t' : TS} (h : PSs X st t) (w : ∀ En σ H, t' En σ H → t En σ H) : PSs X st t' := ⟨fun pins s σ H En I q => h.run pins s σ H En I (w En σ H q)⟩
end

section
variable {X : Cx} {S : GS X.K G} {pv : List V} {e a b : Expr} {fa fb : M G D} {pos : Pos}
/-! ### expressions -/
theorem dv_c {v : V} {d : D} (h : PE X e (tC v)) (r : ∀ F, Dq X.K F v d) : PE X e (tD S pv (mret d)) := pe_weak h fun σ H Q ⟨F, q⟩ => q.ret1 (r F)
theorem dv_int {i j pos} : PE X (.Constant (.int i) j pos) (tD S pv (mret (.int i))) := dv_c pe_int fun _ => .int i
theorem dv_bl {b j pos} : PE X (.Constant (.bool b) j pos) (tD S pv (mret (.bool b))) := dv_c pe_bl fun _ => .bl b
theorem dv_non {j pos} : PE X (.Constant .none j pos) (tD S pv (mret .none)) := dv_c pe_non fun _ => .non
theorem dv_str {x j pos} : PE X (.Constant (.str x) j pos) (tD S pv (mret (.str x))) := dv_c pe_str fun _ => .str x
theorem dv_var {i : Nat} (h : PE X e (tVar i)) : PE X e (tD S pv (rd i)) := pe_weak h fun σ H Q ⟨F, q⟩ => by
  obtain ⟨ω, ρ, re, a, ρ', e, q⟩ := q
  unfold rd at e
  split at e
  · rename_i d hd
    cases e
    obtain ⟨x, h1, v, rfl, h2⟩ := re.slot i _ hd
    exact ⟨v, h1, q F H ω v .refl re h2⟩
  · rename_i ds hd
    cases e
    obtain ⟨x, h1, v, rfl, a, xs, rfl, ha, hH, hs⟩ := re.slot i _ hd
    obtain ⟨re2, ev, dp⟩ := re.frz ha hH hs h1
    exact ⟨_, h1, q _ _ _ _ ev re2 dp⟩
  · cases e
/-- an operation of two values: by the values' data -/
def DOp (K : PySem.W.Frag) (r : R2) (g : D → D → Option D) : Prop :=
  ∀ F H x y dx dy d (Q : VK), Same F H → Dq K F x dx → Dq K F y dy → g dx dy = some d → (∀ F' H' v, Al F H F' H' → Dq K F' v d → Q v H') → r x y H Q
theorem dv_op {r : R2} {g : D → D → Option D} (h : PE X e (tOp r (tD S pv fa) (tD S pv fb))) (hd : DOp X.K r g) : PE X e (tD S pv (mbnd fa fun x => mbnd fb fun y => mlft (g x y))) :=
  pe_weak h fun σ H Q ⟨F, q⟩ => ⟨F, q.step fun x v F1 H1 s1 r1 q1 => ⟨F1, q1.step fun y u F2 H2 s2 r2 q2 => by
    obtain ⟨d, e, sf, q3⟩ := q2.last
    exact hd F2 H2 v u x y d Q sf (r1.mono s2) r2 e fun F' H' v al r => q3 F' H' v al r⟩⟩
def DUn (K : PySem.W.Frag) (r : V → Hp → VK → Prop) (g : D → Option D) : Prop :=
  ∀ F H x dx d (Q : VK), Same F H → Dq K F x dx → g dx = some d → (∀ F' H' v, Al F H F' H' → Dq K F' v d → Q v H') → r x H Q
theorem dv_un {r : V → Hp → VK → Prop} {g : D → Option D} (h : PE X e (tUn r (tD S pv fa))) (hd : DUn X.K r g) : PE X e (tD S pv (mbnd fa fun x => mlft (g x))) :=
  pe_weak h fun σ H Q ⟨F, q⟩ => ⟨F, q.step fun x v F1 H1 s1 r1 q1 => by
    obtain ⟨d, e, sf, q3⟩ := q1.last
    exact hd F1 H1 v x d Q sf r1 e fun F' H' v al r => q3 F' H' v al r⟩
/-- a call of a built-in -/
def DCall (K : PySem.W.Frag) (r : List V → Hp → VK → Prop) (g : List D → Option D) : Prop :=
  ∀ F H vs ds d (Q : VK), Same F H → DqAll K F vs ds → g ds = some d → (∀ F' H' v, Al F H F' H' → Dq K F' v d → Q v H') → r vs H Q
theorem dv_call {r : List V → Hp → VK → Prop} {g : List D → Option D} {fs : M G (List D)} (h : PE X e (tCB r (tA S pv fs))) (hd : DCall X.K r g) : PE X e (tD S pv (mbnd fs fun x => mlft (g x))) :=
  pe_weak h fun σ H Q ⟨F, q⟩ => ⟨F, q.step fun x v F1 H1 s1 r1 q1 => by
    obtain ⟨d, e, sf, q3⟩ := q1.last
    exact hd F1 H1 v x d Q sf r1 e fun F' H' v al r => q3 F' H' v al r⟩
/-! arguments -/
theorem da_nil : PA X [] (tA S pv (mret [])) := pa_weak pa_nil fun σ H Q ⟨F, q⟩ => q.ret1 .nil
def mcons (fa : M G D) (fs : M G (List D)) : M G (List D) := mbnd fa fun x => mbnd fs fun xs => mret (x :: xs)
theorem da_cons {es : List Expr} {fs : M G (List D)} (ha : PE X e (tD S pv fa)) (hr : PA X es (tA S pv fs)) (hs : starEach (e :: es) X.env = (false, eval e X.env) :: starEach es X.env := by rfl) :
    PA X (e :: es) (tA S pv (mcons fa fs)) :=
  pa_weak (pa_cons ha hr hs) fun σ H Q ⟨F, q⟩ => ⟨F, q.step fun x v F1 H1 s1 r1 q1 => ⟨F1, q1.step fun y u F2 H2 s2 r2 q2 => q2.ret1 (.cons (r1.mono s2) r2)⟩⟩
/-! tuples, lists -/
def mtup (fs : M G (List D)) : M G D := mbnd fs fun ds => mlft (if ds.length ≤ sizeLine then some (.tuple ds) else none)
def mlst (fs : M G (List D)) : M G D := mbnd fs fun ds => mlft (if ds.length ≤ sizeLine then some (.list ds) else none)
theorem dv_tup {fs : M G (List D)} (h : PE X e (tTup (tA S pv fs))) : PE X e (tD S pv (mtup fs)) :=
  pe_weak h fun σ H Q ⟨F, q⟩ => ⟨F, q.step fun x v F1 H1 s1 r1 q1 => by
    obtain ⟨d, e, sf, q3⟩ := q1.last
    by_cases hl : x.length ≤ sizeLine
    · rw [if_pos hl] at e
      cases e
      refine ⟨by rw [r1.length]; exact hl, fun p hp => q3 _ _ _ (Al.new sf hp) (.tup (.of upd_same) (r1.mono (same_new (sf.free hp))))⟩
    · rw [if_neg hl] at e
      cases e⟩
theorem dv_lst {fs : M G (List D)} (h : PE X e (tLst (tA S pv fs))) : PE X e (tD S pv (mlst fs)) :=
  pe_weak h fun σ H Q ⟨F, q⟩ => ⟨F, q.step fun x v F1 H1 s1 r1 q1 => by
    obtain ⟨d, e, sf, q3⟩ := q1.last
    by_cases hl : x.length ≤ sizeLine
    · rw [if_pos hl] at e
      cases e
      refine ⟨by rw [r1.length]; exact hl, fun p hp => q3 _ _ _ (Al.new sf hp) (.lst (.of upd_same) (r1.mono (same_new (sf.free hp))))⟩
    · rw [if_neg hl] at e
      cases e⟩
/-- a list that its slot will own -/
def molst (fs : M G (List D)) : M G (Ow G) := mbnd fs fun ds => mlft (if ds.length ≤ sizeLine then some (.seq ds) else none)
/-- something new is owned and waits -/
theorem RE.newO {F H : Hp} {ω : Om} {σ : L2.St} {ρ : List (Sl G)} {p : Addr} {u : HO} (r : RE S pv F H ω σ ρ) (hp : H p = none) (n : Nat) (hn : σ.length ≤ n) :
    RE S pv F (upd H p u) (fun b => if b = p then some n else ω b) σ ρ ∧ Ev F H ω F (upd H p u) (fun b => if b = p then some n else ω b) := by
  refine ⟨⟨r.len, r.fh.trans (same_new hp), fun b i e => ?_, fun i s e => ?_, r.fix⟩, Same.refl F, fun _ _ h => .inl h, fun b o h _ => same_new hp b o h, fun b h => ?_, fun b h => ne_none_of (same_new hp) h⟩
  · by_cases hb : b = p
    · subst hb
      exact ⟨r.fh.free hp, by rw [upd_same]; simp⟩
    · rw [if_neg hb] at e
      rw [upd_ne hb]
      exact r.wf b i e
  · obtain ⟨x, h1, h2⟩ := r.slot i s e
    refine ⟨x, h1, h2.mono (Same.refl F) (fun b o _ h => same_new hp b o h) fun b hb => ?_⟩
    show (if b = p then some n else ω b) = some i
    rw [if_neg (fun z => ?_)]
    · exact hb
    · rw [z] at hb
      exact absurd hp (r.wf p i hb).2
  · by_cases hb : b = p
    · subst hb; exact .inr hp
    · rw [if_neg hb] at h; exact .inl h
theorem do_lst {fs : M G (List D)} (h : PE X e (tLst (tA S pv fs))) : PE X e (tO S pv (molst fs)) :=
  pe_weak h fun σ H Q ⟨F, q⟩ => ⟨F, q.step fun x v F1 H1 s1 r1 q1 => by
    obtain ⟨ω, ρ, re, a, ρ', e, q3⟩ := q1
    unfold mlft at e
    by_cases hl : x.length ≤ sizeLine
    · rw [if_pos hl] at e
      cases e
      refine ⟨by rw [r1.length]; exact hl, fun p hp => ?_⟩
      obtain ⟨re2, ev⟩ := re.newO (u := .lst v) hp σ.length (Nat.le_refl _)
      refine q3 _ _ _ _ ev re2 ⟨p, v, rfl, ?_, upd_same, r1⟩
      show (if p = p then some σ.length else ω p) = some σ.length
      rw [if_pos rfl]
    · rw [if_neg hl] at e
      cases e⟩
/-! and, or, not, if .. else -/
def mtest (f : M G D) : M G Bool := mbnd f fun d => mlft (match d with | .bool b => some b | _ => none)
theorem mtest_step {f : M G D} {F : Hp} {σ : L2.St} {H : Hp} {Q : Bool → Hp → Prop} (q : XF S pv (RV fun _ b a => b = a) F (mtest f) σ H Q) : XF S pv (RV (Dq X.K)) F f σ H fun x H1 => ∃ c, x = .bl c ∧ Q c H1 :=
  q.step fun x v F1 H1 s1 r1 q1 => by
    obtain ⟨d, e, sf, q3⟩ := q1.last
    cases x with
    | bool b =>
      cases e
      cases r1
      exact ⟨_, rfl, q3 F1 H1 _ (Al.refl sf) rfl⟩
    | _ => cases e
theorem dt_B {f : M G D} (h : PT X e (tB (tD S pv f))) : PT X e (tT S pv (mtest f)) := pt_weak h fun σ H Q ⟨F, q⟩ => ⟨F, mtest_step q⟩
theorem dt_T {f : M G D} (h : PT X e (tTest (tD S pv f))) : PT X e (tT S pv (mtest f)) := pt_weak h fun σ H Q ⟨F, q⟩ => ⟨F, mtest_step q⟩
/-- a comparison as a test -/
theorem dt_op {r : R2} {g : D → D → Option D} (h : PT X e (tTest (tOp r (tD S pv fa) (tD S pv fb)))) (hd : DOp X.K r g) : PT X e (tT S pv (mtest (mbnd fa fun x => mbnd fb fun y => mlft (g x y)))) :=
  pt_weak h fun σ H Q ⟨F, q⟩ => by
    have q' := mtest_step q
    exact ⟨F, q'.step fun x v F1 H1 s1 r1 q1 => ⟨F1, q1.step fun y u F2 H2 s2 r2 q2 => by
      obtain ⟨d, e, sf, q3⟩ := q2.last
      exact hd F2 H2 v u x y d _ sf (r1.mono s2) r2 e fun F' H' v al r => q3 F' H' v al r⟩⟩
def mand (f g : M G Bool) : M G Bool := mbnd f fun c => if c = true then g else mret false
def mor (f g : M G Bool) : M G Bool := mbnd f fun c => if c = true then mret true else g
def mnot (f : M G Bool) : M G Bool := mbnd f fun c => mret (!c)
theorem dw_and1 {f : M G Bool} (ha : PT X a (tT S pv f)) : PW X (.BoolOp .And [a] pos) (tT S pv f) := pw_and1 ha
theorem dw_or1 {f : M G Bool} (ha : PT X a (tT S pv f)) : PW X (.BoolOp .Or [a] pos) (tT S pv f) := pw_or1 ha
theorem dw_and {rest : List Expr} {f g : M G Bool} (ha : PT X a (tT S pv f)) (hb : PW X (.BoolOp .And (b :: rest) pos) (tT S pv g)) : PW X (.BoolOp .And (a :: b :: rest) pos) (tT S pv (mand f g)) :=
  pw_weak (pw_and ha hb) fun σ H Q ⟨F, q⟩ => ⟨F, q.step fun x v F1 H1 s1 r1 q1 => by
    cases r1
    cases x with
    | true => exact iteT ⟨F1, q1⟩
    | false => exact iteF (q1.ret1 rfl)⟩
theorem dw_or {rest : List Expr} {f g : M G Bool} (ha : PT X a (tT S pv f)) (hb : PW X (.BoolOp .Or (b :: rest) pos) (tT S pv g)) : PW X (.BoolOp .Or (a :: b :: rest) pos) (tT S pv (mor f g)) :=
  pw_weak (pw_or ha hb) fun σ H Q ⟨F, q⟩ => ⟨F, q.step fun x v F1 H1 s1 r1 q1 => by
    cases r1
    cases x with
    | true => exact iteT (q1.ret1 rfl)
    | false => exact iteF ⟨F1, q1⟩⟩
theorem dt_not {f : M G Bool} (ha : PT X a (tT S pv f)) : PT X (.UnaryOp .Not a pos) (tT S pv (mnot f)) :=
  pt_weak (pt_not ha) fun σ H Q ⟨F, q⟩ => ⟨F, q.step fun x v F1 H1 s1 r1 q1 => by
    cases r1
    exact q1.ret1 rfl⟩
def mif {α : Type} (c : M G Bool) (f g : M G α) : M G α := mbnd c fun b => if b = true then f else g
theorem dv_if {c : Expr} {fc : M G Bool} (hc : PT X c (tT S pv fc)) (ha : PE X a (tD S pv fa)) (hb : PE X b (tD S pv fb)) : PE X (.IfExp c a b pos) (tD S pv (mif fc fa fb)) :=
  pe_weak (pe_ifExp hc ha hb) fun σ H Q ⟨F, q⟩ => ⟨F, q.step fun x v F1 H1 s1 r1 q1 => by
    cases r1
    cases x with
    | true => exact iteT ⟨F1, q1⟩
    | false => exact iteF ⟨F1, q1⟩⟩
def mandV (f g : M G D) : M G D := mbnd f fun d => match d with | .bool true => g | .bool false => mret (.bool false) | _ => fun _ => none
def morV (f g : M G D) : M G D := mbnd f fun d => match d with | .bool false => g | .bool true => mret (.bool true) | _ => fun _ => none
def mnotV (f : M G D) : M G D := mbnd f fun d => match d with | .bool b => mret (.bool !b) | _ => fun _ => none
theorem XF.fail {α β : Type} {R : Hp → Hp → (Addr → Prop) → β → α → Prop} {F H : Hp} {σ : L2.St} {Q : β → Hp → Prop} {p : Prop} (h : XF S pv R F (fun _ => none) σ H Q) : p := by
  obtain ⟨ω, ρ, re, a, ρ', e, q⟩ := h
  cases e
theorem dv_and {rest : List Expr} (ha : PE X a (tD S pv fa)) (hb : PE X (.BoolOp .And (b :: rest) pos) (tD S pv fb)) : PE X (.BoolOp .And (a :: b :: rest) pos) (tD S pv (mandV fa fb)) :=
  pe_weak (pe_and ha hb) fun σ H Q ⟨F, q⟩ => ⟨F, q.step fun x v F1 H1 s1 r1 q1 => by
    cases x with
    | bool c =>
      cases r1
      cases c with
      | true => exact ⟨_, rfl, iteT ⟨F1, q1⟩⟩
      | false => exact ⟨_, rfl, iteF (q1.ret1 (.bl false))⟩
    | _ => exact XF.fail q1⟩
theorem dv_or {rest : List Expr} (ha : PE X a (tD S pv fa)) (hb : PE X (.BoolOp .Or (b :: rest) pos) (tD S pv fb)) : PE X (.BoolOp .Or (a :: b :: rest) pos) (tD S pv (morV fa fb)) :=
  pe_weak (pe_or ha hb) fun σ H Q ⟨F, q⟩ => ⟨F, q.step fun x v F1 H1 s1 r1 q1 => by
    cases x with
    | bool c =>
      cases r1
      cases c with
      | true => exact ⟨_, rfl, iteT (q1.ret1 (.bl true))⟩
      | false => exact ⟨_, rfl, iteF ⟨F1, q1⟩⟩
    | _ => exact XF.fail q1⟩
theorem dv_one {op} (h : PE X a (tD S pv fa)) : PE X (.BoolOp op [a] pos) (tD S pv fa) := pe_one h
theorem dv_not (ha : PE X a (tD S pv fa)) : PE X (.UnaryOp .Not a pos) (tD S pv (mnotV fa)) :=
  pe_weak (pe_not ha) fun σ H Q ⟨F, q⟩ => ⟨F, q.step fun x v F1 H1 s1 r1 q1 => by
    cases x with
    | bool c =>
      cases r1
      exact ⟨_, rfl, q1.ret1 (.bl _)⟩
    | _ => exact XF.fail q1⟩
/-- by truth -/
def dtru : D → Option Bool
  | .none => some false
  | .bool b => some b
  | .int i => some (i != 0)
  | .str y => if y.length ≤ sizeLine then some ((y.length : Int) != 0) else none
  | .list ds => some (!ds.isEmpty)
  | .tuple ds => some (!ds.isEmpty)
  | .dict _ => none
theorem tru_dp {F H : Hp} {v : V} {d : D} {b : Bool} (s : Same F H) (r : Dq X.K F v d) (e : dtru d = some b) : TruV X.K v H b := by
  cases r with
  | non => cases e; exact rfl
  | bl c => cases e; exact rfl
  | int i => cases e; exact rfl
  | str x =>
    simp only [dtru] at e
    by_cases hl : x.length ≤ sizeLine
    · rw [if_pos hl] at e
      cases e
      exact ⟨hl, rfl⟩
    · rw [if_neg hl] at e
      cases e
  | lst hs ha =>
    cases e
    exact .inl ⟨_, s.seq hs, by cases ha <;> rfl⟩
  | tup hs ha =>
    cases e
    exact .inr (.inl ⟨_, sqt_mono s hs, by cases ha <;> rfl⟩)
  | dct hs ha => cases e
def mtru (f : M G D) : M G Bool := mbnd f fun d => mlft (dtru d)
theorem dt_tru (ha : PE X e (tD S pv fa)) (he : ∀ whole, isTrue e X.env whole = (do let v ← whole; standAt e.pos; holding [v] (truthy v)) := by intro _; rfl) : PT X e (tT S pv (mtru fa)) :=
  pt_weak (pt_truth ha he) fun σ H Q ⟨F, q⟩ => ⟨F, q.step fun x v F1 H1 s1 r1 q1 => by
    obtain ⟨d, e, sf, q3⟩ := q1.last
    exact ⟨d, tru_dp sf r1 e, q3 F1 H1 d (Al.refl sf) rfl⟩⟩
end
end DL
set_option Elab.async false
set_option linter.all false
set_option maxRecDepth 100000
set_option maxHeartbeats 1000000
namespace DL
open PySem PySem.Spec PyProof.Rows L2
variable {G : Type}

/-! ### statements -/
inductive Out (G : Type) where
  | nx | bk | ct | rt (d : D) | ro (o : Ow G)
abbrev SM (G : Type) := M G (Out G)
section
variable {K : PySem.W.Frag} (S : GS K G) (pv : List V)
def Post (En : Ends) (F H : Hp) (ω : Om) (σ : L2.St) : Out G → Prop
  | .nx => En.nx σ H
  | .bk => En.bk σ H
  | .ct => En.ct σ H
  | .rt d => ∀ v, Dq K F v d → En.rt v H
  | .ro o => ∀ v, OwOk S F H (fun b => ω b = some σ.length) v o → En.rt v H
def SF (F : Hp) (f : SM G) (En : Ends) (σ : L2.St) (H : Hp) : Prop :=
  ∃ ω ρ, RE S pv F H ω σ ρ ∧ ∃ out ρ', f ρ = some (out, ρ') ∧ ∀ F' H' ω' σ', Ev F H ω F' H' ω' → RE S pv F' H' ω' σ' ρ' → σ'.length = σ.length → Post S En F' H' ω' σ' out
def tS (f : SM G) : TS := fun En σ H => ∃ F, SF S pv F f En σ H
def sseq (f g : SM G) : SM G := fun ρ => match f ρ with
  | some (.nx, ρ') => g ρ'
  | r => r
def sset (i : Nat) (f : M G D) : SM G := mbnd f fun d => fun ρ => some (.nx, ρ.set i (.val d))
def ssetO (np i : Nat) (f : M G (Ow G)) : SM G := mbnd f fun o => fun ρ => if np ≤ i then some (.nx, ρ.set i (.own o)) else none
def sret (f : M G D) : SM G := mbnd f fun d => mret (.rt d)
def sretO (f : M G (Ow G)) : SM G := mbnd f fun o => mret (.ro o)
def sexpr (f : M G D) : SM G := mbnd f fun _ => mret .nx
def sif (c : M G Bool) (f g : SM G) : SM G := mbnd c fun b => if b = true then f else g
def snx : SM G := mret .nx
def sbk : SM G := mret .bk
def sct : SM G := mret .ct
def snever : SM G := fun _ => none
end

section
variable {X : Cx} {S : GS X.K G} {pv : List V} {e a b : Expr} {st : Stmt} {rest : List Stmt} {pos : Pos}
theorem SF.post {f : SM G} {En En2 : Ends} {σ : L2.St} {H F : Hp} (h : SF S pv F f En σ H) (hc : ∀ (F' H' : Hp) (ω' : Om) (σ' : L2.St) (out : Out G), Post S En F' H' ω' σ' out → Post S En2 F' H' ω' σ' out) : SF S pv F f En2 σ H := by
  obtain ⟨ω, ρ, re, out, ρ', e, q⟩ := h
  exact ⟨ω, ρ, re, out, ρ', e, fun F' H' ω' σ' ev re' hl => hc _ _ _ _ _ (q F' H' ω' σ' ev re' hl)⟩
theorem dss_nil : PSs X [] (tS S pv snx) := pss_weak pss_nil fun En σ H ⟨F, ω, ρ, re, out, ρ', e, q⟩ => by
  cases e
  exact q F H ω σ .refl re rfl
theorem dss_cons {f g : SM G} (h1 : PS X st (tS S pv f)) (h2 : PSs X rest (tS S pv g)) : PSs X (st :: rest) (tS S pv (sseq f g)) :=
  pss_weak (pss_cons h1 h2) fun En σ H ⟨F, ω, ρ, re, out, ρ', e, q⟩ => by
    unfold sseq at e
    refine ⟨F, ω, ρ, re, ?_⟩
    cases e1 : f ρ with
    | none => rw [e1] at e; cases e
    | some p =>
      obtain ⟨o1, ρ1⟩ := p
      rw [e1] at e
      refine ⟨o1, ρ1, rfl, fun F1 H1 ω1 σ1 ev1 re1 hl1 => ?_⟩
      cases o1 with
      | nx => exact ⟨F1, ω1, ρ1, re1, out, ρ', e, fun F2 H2 ω2 σ2 ev2 re2 hl2 => q F2 H2 ω2 σ2 (ev1.trans ev2) re2 (hl2.trans hl1)⟩
      | bk => cases e; exact q F1 H1 ω1 σ1 ev1 re1 hl1
      | ct => cases e; exact q F1 H1 ω1 σ1 ev1 re1 hl1
      | rt d => cases e; exact q F1 H1 ω1 σ1 ev1 re1 hl1
      | ro o => cases e; exact q F1 H1 ω1 σ1 ev1 re1 hl1
theorem dss_one {f : SM G} (h1 : PS X st (tS S pv f)) : PSs X [st] (tS S pv f) := pss_one h1
theorem XF.elim {α β : Type} {R : Hp → Hp → (Addr → Prop) → β → α → Prop} {F H : Hp} {σ : L2.St} {Q : β → Hp → Prop} {f : M G α} (ω : Om) (ρ : List (Sl G)) (re : RE S pv F H ω σ ρ) (a : α) (ρ' : List (Sl G)) (e : f ρ = some (a, ρ'))
    (q : ∀ F' H' ω' b, Ev F H ω F' H' ω' → RE S pv F' H' ω' σ ρ' → R F' H' (fun c => ω' c = some σ.length) b a → Q b H') : XF S pv R F f σ H Q := ⟨ω, ρ, re, a, ρ', e, q⟩
theorem mbnd_some {α β : Type} {f : M G α} {k : α → M G β} {ρ : List (Sl G)} {r : β × List (Sl G)} (e : mbnd f k ρ = some r) : ∃ a ρ1, f ρ = some (a, ρ1) ∧ k a ρ1 = some r := by
  unfold mbnd at e
  cases e1 : f ρ with
  | none => rw [e1] at e; cases e
  | some p => rw [e1] at e; exact ⟨p.1, p.2, rfl, e⟩
theorem ds_set {i : Nat} {f : M G D} (h : PS X st (tAsg (tD S pv f) (gName i))) : PS X st (tS S pv (sset i f)) :=
  ps_weak h fun En σ H ⟨F, ω, ρ, re, out, ρ', e, q⟩ => by
    obtain ⟨d, ρ1, e1, e2⟩ := mbnd_some e
    cases e2
    exact ⟨F, ω, ρ, re, d, ρ1, e1, fun F1 H1 ω1 v ev1 re1 r1 => q F1 H1 ω1 _ ev1 (re1.setV r1) (List.length_set ..)⟩
theorem ds_setO {i np : Nat} {f : M G (Ow G)} (h : PS X st (tAsg (tO S pv f) (gName i))) (hp : pv.length = np) : PS X st (tS S pv (ssetO np i f)) :=
  ps_weak h fun En σ H ⟨F, ω, ρ, re, out, ρ', e, q⟩ => by
    obtain ⟨o, ρ1, e1, e2⟩ := mbnd_some e
    by_cases hi : np ≤ i
    · rw [if_pos hi] at e2
      cases e2
      exact ⟨F, ω, ρ, re, o, ρ1, e1, fun F1 H1 ω1 v ev1 re1 r1 => q F1 H1 _ _ (ev1.trans Ev.setO) (re1.setO (List.getElem?_eq_none (by omega)) r1) (List.length_set ..)⟩
    · rw [if_neg hi] at e2
      cases e2
theorem ds_ret {f : M G D} (h : PS X st (tRet (tD S pv f))) : PS X st (tS S pv (sret f)) :=
  ps_weak h fun En σ H ⟨F, ω, ρ, re, out, ρ', e, q⟩ => by
    obtain ⟨d, ρ1, e1, e2⟩ := mbnd_some e
    cases e2
    exact ⟨F, ω, ρ, re, d, _, e1, fun F1 H1 ω1 v ev1 re1 r1 => q F1 H1 ω1 σ ev1 re1 rfl v r1⟩
theorem ds_retO {f : M G (Ow G)} (h : PS X st (tRet (tO S pv f))) : PS X st (tS S pv (sretO f)) :=
  ps_weak h fun En σ H ⟨F, ω, ρ, re, out, ρ', e, q⟩ => by
    obtain ⟨d, ρ1, e1, e2⟩ := mbnd_some e
    cases e2
    exact ⟨F, ω, ρ, re, d, _, e1, fun F1 H1 ω1 v ev1 re1 r1 => q F1 H1 ω1 σ ev1 re1 rfl v r1⟩
theorem ds_retN {pos} : PS X (.Return none pos) (tS S pv (mret (.rt .none))) :=
  ps_weak ps_retN fun En σ H ⟨F, ω, ρ, re, out, ρ', e, q⟩ => by
    cases e
    exact q F H ω σ .refl re rfl .non .non
theorem ds_expr {f : M G D} (h : PS X st (tDrop (tD S pv f))) : PS X st (tS S pv (sexpr f)) :=
  ps_weak h fun En σ H ⟨F, ω, ρ, re, out, ρ', e, q⟩ => by
    obtain ⟨d, ρ1, e1, e2⟩ := mbnd_some e
    cases e2
    exact ⟨F, ω, ρ, re, d, _, e1, fun F1 H1 ω1 v ev1 re1 r1 => q F1 H1 ω1 σ ev1 re1 rfl⟩
theorem ds_if {c : Expr} {bs es : List Stmt} {fc : M G Bool} {f g : SM G} (hc : PT X c (tT S pv fc)) (ha : PSs X bs (tS S pv f)) (hb : PSs X es (tS S pv g)) : PS X (.If c bs es pos) (tS S pv (sif fc f g)) :=
  ps_weak (ps_if hc ha hb) fun En σ H ⟨F, ω, ρ, re, out, ρ', e, q⟩ => by
    obtain ⟨d, ρ1, e1, e2⟩ := mbnd_some e
    refine ⟨F, ω, ρ, re, d, ρ1, e1, fun F1 H1 ω1 v ev1 re1 r1 => ?_⟩
    cases r1
    cases d with
    | true => exact iteT ⟨F1, ω1, ρ1, re1, out, ρ', e2, fun F2 H2 ω2 σ2 ev2 re2 hl2 => q F2 H2 ω2 σ2 (ev1.trans ev2) re2 hl2⟩
    | false => exact iteF ⟨F1, ω1, ρ1, re1, out, ρ', e2, fun F2 H2 ω2 σ2 ev2 re2 hl2 => q F2 H2 ω2 σ2 (ev1.trans ev2) re2 hl2⟩
theorem ds_pass {pos} : PS X (.Pass pos) (tS S pv snx) := ps_weak ps_pass fun En σ H ⟨F, ω, ρ, re, out, ρ', e, q⟩ => by
  cases e
  exact q F H ω σ .refl re rfl
theorem ds_doc {x j pos pos'} : PS X (.Expr (.Constant (.str x) j pos) pos') (tS S pv snx) := ps_weak ps_doc fun En σ H ⟨F, ω, ρ, re, out, ρ', e, q⟩ => by
  cases e
  exact q F H ω σ .refl re rfl
theorem ds_break {pos} : PS X (.Break pos) (tS S pv sbk) := ps_weak ps_break fun En σ H ⟨F, ω, ρ, re, out, ρ', e, q⟩ => by
  cases e
  exact q F H ω σ .refl re rfl
theorem ds_continue {pos} : PS X (.Continue pos) (tS S pv sct) := ps_weak ps_continue fun En σ H ⟨F, ω, ρ, re, out, ρ', e, q⟩ => by
  cases e
  exact q F H ω σ .refl re rfl
theorem ds_never : PS X st (tS S pv snever) := ps_weak ps_never fun En σ H ⟨F, ω, ρ, re, out, ρ', e, q⟩ => by cases e
theorem dss_never {sts : List Stmt} : PSs X sts (tS S pv snever) := pss_weak pss_never fun En σ H ⟨F, ω, ρ, re, out, ρ', e, q⟩ => by cases e
/-- x += e -/
def DIp (K : PySem.W.Frag) (ti : TIp) (g : D → D → Option D) : Prop :=
  ∀ F H x y dx dy d (Q : VK), Same F H → Dq K F x dx → Dq K F y dy → g dx dy = some d → (∀ F' H' v, Al F H F' H' → Dq K F' v d → Q v H') → ti x y H Q
def saug (i : Nat) (f : M G D) (g : D → D → Option D) : SM G := fun ρ => match ρ[i]? with
  | some (.val x) => mbnd f (fun y => mbnd (mlft (g x y)) fun d => fun ρ => some (.nx, ρ.set i (.val d))) ρ
  | _ => none
theorem ds_aug {i : Nat} {f : M G D} {ti : TIp} {g : D → D → Option D} (h : PS X st (tAug i (tD S pv f) ti)) (hd : DIp X.K ti g) : PS X st (tS S pv (saug i f g)) :=
  ps_weak h fun En σ H ⟨F, ω, ρ, re, out, ρ', e, q⟩ => by
    unfold saug at e
    split at e
    · rename_i x hx
      obtain ⟨y, ρ1, e1, e2⟩ := mbnd_some e
      obtain ⟨d, ρ2, e3, e4⟩ := mbnd_some e2
      obtain ⟨xo, h1, v, rfl, r⟩ := re.slot i _ hx
      refine ⟨v, h1, F, ω, ρ, re, y, ρ1, e1, fun F1 H1 ω1 u ev1 re1 r1 => ?_⟩
      unfold mlft at e3
      cases eg : g x y with
      | none => rw [eg] at e3; cases e3
      | some d' =>
        rw [eg] at e3
        cases e3
        cases e4
        exact hd F1 H1 v u x y d _ re1.fh (r.mono ev1.ff) r1 eg fun F2 H2 z al r2 => q F2 H2 ω1 _ (ev1.trans al.ev) ((re1.al al).setV r2) (List.length_set ..)
    · cases e
end

/-! ### targets -/
section
variable {K : PySem.W.Frag} (S : GS K G) (pv : List V)
/-- a target: how the slots turn; is: which may be stored -/
def DTg (g : TG) (is : List Nat) (tg : D → List (Sl G) → Option (List (Sl G))) : Prop :=
  ∀ F H ω σ ρ v d ρ1 (Q : L2.St → Hp → Prop), RE S pv F H ω σ ρ → Dq K F v d → tg d ρ = some ρ1 →
    (∀ σ1, RE S pv F H ω σ1 ρ1 → σ1.length = σ.length → (∀ k, k ∉ is → σ1[k]? = σ[k]?) → Q σ1 H) → g v σ H Q
def DTgs (g : TGs) (is : List Nat) (tg : List D → List (Sl G) → Option (List (Sl G))) : Prop :=
  ∀ F H ω σ ρ vs ds ρ1 (Q : L2.St → Hp → Prop), RE S pv F H ω σ ρ → DqAll K F vs ds → tg ds ρ = some ρ1 →
    (∀ σ1, RE S pv F H ω σ1 ρ1 → σ1.length = σ.length → (∀ k, k ∉ is → σ1[k]? = σ[k]?) → Q σ1 H) → g vs σ H Q
def gN (i : Nat) : D → List (Sl G) → Option (List (Sl G)) := fun d ρ => some (ρ.set i (.val d))
def gsNil : List D → List (Sl G) → Option (List (Sl G)) := fun ds ρ => match ds with | [] => some ρ | _ => none
def gsCons (t : D → List (Sl G) → Option (List (Sl G))) (u : List D → List (Sl G) → Option (List (Sl G))) : List D → List (Sl G) → Option (List (Sl G)) :=
  fun ds ρ => match ds with | [] => none | d :: r => match t d ρ with | none => none | some ρ1 => u r ρ1
def gT (n : Nat) (u : List D → List (Sl G) → Option (List (Sl G))) : D → List (Sl G) → Option (List (Sl G)) :=
  fun d ρ => match d with | .tuple ds => if ds.length = n then u ds ρ else none | _ => none
variable {S pv}
theorem dg_name (i : Nat) : DTg S pv (gName i) [i] (gN i) := fun F H ω σ ρ v d ρ1 Q re r e q => by
  cases e
  exact q _ (re.setV r) (List.length_set ..) fun k hk => List.getElem?_set_ne (fun z => hk (by rw [z]; exact List.mem_singleton_self _))
theorem dgs_nil : DTgs S pv gNil [] gsNil := fun F H ω σ ρ vs ds ρ1 Q re r e q => by
  cases r with
  | nil => cases e; exact ⟨rfl, q σ re rfl fun _ _ => rfl⟩
  | cons _ _ => cases e
theorem dgs_cons {g : TG} {gs : TGs} {is js : List Nat} {t u} (h1 : DTg S pv g is t) (h2 : DTgs S pv gs js u) : DTgs S pv (gCons g gs) (is ++ js) (gsCons t u) := fun F H ω σ ρ vs ds ρ1 Q re r e q => by
  cases r with
  | nil => cases e
  | cons r1 r2 =>
    rename_i v vs d ds
    unfold gsCons at e
    cases e1 : t d ρ with
    | none => simp only [e1] at e; cases e
    | some ρ2 =>
      simp only [e1] at e
      exact ⟨v, vs, rfl, h1 F H ω σ ρ v d ρ2 _ re r1 e1 fun σ1 re1 hl1 hk1 => h2 F H ω σ1 ρ2 vs ds ρ1 _ re1 r2 e fun σ2 re2 hl2 hk2 => q σ2 re2 (hl2.trans hl1) fun k hk => (hk2 k fun z => hk (List.mem_append_right _ z)).trans (hk1 k fun z => hk (List.mem_append_left _ z))⟩
theorem dg_tup {n : Nat} {gs : TGs} {is : List Nat} {u} (h : DTgs S pv gs is u) : DTg S pv (gTup K n gs) is (gT n u) := fun F H ω σ ρ v d ρ1 Q re r e q => by
  cases r with
  | tup hs ha =>
    rename_i a xs ds
    unfold gT at e
    by_cases hl : ds.length = n
    · simp only [hl, if_true] at e
      exact ⟨a, xs, rfl, sqt_mono re.fh hs, ha.length.trans hl, h F H ω σ ρ xs ds ρ1 Q re ha e q⟩
    · simp only [hl, if_false] at e
      cases e
  | _ => cases e
end
section
variable {X : Cx} {S : GS X.K G} {pv : List V} {st : Stmt}
/-- a, b = e -/
def sasg (f : M G D) (tg : D → List (Sl G) → Option (List (Sl G))) : SM G := mbnd f fun d => fun ρ => match tg d ρ with | none => none | some ρ1 => some (.nx, ρ1)
theorem ds_asg {f : M G D} {g : TG} {is : List Nat} {tg} (h : PS X st (tAsg (tD S pv f) g)) (hg : DTg S pv g is tg) : PS X st (tS S pv (sasg f tg)) :=
  ps_weak h fun En σ H ⟨F, ω, ρ, re, out, ρ', e, q⟩ => by
    obtain ⟨d, ρ1, e1, e2⟩ := mbnd_some e
    refine ⟨F, ω, ρ, re, d, ρ1, e1, fun F1 H1 ω1 v ev1 re1 r1 => ?_⟩
    cases e3 : tg d ρ1 with
    | none => simp only [e3] at e2; cases e2
    | some ρ2 =>
      simp only [e3] at e2
      cases e2
      exact hg F1 H1 ω1 σ ρ1 v d _ _ re1 r1 e3 fun σ2 re2 hl2 _ => q F1 H1 ω1 σ2 ev1 re2 hl2
end

/-! ### what is walked -/
structure Wk (K : PySem.W.Frag) (F : Hp) (J : It) (ds : List D) : Prop where
  go : ∀ i F1 H, Same F F1 → Same F1 H → i < ds.length → J.go i H
  stop : ∀ F1 H, Same F F1 → Same F1 H → J.stop ds.length H
  yld : ∀ i F1 H x H', Same F F1 → Same F1 H → i < ds.length → J.yld i H x H' → ∃ F' d, ds[i]? = some d ∧ Al F1 H F' H' ∧ Dq K F' x d
section
variable {K : PySem.W.Frag} (S : GS K G) (pv : List V)
def tI (f : M G (List D)) : TI := tX S pv (RV (Wk K)) f
def loopM (tg : D → List (Sl G) → Option (List (Sl G))) (body : SM G) : List D → SM G
  | [] => fun ρ => some (.nx, ρ)
  | d :: ds => fun ρ => match tg d ρ with
    | none => none
    | some ρ1 => match body ρ1 with
      | some (.nx, ρ2) => loopM tg body ds ρ2
      | some (.ct, ρ2) => loopM tg body ds ρ2
      | some (.bk, ρ2) => some (.nx, ρ2)
      | some (.rt d, ρ2) => some (.rt d, ρ2)
      | some (.ro o, ρ2) => some (.ro o, ρ2)
      | none => none
def sfor (it : M G (List D)) (tg : D → List (Sl G) → Option (List (Sl G))) (body : SM G) : SM G := mbnd it fun ds => loopM tg body ds
end
section
variable {X : Cx} {S : GS X.K G} {pv : List V} {st : Stmt} {tgE e : Expr}
theorem pi_weak {wi wi' : TI} (h : PI X tgE e wi) (w : ∀ σ H R, wi' σ H R → wi σ H R) : PI X tgE e wi' := ⟨fun pins s σ H R I q => h.run pins s σ H R I (w σ H R q)⟩
def mlist (f : M G D) : M G (List D) := mbnd f fun d => mlft (match d with | .list ds => some ds | _ => none)
def mtuple (f : M G D) : M G (List D) := mbnd f fun d => mlft (match d with | .tuple ds => some ds | _ => none)
theorem get_lt {ds : List D} {i : Nat} (h : i < ds.length) : ds[i]? = some ds[i] := List.getElem?_eq_getElem h
theorem di_list {f : M G D} (h : PI X tgE e (iList X.K (tD S pv f))) : PI X tgE e (tI S pv (mlist f)) :=
  pi_weak h fun σ H R ⟨F, q⟩ => ⟨F, q.step fun d v F1 H1 s1 r1 q1 => by
    obtain ⟨ds, e, sf, q3⟩ := q1.last
    cases r1 with
    | lst hs ha =>
      rename_i a xs ds'
      cases e
      refine ⟨a, rfl, ⟨xs, sf.seq hs⟩, q3 F1 H1 _ (Al.refl sf) ⟨fun i F2 H2 s2 s3 hi => ?_, fun F2 H2 s2 s3 => ?_, fun i F2 H2 x H' s2 s3 hi y => ?_⟩⟩
      · obtain ⟨v, h1, h2⟩ := ha.get (get_lt hi)
        exact ⟨xs, v, s3.seq (s2.seq hs), h1⟩
      · exact ⟨xs, s3.seq (s2.seq hs), by rw [ha.length]; exact Nat.le_refl _⟩
      · obtain ⟨rfl, y⟩ := y
        obtain ⟨v, h1, h2⟩ := ha.get (get_lt hi)
        have e := (y xs (s3.seq (s2.seq hs))).symm.trans h1
        cases e
        exact ⟨F2, _, get_lt hi, Al.refl s3, h2.mono s2⟩
    | _ => cases e⟩
theorem di_tup {f : M G D} (h : PI X tgE e (iTup X.K (tD S pv f))) : PI X tgE e (tI S pv (mtuple f)) :=
  pi_weak h fun σ H R ⟨F, q⟩ => ⟨F, q.step fun d v F1 H1 s1 r1 q1 => by
    obtain ⟨ds, e, sf, q3⟩ := q1.last
    cases r1 with
    | tup hs ha =>
      rename_i a xs ds'
      cases e
      refine ⟨a, rfl, ⟨xs, sqt_mono sf hs⟩, q3 F1 H1 _ (Al.refl sf) ⟨fun i F2 H2 s2 s3 hi => ?_, fun F2 H2 s2 s3 => ?_, fun i F2 H2 x H' s2 s3 hi y => ?_⟩⟩
      · obtain ⟨v, h1, h2⟩ := ha.get (get_lt hi)
        exact ⟨xs, v, sqt_mono s3 (sqt_mono s2 hs), h1⟩
      · exact ⟨xs, sqt_mono s3 (sqt_mono s2 hs), by rw [ha.length]; exact Nat.le_refl _⟩
      · obtain ⟨rfl, y⟩ := y
        obtain ⟨v, h1, h2⟩ := ha.get (get_lt hi)
        have e := (y xs (sqt_mono s3 (sqt_mono s2 hs))).symm.trans h1
        cases e
        exact ⟨F2, _, get_lt hi, Al.refl s3, h2.mono s2⟩
    | _ => cases e⟩
def rngD (lo : Int) (n : Nat) : List D := (List.range n).map fun (i : Nat) => PyData.int (lo + (i : Int))
theorem wk_range {F : Hp} (lo : Int) (n : Nat) : Wk X.K F (Itr lo n) (rngD lo n) := by
  have hl : (rngD lo n).length = n := by unfold rngD; rw [List.length_map, List.length_range]
  refine ⟨fun i F1 H _ _ hi => by rw [hl] at hi; exact hi, fun F1 H _ _ => by rw [hl]; exact Nat.le_refl _, fun i F1 H x H' _ s2 hi y => ?_⟩
  obtain ⟨rfl, rfl⟩ := y
  rw [hl] at hi
  refine ⟨F1, .int (lo + i), ?_, Al.refl s2, .int _⟩
  unfold rngD
  rw [List.getElem?_map, List.getElem?_range hi]
  rfl
def mrange1 (f : M G (List D)) : M G (List D) := mbnd f fun ds => mlft (match ds with | [.int j] => if -(2 ^ 62) ≤ j ∧ j < 2 ^ 62 then some (rngD 0 j.toNat) else none | _ => none)
def mrange2 (f : M G (List D)) : M G (List D) := mbnd f fun ds => mlft (match ds with | [.int i, .int j] => if -(2 ^ 62) ≤ i ∧ i < 2 ^ 62 ∧ -(2 ^ 62) ≤ j ∧ j < 2 ^ 62 then some (rngD i (j - i).toNat) else none | _ => none)
theorem di_range1 {f : M G (List D)} (h : PI X tgE e (iRng1 (tA S pv f))) : PI X tgE e (tI S pv (mrange1 f)) :=
  pi_weak h fun σ H R ⟨F, q⟩ => ⟨F, q.step fun d v F1 H1 s1 r1 q1 => by
    obtain ⟨ds, e, sf, q3⟩ := q1.last
    split at e
    · rename_i j
      by_cases hj : -(2 ^ 62) ≤ j ∧ j < 2 ^ 62
      · rw [if_pos hj] at e
        cases e
        cases r1 with
        | cons r1 r2 =>
          cases r1
          cases r2
          exact ⟨j, rfl, hj.1, hj.2, q3 F1 H1 _ (Al.refl sf) (wk_range 0 _)⟩
      · rw [if_neg hj] at e
        cases e
    · cases e⟩
theorem di_range2 {f : M G (List D)} (h : PI X tgE e (iRng2 (tA S pv f))) : PI X tgE e (tI S pv (mrange2 f)) :=
  pi_weak h fun σ H R ⟨F, q⟩ => ⟨F, q.step fun d v F1 H1 s1 r1 q1 => by
    obtain ⟨ds, e, sf, q3⟩ := q1.last
    split at e
    · rename_i i j
      by_cases hj : -(2 ^ 62) ≤ i ∧ i < 2 ^ 62 ∧ -(2 ^ 62) ≤ j ∧ j < 2 ^ 62
      · rw [if_pos hj] at e
        cases e
        cases r1 with
        | cons r1 r2 =>
          cases r1
          cases r2 with
          | cons r2 r3 =>
            cases r2
            cases r3
            exact ⟨i, j, rfl, hj, q3 F1 H1 _ (Al.refl sf) (wk_range i _)⟩
      · rw [if_neg hj] at e
        cases e
    · cases e⟩
/-- for -/
theorem ds_for {it : M G (List D)} {g : TG} {is : List Nat} {tg} {body : SM G} (h : PS X st (tFor (tI S pv it) g (tS S pv body))) (hg : DTg S pv g is tg) : PS X st (tS S pv (sfor it tg body)) :=
  ps_weak h fun En σ H ⟨F, ω, ρ, re, out, ρ', e, q⟩ => by
    obtain ⟨ds, ρ1, e1, e2⟩ := mbnd_some e
    refine ⟨F, ω, ρ, re, ds, ρ1, e1, fun F1 H1 ω1 J ev1 re1 wk => ?_⟩
    refine ⟨fun i m σ2 H2 => m = ds.length - i ∧ i ≤ ds.length ∧ ∃ F2 ω2 ρ2, Ev F1 H1 ω1 F2 H2 ω2 ∧ RE S pv F2 H2 ω2 σ2 ρ2 ∧ σ2.length = σ.length ∧ loopM tg body (ds.drop i) ρ2 = some (out, ρ'), ⟨ds.length, by simp, Nat.zero_le _, F1, ω1, ρ1, .refl, re1, rfl, e2⟩, ?_⟩
    rintro i m σ2 H2 ⟨rfl, hi, F2, ω2, ρ2, ev2, re2, hl2, el⟩
    by_cases hlt : i < ds.length
    · refine .inr ⟨wk.go i F2 H2 ev2.ff re2.fh hlt, fun σ3 H3 => ∃ F3 ω3 ρ3, Ev F1 H1 ω1 F3 H3 ω3 ∧ RE S pv F3 H3 ω3 σ3 ρ3 ∧ σ3.length = σ.length ∧ loopM tg body (ds.drop (i + 1)) ρ3 = some (out, ρ'), fun σ3 H3 hN => ⟨ds.length - (i + 1), by omega, rfl, hlt, hN⟩, fun x H3 hy => ?_⟩
      obtain ⟨F3, d, hd, al, dp⟩ := wk.yld i F2 H2 x H3 ev2.ff re2.fh hlt hy
      have hdr : ds.drop i = d :: ds.drop (i + 1) := by
        rw [List.drop_eq_getElem_cons hlt]
        rw [List.getElem?_eq_getElem hlt] at hd
        cases hd
        rfl
      rw [hdr] at el
      unfold loopM at el
      cases et : tg d ρ2 with
      | none => simp only [et] at el; cases el
      | some ρ3 =>
        simp only [et] at el
        refine hg F3 H3 ω2 σ2 ρ2 x d ρ3 _ (re2.al al) dp et fun σ3 re3 hl3 _ => ?_
        have ev3 := ev2.trans (al.ev (ω := ω2))
        cases eb : body ρ3 with
        | none => simp only [eb] at el; cases el
        | some p =>
          obtain ⟨o4, ρ4⟩ := p
          refine ⟨F3, ω2, ρ3, re3, o4, ρ4, eb, fun F4 H4 ω4 σ4 ev4 re4 hl4 => ?_⟩
          simp only [eb] at el
          have hl : σ4.length = σ.length := hl4.trans (hl3.trans hl2)
          cases o4 with
          | nx => exact ⟨F4, ω4, ρ4, ev3.trans ev4, re4, hl, el⟩
          | ct => exact ⟨F4, ω4, ρ4, ev3.trans ev4, re4, hl, el⟩
          | bk => cases el; exact q F4 H4 ω4 σ4 (ev1.trans (ev3.trans ev4)) re4 hl
          | rt d => cases el; exact q F4 H4 ω4 σ4 (ev1.trans (ev3.trans ev4)) re4 hl
          | ro o => cases el; exact q F4 H4 ω4 σ4 (ev1.trans (ev3.trans ev4)) re4 hl
    · have e : i = ds.length := by omega
      subst e
      rw [List.drop_length] at el
      cases el
      exact .inl ⟨wk.stop F2 H2 ev2.ff re2.fh, q F2 H2 ω2 σ2 (ev1.trans ev2) re2 hl2⟩
/-- while: n turns at most -/
def whileM (c : M G Bool) (body : SM G) : Nat → SM G
  | 0 => fun _ => none
  | n + 1 => fun ρ => match c ρ with
    | none => none
    | some (false, ρ1) => some (.nx, ρ1)
    | some (true, ρ1) => match body ρ1 with
      | some (.nx, ρ2) => whileM c body n ρ2
      | some (.ct, ρ2) => whileM c body n ρ2
      | some (.bk, ρ2) => some (.nx, ρ2)
      | some (.rt d, ρ2) => some (.rt d, ρ2)
      | some (.ro o, ρ2) => some (.ro o, ρ2)
      | none => none
theorem ds_while {n : List (Sl G) → Nat} {c : M G Bool} {body : SM G} (h : PS X st (tWhile (tT S pv c) (tS S pv body))) : PS X st (tS S pv (fun ρ => whileM c body (n ρ) ρ)) :=
  ps_weak h fun En σ H ⟨F, ω, ρ, re, out, ρ', e, q⟩ => by
    refine ⟨fun m σ2 H2 => ∃ F2 ω2 ρ2, Ev F H ω F2 H2 ω2 ∧ RE S pv F2 H2 ω2 σ2 ρ2 ∧ σ2.length = σ.length ∧ whileM c body m ρ2 = some (out, ρ'), ⟨n ρ, F, ω, ρ, .refl, re, rfl, e⟩, ?_⟩
    rintro m σ2 H2 ⟨F2, ω2, ρ2, ev2, re2, hl2, el⟩
    cases m with
    | zero => cases el
    | succ m =>
      unfold whileM at el
      cases ec : c ρ2 with
      | none => simp only [ec] at el; cases el
      | some p =>
        obtain ⟨b, ρ3⟩ := p
        refine ⟨F2, ω2, ρ2, re2, b, ρ3, ec, fun F3 H3 ω3 b' ev3 re3 r3 => ?_⟩
        cases r3
        simp only [ec] at el
        cases b with
        | false =>
          cases el
          exact iteF (q F3 H3 ω3 σ2 (ev2.trans ev3) re3 hl2)
        | true =>
          refine iteT ⟨fun σ4 H4 => ∃ F4 ω4 ρ4, Ev F H ω F4 H4 ω4 ∧ RE S pv F4 H4 ω4 σ4 ρ4 ∧ σ4.length = σ.length ∧ whileM c body m ρ4 = some (out, ρ'), fun σ4 H4 hN => ⟨m, Nat.lt_succ_self m, hN⟩, ?_⟩
          cases eb : body ρ3 with
          | none => simp only [eb] at el; cases el
          | some p =>
            obtain ⟨o4, ρ4⟩ := p
            refine ⟨F3, ω3, ρ3, re3, o4, ρ4, eb, fun F4 H4 ω4 σ4 ev4 re4 hl4 => ?_⟩
            simp only [eb] at el
            have hl : σ4.length = σ.length := hl4.trans hl2
            cases o4 with
            | nx => exact ⟨F4, ω4, ρ4, ev2.trans (ev3.trans ev4), re4, hl, el⟩
            | ct => exact ⟨F4, ω4, ρ4, ev2.trans (ev3.trans ev4), re4, hl, el⟩
            | bk => cases el; exact q F4 H4 ω4 σ4 (ev2.trans (ev3.trans ev4)) re4 hl
            | rt d => cases el; exact q F4 H4 ω4 σ4 (ev2.trans (ev3.trans ev4)) re4 hl
            | ro o => cases el; exact q F4 H4 ω4 σ4 (ev2.trans (ev3.trans ev4)) re4 hl
def swhile (n : List (Sl G) → Nat) (c : M G Bool) (body : SM G) : SM G := fun ρ => whileM c body (n ρ) ρ
end
end DL
set_option Elab.async false
set_option linter.all false
set_option maxRecDepth 100000
set_option maxHeartbeats 1000000
namespace DL
open PySem PySem.Spec PyProof.Rows L2
variable {G : Type}

/-! ### a def's promise -/
inductive Res (G : Type) where
  | val (d : D) | own (o : Ow G)
abbrev FM (G : Type) := List (Sl G) → Option (Res G × List (Sl G))
def mrg1 : Sl G → Sl G → Sl G
  | .own _, .own o => .own o
  | .own _, _ => .un
  | s, _ => s
def close (N : Nat) (m : SM G) : FM G := fun ρ => match m (ρ ++ List.replicate (N - ρ.length) .un) with
  | some (.nx, ρ2) => some (.val .none, List.zipWith mrg1 ρ ρ2)
  | some (.rt d, ρ2) => some (.val d, List.zipWith mrg1 ρ ρ2)
  | some (.ro o, ρ2) => some (.own o, List.zipWith mrg1 ρ ρ2)
  | _ => none
section
variable {K : PySem.W.Frag} (S : GS K G)
def ResOk (F H : Hp) (P : Addr → Prop) (v : V) : Res G → Prop
  | .val d => Dq K F v d
  | .own o => OwOk S F H P v o
def spF (n : Nat) (g : FM G) : Sp := fun vs H Q _ => vs.length = n ∧ ∃ F ω ρ, RE S vs F H ω (vs.map some) ρ ∧ ∃ r ρ', g ρ = some (r, ρ') ∧
  ∀ F' H' ω' v, Ev F H ω F' H' ω' → RE S vs F' H' ω' (vs.map some) ρ' → ResOk S F' H' (fun b => ω' b = some n) v r → Q v H'
theorem spF_len {n : Nat} {g : FM G} {ps : List Str} (hp : ps.length = n) : ∀ vs H Q E, spF S n g vs H Q E → vs.length = ps.length := fun vs H Q E h => h.1.trans hp.symm
variable {S}
theorem body_ok {n : Nat} {g : FM G} {m : SM G} {N : List Str} {vs : List V} {H : Hp} {Q : VK} {E : XK} (h : spF S n g vs H Q E) (hN : n ≤ N.length) (hg : ∀ ρ r, ρ.length = n → g ρ = some r → close N.length m ρ = some r) :
    tS S vs m { nx := fun _ H' => Q .non H', rt := Q } (L2.start N vs) H := by
  obtain ⟨hl, F, ω, ρ, re, r, ρ', e, q⟩ := h
  have hρ : ρ.length = n := by rw [← re.len, List.length_map]; exact hl
  have e2 := hg ρ _ hρ e
  unfold close at e2
  rw [hρ] at e2
  have re0 : RE S vs F H ω (L2.start N vs) (ρ ++ List.replicate (N.length - n) .un) := by
    refine ⟨?_, re.fh, re.wf, fun i s es => ?_, fun i v o h1 h2 => ?_⟩
    · unfold L2.start
      simp only [List.length_append, List.length_map, List.length_replicate]
      omega
    · by_cases hi : i < n
      · rw [List.getElem?_append_left (by omega)] at es
        obtain ⟨x, h1, h2⟩ := re.slot i s es
        refine ⟨x, ?_, h2⟩
        unfold L2.start
        rw [List.getElem?_append_left (by rw [List.length_map]; omega)]
        exact h1
      · rw [List.getElem?_append_right (by omega)] at es
        rw [List.getElem?_replicate] at es
        split at es
        · rename_i hr
          cases es
          refine ⟨none, ?_, trivial⟩
          unfold L2.start
          rw [List.getElem?_append_right (by rw [List.length_map]; omega), List.getElem?_replicate, if_pos (by rw [List.length_map]; omega)]
        · cases es
    · unfold L2.start
      obtain ⟨hv, _⟩ := List.getElem?_eq_some_iff.mp h1
      rw [List.getElem?_append_left (by rw [List.length_map]; exact hv), List.getElem?_map, h1]
      rfl
  refine ⟨F, ω, _, re0, ?_⟩
  cases em : m (ρ ++ List.replicate (N.length - n) .un) with
  | none => rw [em] at e2; cases e2
  | some p =>
    obtain ⟨out, ρ2⟩ := p
    rw [em] at e2
    refine ⟨out, ρ2, rfl, fun F1 H1 ω1 σ1 ev re1 hl1 => ?_⟩
    have hs1 : σ1.length = N.length := by
      rw [hl1]
      unfold L2.start
      simp only [List.length_append, List.length_map, List.length_replicate]
      omega
    have key : ∀ (v : V) (rr : Res G), (ResOk S F1 H1 (fun b => ω1 b = some N.length) v rr) → rr = r → List.zipWith mrg1 ρ ρ2 = ρ' → Q v H1 := by
      intro v rr hr e1 e3
      subst e1 e3
      have hevw : ∀ b, (match ω1 b with | some j => if j = N.length then some n else if j < n then some j else none | none => none : Option Nat) ≠ none → ω1 b ≠ none := by
        intro b hb z
        rw [z] at hb
        exact hb rfl
      refine q F1 H1 (fun b => match ω1 b with | some j => if j = N.length then some n else if j < n then some j else none | none => none) v
        ⟨ev.ff, ev.fn, ev.hh, fun b hb => ev.wn b (hevw b hb), ev.dom⟩ ⟨?_, re1.fh, fun b i hb => ?_, fun i s es => ?_, fun i v' o h1 h2 => ?_⟩ ?_
      · rw [List.length_map, List.length_zipWith, hρ, ← re1.len, hs1]
        omega
      · cases hw : ω1 b with
        | none => simp only [hw] at hb; cases hb
        | some j => exact re1.wf b j hw
      · rw [List.getElem?_zipWith] at es
        cases e0 : ρ[i]? with
        | none => rw [e0] at es; cases es
        | some s0 =>
          rw [e0] at es
          cases e4 : ρ2[i]? with
          | none => rw [e4] at es; cases es
          | some s2 =>
            rw [e4] at es
            have es' : mrg1 s0 s2 = s := Option.some.inj es
            obtain ⟨x, h1, h2⟩ := re.slot i s0 e0
            have hi : i < n := by
              have := (List.getElem?_eq_some_iff.mp e0).1
              omega
            refine ⟨x, h1, ?_⟩
            cases s0 with
            | un => subst es'; exact trivial
            | val d => subst es'; obtain ⟨v0, e5, dp⟩ := h2; exact ⟨v0, e5, dp.mono ev.ff⟩
            | own o0 =>
              cases s2 with
              | own o =>
                subst es'
                obtain ⟨y, h3, v2, rfl, h4⟩ := re1.slot i _ e4
                obtain ⟨v0, rfl, _⟩ := h2
                rw [List.getElem?_map] at h1
                cases hv : vs[i]? with
                | none => rw [hv] at h1; cases h1
                | some v3 =>
                  rw [hv] at h1
                  cases h1
                  have h5 := re1.fix i _ o hv e4
                  rw [h3] at h5
                  cases h5
                  refine ⟨_, rfl, h4.mono (Same.refl _) (fun _ _ _ z => z) fun b hb => ?_⟩
                  show (match ω1 b with | some j => if j = N.length then some n else if j < n then some j else none | none => none) = some i
                  rw [hb]
                  show (if i = N.length then some n else if i < n then some i else none) = some i
                  rw [if_neg (by omega), if_pos hi]
              | un => subst es'; exact trivial
              | val _ => subst es'; exact trivial
      · rw [List.getElem?_map, h1]
        rfl
      · cases rr with
        | val d => exact hr
        | own o =>
          refine OwOk.mono (o := o) hr (Same.refl _) (fun _ _ _ z => z) fun b hb => ?_
          show (match ω1 b with | some j => if j = N.length then some n else if j < n then some j else none | none => none) = some n
          rw [hb]
          show (if N.length = N.length then some n else _) = some n
          rw [if_pos rfl]
    cases out with
    | nx => cases e2; exact key .non (.val .none) .non rfl rfl
    | rt d => cases e2; exact fun v dp => key v (.val d) dp rfl rfl
    | ro o =>
      cases e2
      refine fun v dp => key v (.own o) ?_ rfl rfl
      rw [hs1] at dp
      exact dp
    | bk => cases e2
    | ct => cases e2
end
end DL
set_option Elab.async false
set_option linter.all false
set_option maxRecDepth 100000
set_option maxHeartbeats 1000000
namespace DL
open PySem PySem.Spec PyProof.Rows L2
variable {G : Type}

/-! ### calls of defs -/
/-- an argument: a datum, or what a slot owns -/
abbrev Ag := Sum D Nat
inductive ArgsOk (K : PySem.W.Frag) (σ : L2.St) (F : Hp) : List V → List Ag → Prop
  | nil : ArgsOk K σ F [] []
  | val {v : V} {d : D} {vs : List V} {as : List Ag} : Dq K F v d → ArgsOk K σ F vs as → ArgsOk K σ F (v :: vs) (.inl d :: as)
  | own {v : V} {i : Nat} {vs : List V} {as : List Ag} : σ[i]? = some (some v) → ArgsOk K σ F vs as → ArgsOk K σ F (v :: vs) (.inr i :: as)
section
variable {K : PySem.W.Frag} {σ : L2.St} {F F' : Hp}
theorem ArgsOk.mono (e : Same F F') : ∀ {vs : List V} {as : List Ag}, ArgsOk K σ F vs as → ArgsOk K σ F' vs as
  | _, _, .nil => .nil
  | _, _, .val h t => .val (h.mono e) (t.mono e)
  | _, _, .own h t => .own h (t.mono e)
theorem ArgsOk.length : ∀ {vs : List V} {as : List Ag}, ArgsOk K σ F vs as → vs.length = as.length
  | _, _, .nil => rfl
  | _, _, .val _ t => congrArg (· + 1) t.length
  | _, _, .own _ t => congrArg (· + 1) t.length
theorem ArgsOk.get : ∀ {vs : List V} {as : List Ag} {j : Nat} {a : Ag}, ArgsOk K σ F vs as → as[j]? = some a → ∃ v, vs[j]? = some v ∧ (match a with | .inl d => Dq K F v d | .inr i => σ[i]? = some (some v))
  | _, _, _, _, .nil, e => by simp at e
  | _, _, 0, _, .val h _, e => by simp at e; subst e; exact ⟨_, rfl, h⟩
  | _, _, 0, _, .own h _, e => by simp at e; subst e; exact ⟨_, rfl, h⟩
  | _, _, j + 1, a, .val _ t, e => by
    obtain ⟨v, h1, h2⟩ := ArgsOk.get (j := j) (a := a) t (by simpa using e)
    exact ⟨v, by simpa using h1, h2⟩
  | _, _, j + 1, a, .own _ t, e => by
    obtain ⟨v, h1, h2⟩ := ArgsOk.get (j := j) (a := a) t (by simpa using e)
    exact ⟨v, by simpa using h1, h2⟩
end
def pos : List Ag → Nat → Option Nat
  | [], _ => none
  | .inr i :: as, k => if i = k then some 0 else (pos as k).map (· + 1)
  | .inl _ :: as, k => (pos as k).map (· + 1)
theorem pos_get : ∀ {as : List Ag} {k j : Nat}, pos as k = some j → as[j]? = some (.inr k)
  | [], _, _, h => by cases h
  | .inr i :: as, k, j, h => by
    unfold pos at h
    by_cases hi : i = k
    · rw [if_pos hi] at h
      cases h
      rw [hi]
      rfl
    · rw [if_neg hi] at h
      cases hp : pos as k with
      | none => rw [hp] at h; cases h
      | some j' =>
        rw [hp] at h
        cases h
        simpa using pos_get hp
  | .inl d :: as, k, j, h => by
    unfold pos at h
    cases hp : pos as k with
    | none => rw [hp] at h; cases h
    | some j' =>
      rw [hp] at h
      cases h
      simpa using pos_get hp
def ownAt (ρ : List (Sl G)) (i : Nat) : Sl G := match ρ[i]? with
  | some (.own o) => .own o
  | _ => .un
def gath (full : List Ag) (ρ : List (Sl G)) : Nat → List Ag → List (Sl G)
  | _, [] => []
  | j, .inl d :: r => .val d :: gath full ρ (j + 1) r
  | j, .inr i :: r => (if pos full i = some j then ownAt ρ i else .un) :: gath full ρ (j + 1) r
theorem gath_len (full : List Ag) (ρ : List (Sl G)) : ∀ (j : Nat) (as : List Ag), (gath full ρ j as).length = as.length
  | _, [] => rfl
  | j, .inl d :: r => congrArg (· + 1) (gath_len full ρ (j + 1) r)
  | j, .inr i :: r => congrArg (· + 1) (gath_len full ρ (j + 1) r)
theorem gath_get (full : List Ag) (ρ : List (Sl G)) : ∀ (as : List Ag) (j k : Nat) (s : Sl G), (gath full ρ j as)[k]? = some s →
    (∃ d, as[k]? = some (.inl d) ∧ s = .val d) ∨ ∃ i, as[k]? = some (.inr i) ∧ s = (if pos full i = some (j + k) then ownAt ρ i else .un)
  | [], _, _, _, h => by simp [gath] at h
  | .inl d :: r, j, 0, s, h => by simp [gath] at h; exact .inl ⟨d, rfl, h.symm⟩
  | .inr i :: r, j, 0, s, h => by simp [gath] at h; exact .inr ⟨i, rfl, h.symm⟩
  | .inl d :: r, j, k + 1, s, h => by
    have := gath_get full ρ r (j + 1) k s (by simpa [gath] using h)
    rw [show j + 1 + k = j + (k + 1) by omega] at this
    simpa using this
  | .inr i :: r, j, k + 1, s, h => by
    have := gath_get full ρ r (j + 1) k s (by simpa [gath] using h)
    rw [show j + 1 + k = j + (k + 1) by omega] at this
    simpa using this
def scat1 (ρc : List (Sl G)) (j : Nat) : Sl G → Sl G
  | .own _ => ownAt ρc j
  | _ => .un
def scat (as : List Ag) (ρc : List (Sl G)) : Nat → List (Sl G) → List (Sl G)
  | _, [] => []
  | k, s :: r => (match pos as k with | some j => scat1 ρc j s | none => s) :: scat as ρc (k + 1) r
theorem scat_len (as : List Ag) (ρc : List (Sl G)) : ∀ (k : Nat) (ρ : List (Sl G)), (scat as ρc k ρ).length = ρ.length
  | _, [] => rfl
  | k, s :: r => congrArg (· + 1) (scat_len as ρc (k + 1) r)
theorem scat_get (as : List Ag) (ρc : List (Sl G)) : ∀ (ρ : List (Sl G)) (k i : Nat) (s : Sl G), (scat as ρc k ρ)[i]? = some s →
    ∃ s0, ρ[i]? = some s0 ∧ s = (match pos as (k + i) with | some j => scat1 ρc j s0 | none => s0)
  | [], _, _, _, h => by simp [scat] at h
  | s0 :: r, k, 0, s, h => by simp [scat] at h; exact ⟨s0, rfl, h.symm⟩
  | s0 :: r, k, i + 1, s, h => by
    have := scat_get as ρc r (k + 1) i s (by simpa [scat] using h)
    rw [show k + 1 + i = k + (i + 1) by omega] at this
    simpa using this
def mcall (fs : M G (List Ag)) (g : FM G) : M G (Res G) := fun ρ => match fs ρ with
  | none => none
  | some (as, ρ1) => match g (gath as ρ1 0 as) with
    | none => none
    | some (r, ρc) => some (r, scat as ρc 0 ρ1)
def mcallV (fs : M G (List Ag)) (g : FM G) : M G D := fun ρ => match mcall fs g ρ with
  | some (.val d, ρ') => some (d, ρ')
  | _ => none
def mcallO (fs : M G (List Ag)) (g : FM G) : M G (Ow G) := fun ρ => match mcall fs g ρ with
  | some (.own o, ρ') => some (o, ρ')
  | _ => none
section
variable {K : PySem.W.Frag} (S : GS K G) (pv : List V)
def tAr (f : M G (List Ag)) : TA := fun σ H Q => ∃ F, XF S pv (RV fun F vs as => ArgsOk K σ F vs as) F f σ H Q
variable {S pv}
theorem ownAt_own {ρ : List (Sl G)} {i : Nat} {o : Ow G} (h : ownAt ρ i = .own o) : ρ[i]? = some (.own o) := by
  unfold ownAt at h
  split at h
  · rename_i o' h'
    cases h
    exact h'
  · cases h
theorem ownAt_ne {ρ : List (Sl G)} {i : Nat} {d : D} (h : ownAt ρ i = .val d) : False := by
  unfold ownAt at h
  split at h <;> cases h
theorem call_core {n : Nat} {g : FM G} {fs : M G (List Ag)} {F H : Hp} {σ : L2.St} {E : XK} {Q : VK} {R : Hp → Hp → (Addr → Prop) → V → Res G → Prop}
    (hR : ∀ F H P v r, ResOk S F H P v r → R F H P v r) (hn : n < 10000000)
    (h : XF S pv R F (mcall fs g) σ H Q) (hl : ∀ as ρ ρ1, fs ρ = some (as, ρ1) → as.length = n) : XF S pv (RV fun F vs as => ArgsOk K σ F vs as) F fs σ H fun vs H1 => spF S n g (vs ++ []) H1 Q E := by
  obtain ⟨ω, ρ, re, r, ρ', e, q⟩ := h
  unfold mcall at e
  cases e1 : fs ρ with
  | none => rw [e1] at e; cases e
  | some p =>
    obtain ⟨as, ρ1⟩ := p
    have hlen := hl as ρ ρ1 e1
    rw [e1] at e
    refine ⟨ω, ρ, re, as, ρ1, e1, fun F1 H1 ω1 vs ev1 re1 ok => ?_⟩
    dsimp only at e
    cases e2 : g (gath as ρ1 0 as) with
    | none => rw [e2] at e; cases e
    | some p =>
      obtain ⟨r', ρc⟩ := p
      rw [e2] at e
      cases e
      rw [List.append_nil]
      have ok : ArgsOk K σ F1 vs as := ok
      refine ⟨ok.length.trans hlen, F1, fun b => (ω1 b).bind (pos as), gath as ρ1 0 as, ⟨?_, re1.fh, fun b j hb => ?_, fun j s es => ?_, fun j v o h1 h2 => ?_⟩, r, ρc, e2, fun F2 H2 ωc v ev2 re2 rok => ?_⟩
      · rw [List.length_map, gath_len, ok.length]
      · cases hw : ω1 b with
        | none => rw [hw] at hb; cases hb
        | some i => exact re1.wf b i hw
      · rcases gath_get as ρ1 as 0 j s es with ⟨d, ha, rfl⟩ | ⟨i, ha, hs⟩
        · obtain ⟨v, h1, h2⟩ := ok.get ha
          exact ⟨some v, by rw [List.getElem?_map, h1]; rfl, v, rfl, h2⟩
        · obtain ⟨v, h1, h2⟩ := ok.get ha
          refine ⟨some v, by rw [List.getElem?_map, h1]; rfl, ?_⟩
          rw [Nat.zero_add] at hs
          by_cases hp : pos as i = some j
          · rw [if_pos hp] at hs
            cases s with
            | un => trivial
            | val d => exact (ownAt_ne hs.symm).elim
            | own o =>
              obtain ⟨x, q1, v2, rfl, q2⟩ := re1.slot i _ (ownAt_own hs.symm)
              have q3 : (some (some v2) : Option (Option V)) = some (some v) := q1.symm.trans h2
              cases q3
              refine ⟨v, rfl, q2.mono (Same.refl _) (fun _ _ _ z => z) fun b hb => ?_⟩
              show (ω1 b).bind (pos as) = some j
              rw [hb]
              exact hp
          · rw [if_neg hp] at hs
            subst hs
            trivial
      · rw [List.getElem?_map, h1]
        rfl
      · have hoc : ∀ b, ω1 b = none → (ω1 b).bind (pos as) = none := fun b hb => by rw [hb]; rfl
        let ω2 : Om := fun b => match ωc b with
          | some j => if j = n then some σ.length else (match as[j]? with | some (.inr i) => some i | _ => none)
          | none => if (ω1 b).bind (pos as) = none then ω1 b else none
        have nol : ∀ j, j < n → j ≠ n := fun j h => Nat.ne_of_lt h
        have ev3 : Ev F1 H1 ω1 F2 H2 ω2 := ⟨ev2.ff, fun b o hb => ?_, fun b o hb hw => ev2.hh b o hb (hoc b hw), fun b hb => ?_, ev2.dom⟩
        · refine q F2 H2 ω2 v (ev1.trans ev3) ⟨?_, re2.fh, fun b i hb => ?_, fun i s es => ?_, fun i v o h1 h2 => ?_⟩ (hR _ _ _ _ _ ?_)
          · rw [scat_len]
            exact re1.len
          · have hb : (match ωc b with | some j => if j = n then some σ.length else (match as[j]? with | some (.inr i) => some i | _ => none) | none => if (ω1 b).bind (pos as) = none then ω1 b else none) = some i := hb
            cases hw : ωc b with
            | some j => exact re2.wf b j hw
            | none =>
              rw [hw] at hb
              by_cases hz : (ω1 b).bind (pos as) = none
              · rw [if_pos hz] at hb
                obtain ⟨z1, z2⟩ := re1.wf b i hb
                refine ⟨?_, ev2.dom b z2⟩
                cases hf : F2 b with
                | none => rfl
                | some o =>
                  rcases ev2.fn b o hf with z | z | z
                  · rw [z1] at z; cases z
                  · exact absurd z z2
                  · exact absurd hz z
              · rw [if_neg hz] at hb
                cases hb
          · obtain ⟨s0, h1, h2⟩ := scat_get as ρc ρ1 0 i s es
            rw [Nat.zero_add] at h2
            obtain ⟨x, h3, h4⟩ := re1.slot i s0 h1
            refine ⟨x, h3, ?_⟩
            cases hp : pos as i with
            | none =>
              rw [hp] at h2
              subst h2
              have hbn : ∀ b, ω1 b = some i → (ω1 b).bind (pos as) = none := fun b hb => by rw [hb]; exact hp
              refine h4.mono ev2.ff (fun b o hb hH => ev2.hh b o hH (hbn b hb)) fun b hb => ?_
              show (match ωc b with | some j => if j = n then some σ.length else (match as[j]? with | some (.inr i) => some i | _ => none) | none => if (ω1 b).bind (pos as) = none then ω1 b else none) = some i
              cases hw : ωc b with
              | none =>
                dsimp only
                rw [if_pos (hbn b hb)]
                exact hb
              | some j =>
                rcases ev2.wn b (by rw [hw]; simp) with z | z
                · exact absurd (hbn b hb) z
                · exact absurd z (re1.wf b i hb).2
            | some j =>
              rw [hp] at h2
              dsimp only at h2
              cases s0 with
              | un => subst h2; trivial
              | val d => subst h2; trivial
              | own o0 =>
                have h2 : s = ownAt ρc j := h2
                cases s with
                | un => trivial
                | val d => exact (ownAt_ne h2.symm).elim
                | own o =>
                  have h5 := ownAt_own h2.symm
                  obtain ⟨y, h6, v2, rfl, h7⟩ := re2.slot j _ h5
                  have ha := pos_get hp
                  obtain ⟨v3, h8, h9⟩ := ok.get ha
                  rw [List.getElem?_map, h8] at h6
                  cases h6
                  have h9 : σ[i]? = some (some v2) := h9
                  have h10 : (some x : Option (Option V)) = some (some v2) := h3.symm.trans h9
                  cases h10
                  refine ⟨_, rfl, h7.mono (Same.refl _) (fun _ _ _ z => z) fun b hb => ?_⟩
                  show (match ωc b with | some j => if j = n then some σ.length else (match as[j]? with | some (.inr i) => some i | _ => none) | none => if (ω1 b).bind (pos as) = none then ω1 b else none) = some i
                  rw [hb]
                  dsimp only
                  have hj : j < n := by
                    have := (List.getElem?_eq_some_iff.mp ha).1
                    omega
                  rw [if_neg (nol j hj), ha]
          · obtain ⟨s0, h3, h4⟩ := scat_get as ρc ρ1 0 i _ h2
            rw [Nat.zero_add] at h4
            cases hp : pos as i with
            | none =>
              rw [hp] at h4
              dsimp only at h4
              subst h4
              exact re1.fix i v o h1 h3
            | some j =>
              rw [hp] at h4
              cases s0 with
              | own o0 => exact re1.fix i v o0 h1 h3
              | un => cases h4
              | val _ => cases h4
          · cases r with
            | val d => exact rok
            | own o =>
              refine OwOk.mono (o := o) rok (Same.refl _) (fun _ _ _ z => z) fun b hb => ?_
              show (match ωc b with | some j => if j = n then some σ.length else (match as[j]? with | some (.inr i) => some i | _ => none) | none => if (ω1 b).bind (pos as) = none then ω1 b else none) = some σ.length
              rw [hb]
              dsimp only
              rw [if_pos rfl]
        · rcases ev2.fn b o hb with z | z | z
          · exact .inl z
          · exact .inr (.inl z)
          · refine .inr (.inr fun z2 => z (hoc b z2))
        · have hb : (match ωc b with | some j => if j = n then some σ.length else (match as[j]? with | some (.inr i) => some i | _ => none) | none => if (ω1 b).bind (pos as) = none then ω1 b else none) ≠ none := hb
          cases hw : ωc b with
          | some j =>
            rcases ev2.wn b (by rw [hw]; simp) with z | z
            · exact .inl fun z2 => z (hoc b z2)
            · exact .inr z
          | none =>
            rw [hw] at hb
            refine .inl fun z => hb ?_
            dsimp only
            rw [if_pos (hoc b z)]
            exact z
end
section
variable {X : Cx} {S : GS X.K G} {pv : List V} {e a b : Expr} {st : Stmt} {n : Nat} {g : FM G} {fs : M G (List Ag)} {E : XK}
theorem dv_callF (h : PE X e (tCall (spF S n g) [] E (tAr S pv fs))) (hl : ∀ as ρ ρ1, fs ρ = some (as, ρ1) → as.length = n) (hn : n < 10000000 := by decide) : PE X e (tD S pv (mcallV fs g)) :=
  pe_weak h fun σ H Q ⟨F, ω, ρ, re, d, ρ', e, q⟩ => ⟨F, call_core (R := fun F H P v r => ResOk S F H P v r) (fun _ _ _ _ _ z => z) hn (by
    unfold mcallV at e
    cases ec : mcall fs g ρ with
    | none => rw [ec] at e; cases e
    | some p =>
      obtain ⟨r, ρ2⟩ := p
      rw [ec] at e
      cases r with
      | own o => cases e
      | val d' => cases e; exact ⟨ω, ρ, re, .val d, ρ', ec, q⟩) hl⟩
theorem do_callF (h : PE X e (tCall (spF S n g) [] E (tAr S pv fs))) (hl : ∀ as ρ ρ1, fs ρ = some (as, ρ1) → as.length = n) (hn : n < 10000000 := by decide) : PE X e (tO S pv (mcallO fs g)) :=
  pe_weak h fun σ H Q ⟨F, ω, ρ, re, d, ρ', e, q⟩ => ⟨F, call_core (R := fun F H P v r => ResOk S F H P v r) (fun _ _ _ _ _ z => z) hn (by
    unfold mcallO at e
    cases ec : mcall fs g ρ with
    | none => rw [ec] at e; cases e
    | some p =>
      obtain ⟨r, ρ2⟩ := p
      rw [ec] at e
      cases r with
      | val o => cases e
      | own d' => cases e; exact ⟨ω, ρ, re, .own d, ρ', ec, q⟩) hl⟩
/-! arguments of a def -/
def macons (f : M G D) (fs : M G (List Ag)) : M G (List Ag) := mbnd f fun d => mbnd fs fun as => mret (.inl d :: as)
def maown (i : Nat) (fs : M G (List Ag)) : M G (List Ag) := fun ρ => match ρ[i]? with
  | some (.own _) => mbnd fs (fun as => mret (.inr i :: as)) ρ
  | _ => none
theorem dr_nil : PA X [] (tAr S pv (mret [])) := pa_weak pa_nil fun σ H Q ⟨F, q⟩ => q.ret1 .nil
theorem dr_val {es : List Expr} {f : M G D} (ha : PE X e (tD S pv f)) (hr : PA X es (tAr S pv fs)) (hs : starEach (e :: es) X.env = (false, eval e X.env) :: starEach es X.env := by rfl) :
    PA X (e :: es) (tAr S pv (macons f fs)) :=
  pa_weak (pa_cons ha hr hs) fun σ H Q ⟨F, q⟩ => ⟨F, q.step fun x v F1 H1 s1 r1 q1 => ⟨F1, q1.step fun y u F2 H2 s2 r2 q2 => q2.ret1 (.val (r1.mono s2) r2)⟩⟩
theorem dr_own {es : List Expr} {i : Nat} (ha : PE X e (tVar i)) (hr : PA X es (tAr S pv fs)) (hs : starEach (e :: es) X.env = (false, eval e X.env) :: starEach es X.env := by rfl) :
    PA X (e :: es) (tAr S pv (maown i fs)) :=
  pa_weak (pa_cons ha hr hs) fun σ H Q ⟨F, ω, ρ, re, as, ρ', e, q⟩ => by
    unfold maown at e
    split at e
    · rename_i o ho
      obtain ⟨x, h1, v, rfl, h2⟩ := re.slot i _ ho
      refine ⟨v, h1, F, XF.step (R2 := RV fun F vs as => ArgsOk X.K σ F vs as) (k := fun as => mret (.inr i :: as)) ⟨ω, ρ, re, as, ρ', e, q⟩ fun as' vs F1 H1 s1 r1 q1 => ?_⟩
      exact q1.ret1 (.own h1 r1)
    · cases e
theorem al_nil : ∀ as (ρ ρ1 : List (Sl G)), mret ([] : List Ag) ρ = some (as, ρ1) → as.length = 0 := fun as ρ ρ1 h => by cases h; rfl
theorem al_val {f : M G D} {m : Nat} (h : ∀ as ρ ρ1, fs ρ = some (as, ρ1) → as.length = m) : ∀ as ρ ρ1, macons f fs ρ = some (as, ρ1) → as.length = m + 1 := fun as ρ ρ1 e => by
  obtain ⟨d, ρ2, e1, e2⟩ := mbnd_some e
  obtain ⟨as', ρ3, e3, e4⟩ := mbnd_some e2
  cases e4
  exact congrArg (· + 1) (h _ _ _ e3)
theorem al_own {i m : Nat} (h : ∀ as ρ ρ1, fs ρ = some (as, ρ1) → as.length = m) : ∀ as ρ ρ1, maown i fs ρ = some (as, ρ1) → as.length = m + 1 := fun as ρ ρ1 e => by
  unfold maown at e
  split at e
  · obtain ⟨as', ρ3, e3, e4⟩ := mbnd_some e
    cases e4
    exact congrArg (· + 1) (h _ _ _ e3)
  · cases e
end
end DL
set_option Elab.async false
set_option linter.all false
set_option maxRecDepth 100000
set_option maxHeartbeats 1000000
namespace DL
open PySem PySem.Spec PyProof.Rows L2
variable {G : Type}

/-! ### operations by data -/
section
variable {K : PySem.W.Frag}
def gI0 (g : Int → Int → D) : D → D → Option D := fun x y => match x, y with | .int i, .int j => some (g i j) | _, _ => none
theorem dop_I0 {f : Int → Int → V} {g : Int → Int → D} (h : ∀ F i j, Dq K F (f i j) (g i j)) : DOp K (rI0 f) (gI0 g) := fun F H x y dx dy d Q sf hx hy e q => by
  cases hx with
  | int i =>
    cases hy with
    | int j => cases e; exact ⟨i, j, rfl, rfl, q F H _ (Al.refl sf) (h F i j)⟩
    | _ => cases e
  | _ => cases hy <;> cases e
def gI (C : Int → Int → Bool) (g : Int → Int → D) : D → D → Option D := fun x y => match x, y with | .int i, .int j => if C i j = true then some (g i j) else none | _, _ => none
theorem dop_I {C : Int → Int → Prop} {c : Int → Int → Bool} {f : Int → Int → V} {g : Int → Int → D} (hc : ∀ i j, c i j = true → C i j) (h : ∀ F i j, Dq K F (f i j) (g i j)) : DOp K (rI C f) (gI c g) := fun F H x y dx dy d Q sf hx hy e q => by
  cases hx with
  | int i =>
    cases hy with
    | int j =>
      unfold gI at e
      by_cases hh : c i j = true
      · simp only [hh, if_true] at e
        cases e
        exact ⟨i, j, rfl, rfl, hc i j hh, q F H _ (Al.refl sf) (h F i j)⟩
      · simp only [hh, if_false] at e
        cases e
    | _ => cases e
  | _ => cases hy <;> cases e
abbrev gAdd : D → D → Option D := gI0 fun i j => .int (i + j)
abbrev gSub : D → D → Option D := gI0 fun i j => .int (i - j)
abbrev gLt : D → D → Option D := gI0 fun i j => .bool (decide (i < j))
abbrev gLe : D → D → Option D := gI0 fun i j => .bool (decide (i ≤ j))
abbrev gGt : D → D → Option D := gI0 fun i j => .bool (decide (j < i))
abbrev gGe : D → D → Option D := gI0 fun i j => .bool (decide (j ≤ i))
theorem d_add : DOp K (rI0 fun i j => .int (i + j)) gAdd := dop_I0 fun _ _ _ => .int _
theorem d_sub : DOp K (rI0 fun i j => .int (i - j)) gSub := dop_I0 fun _ _ _ => .int _
theorem d_lt : DOp K (rI0 fun i j => .bl (decide (i < j))) gLt := dop_I0 fun _ _ _ => .bl _
theorem d_le : DOp K (rI0 fun i j => .bl (decide (i ≤ j))) gLe := dop_I0 fun _ _ _ => .bl _
theorem d_gt : DOp K (rI0 fun i j => .bl (decide (j < i))) gGt := dop_I0 fun _ _ _ => .bl _
theorem d_ge : DOp K (rI0 fun i j => .bl (decide (j ≤ i))) gGe := dop_I0 fun _ _ _ => .bl _
def cMul (i j : Int) : Bool := decide ((-(2 ^ 64) < i ∧ i < 2 ^ 64) ∨ (-(2 ^ 64) < j ∧ j < 2 ^ 64))
def cDiv (i j : Int) : Bool := decide (0 < j ∧ j < 1073741824)
def cPos (i j : Int) : Bool := decide (0 < j)
def cPow (i j : Int) : Bool := decide (0 ≤ j ∧ j ≤ 1000000 ∧ i.natAbs < 2 ^ 64)
abbrev gMul : D → D → Option D := gI cMul fun i j => .int (i * j)
abbrev gDiv : D → D → Option D := gI cDiv fun i j => .int (i / j)
abbrev gMod : D → D → Option D := gI cPos fun i j => .int (i % j)
abbrev gPow : D → D → Option D := gI cPow fun i j => .int (i ^ j.toNat)
theorem d_mul : DOp K (rI CMul fun i j => .int (i * j)) gMul := dop_I (fun i j h => (of_decide_eq_true h : (-(2 ^ 64) < i ∧ i < 2 ^ 64) ∨ (-(2 ^ 64) < j ∧ j < 2 ^ 64))) fun _ _ _ => .int _
theorem d_div : DOp K (rI CDiv fun i j => .int (i / j)) gDiv := dop_I (fun i j h => (of_decide_eq_true h : 0 < j ∧ j < 1073741824)) fun _ _ _ => .int _
theorem d_mod : DOp K (rI (fun _ j => 0 < j) fun i j => .int (i % j)) gMod := dop_I (fun _ _ h => of_decide_eq_true h) fun _ _ _ => .int _
theorem d_pow : DOp K (rI CPow fun i j => .int (i ^ j.toNat)) gPow := dop_I (fun i j h => (of_decide_eq_true h : 0 ≤ j ∧ j ≤ 1000000 ∧ i.natAbs < 2 ^ 64)) fun _ _ _ => .int _
def gNeg : D → Option D := fun x => match x with | .int i => some (.int (-i)) | _ => none
theorem d_neg : DUn K (rU fun i => .int (-i)) gNeg := fun F H x dx d Q sf hx e q => by
  cases hx with
  | int i => cases e; exact ⟨i, rfl, q F H _ (Al.refl sf) (.int _)⟩
  | _ => cases e
/-! == and != of data -/
def gEqD : D → D → Option D := fun x y => if SeqAt.shaped x = true ∧ SeqAt.shaped y = true then some (.bool (PyData.eqv x y)) else none
def gNeD : D → D → Option D := fun x y => if SeqAt.shaped x = true ∧ SeqAt.shaped y = true then some (.bool (!PyData.eqv x y)) else none
theorem d_eqD : DOp K (rEqD K) gEqD := fun F H x y dx dy d Q sf hx hy e q => by
  unfold gEqD at e
  by_cases h : SeqAt.shaped dx = true ∧ SeqAt.shaped dy = true
  · rw [if_pos h] at e
    cases e
    exact ⟨dx, dy, (hx.mono sf).dp _ _ (SeqAt.canLay_of_shaped h.1), (hy.mono sf).dp _ _ (SeqAt.canLay_of_shaped h.2), h.1, h.2, q F H _ (Al.refl sf) (.bl _)⟩
  · rw [if_neg h] at e
    cases e
theorem d_neD : DOp K (rNeD K) gNeD := fun F H x y dx dy d Q sf hx hy e q => by
  unfold gNeD at e
  by_cases h : SeqAt.shaped dx = true ∧ SeqAt.shaped dy = true
  · rw [if_pos h] at e
    cases e
    exact ⟨dx, dy, (hx.mono sf).dp _ _ (SeqAt.canLay_of_shaped h.1), (hy.mono sf).dp _ _ (SeqAt.canLay_of_shaped h.2), h.1, h.2, q F H _ (Al.refl sf) (.bl _)⟩
  · rw [if_neg h] at e
    cases e
/-! items -/
def gIxL : D → D → Option D := fun x y => match x, y with | .list ds, .int i => atI ds i | _, _ => none
def gIxT : D → D → Option D := fun x y => match x, y with | .tuple ds, .int i => atI ds i | _, _ => none
theorem atI_dp {F : Hp} {xs : List V} {ds : List D} {i : Int} {d : D} (h : DqAll K F xs ds) (e : atI ds i = some d) : ∃ v, atI xs i = some v ∧ Dq K F v d := by
  unfold atI at e ⊢
  rw [h.length]
  cases hn : ixN ds.length i with
  | none => rw [hn] at e; cases e
  | some j =>
    rw [hn] at e
    obtain ⟨v, h1, h2⟩ := h.get (i := j) (d := d) e
    exact ⟨v, h1, h2⟩
theorem d_ixL : DOp K (rIxL K) gIxL := fun F H x y dx dy d Q sf hx hy e q => by
  cases hx with
  | lst hs ha =>
    cases hy with
    | int i =>
      obtain ⟨v, h1, h2⟩ := atI_dp ha e
      exact ⟨_, _, i, v, rfl, rfl, sf.seq hs, h1, q F H v (Al.refl sf) h2⟩
    | _ => cases e
  | _ => cases hy <;> cases e
theorem d_ixT : DOp K (rIxT K) gIxT := fun F H x y dx dy d Q sf hx hy e q => by
  cases hx with
  | tup hs ha =>
    cases hy with
    | int i =>
      obtain ⟨v, h1, h2⟩ := atI_dp ha e
      exact ⟨_, _, i, v, rfl, rfl, sqt_mono sf hs, h1, q F H v (Al.refl sf) h2⟩
    | _ => cases e
  | _ => cases hy <;> cases e
/-! built-ins -/
def gAbs : List D → Option D := fun xs => match xs with | [.int i] => some (.int (if i < 0 then -i else i)) | _ => none
def gMax2 : List D → Option D := fun xs => match xs with | [.int i, .int j] => some (.int (if j > i then j else i)) | _ => none
def gMin2 : List D → Option D := fun xs => match xs with | [.int i, .int j] => some (.int (if j < i then j else i)) | _ => none
theorem dpa1 {F : Hp} {vs : List V} {d : D} (h : DqAll K F vs [d]) : ∃ v, vs = [v] ∧ Dq K F v d := by
  cases h with
  | cons h1 h2 => cases h2; exact ⟨_, rfl, h1⟩
theorem dpa2 {F : Hp} {vs : List V} {d e : D} (h : DqAll K F vs [d, e]) : ∃ v w, vs = [v, w] ∧ Dq K F v d ∧ Dq K F w e := by
  cases h with
  | cons h1 h2 => obtain ⟨w, rfl, h3⟩ := dpa1 h2; exact ⟨_, _, rfl, h1, h3⟩
theorem d_abs : DCall K (fun xs H Q => ∃ i, xs = [.int i] ∧ Q (.int (if i < 0 then -i else i)) H) gAbs := fun F H vs ds d Q sf hv e q => by
  unfold gAbs at e
  split at e
  · cases e
    obtain ⟨v, rfl, h⟩ := dpa1 hv
    cases h
    exact ⟨_, rfl, q F H _ (Al.refl sf) (.int _)⟩
  · cases e
theorem d_max2 : DCall K (fun xs H Q => ∃ i j, xs = [.int i, .int j] ∧ Q (.int (if j > i then j else i)) H) gMax2 := fun F H vs ds d Q sf hv e q => by
  unfold gMax2 at e
  split at e
  · cases e
    obtain ⟨v, w, rfl, h1, h2⟩ := dpa2 hv
    cases h1
    cases h2
    exact ⟨_, _, rfl, q F H _ (Al.refl sf) (.int _)⟩
  · cases e
theorem d_min2 : DCall K (fun xs H Q => ∃ i j, xs = [.int i, .int j] ∧ Q (.int (if j < i then j else i)) H) gMin2 := fun F H vs ds d Q sf hv e q => by
  unfold gMin2 at e
  split at e
  · cases e
    obtain ⟨v, w, rfl, h1, h2⟩ := dpa2 hv
    cases h1
    cases h2
    exact ⟨_, _, rfl, q F H _ (Al.refl sf) (.int _)⟩
  · cases e
def gLen : List D → Option D := fun xs => match xs with
  | [.list ds] => some (.int ds.length)
  | [.tuple ds] => some (.int ds.length)
  | [.str y] => if y.length ≤ sizeLine then some (.int y.length) else none
  | _ => none
theorem d_len : DCall K (fun xs H Q => ∃ x n, xs = [x] ∧ LenV K x H n ∧ Q (.int n) H) gLen := fun F H vs ds d Q sf hv e q => by
  unfold gLen at e
  split at e
  · cases e
    obtain ⟨v, rfl, h⟩ := dpa1 hv
    cases h with
    | lst hs ha => exact ⟨_, _, rfl, .inl ⟨_, sf.seq hs, rfl⟩, q F H _ (Al.refl sf) (by rw [ha.length]; exact .int _)⟩
  · cases e
    obtain ⟨v, rfl, h⟩ := dpa1 hv
    cases h with
    | tup hs ha => exact ⟨_, _, rfl, .inr ⟨_, sqt_mono sf hs, rfl⟩, q F H _ (Al.refl sf) (by rw [ha.length]; exact .int _)⟩
  · split at e
    · rename_i hl
      cases e
      obtain ⟨v, rfl, h⟩ := dpa1 hv
      cases h
      exact ⟨_, _, rfl, ⟨hl, rfl⟩, q F H _ (Al.refl sf) (.int _)⟩
    · cases e
  · cases e
def intsOf : List D → Option (List Int)
  | [] => some []
  | .int i :: r => (intsOf r).map (i :: ·)
  | _ :: _ => none
theorem intsOf_eq : ∀ {ds : List D} {ns : List Int}, intsOf ds = some ns → ds = ns.map PyData.int
  | [], _, h => by cases h; rfl
  | .int i :: r, ns, h => by
    unfold intsOf at h
    cases hr : intsOf r with
    | none => rw [hr] at h; cases h
    | some ms => rw [hr] at h; cases h; rw [intsOf_eq hr]; rfl
  | .none :: _, _, h | .bool _ :: _, _, h | .str _ :: _, _, h | .list _ :: _, _, h | .tuple _ :: _, _, h | .dict _ :: _, _, h => by cases h
theorem intsOf_map : ∀ ns : List Int, intsOf (ns.map PyData.int) = some ns
  | [] => rfl
  | n :: r => by
    show (intsOf (r.map PyData.int)).map (n :: ·) = some (n :: r)
    rw [intsOf_map r]
    rfl
def gSum : List D → Option D := fun xs => match xs with
  | [.list ds] => (intsOf ds).map fun ns => .int ns.sum
  | _ => none
theorem d_sum : DCall K (rSum K) gSum := fun F H vs ds d Q sf hv e q => by
  unfold gSum at e
  split at e
  · rename_i ds'
    cases hi : intsOf ds' with
    | none => rw [hi] at e; cases e
    | some ns =>
      rw [hi] at e
      cases e
      have := intsOf_eq hi
      subst this
      obtain ⟨v, rfl, h⟩ := dpa1 hv
      cases h with
      | lst hs ha =>
        rw [dpa_ints_inv ha] at hs
        exact ⟨_, ns, rfl, sf.seq hs, q F H _ (Al.refl sf) (.int _)⟩
  · cases e
def gList : List D → Option D := fun xs => match xs with
  | [.list ds] => some (.list ds)
  | [.tuple ds] => some (.list ds)
  | _ => none
theorem d_list : DCall K (fun xs H Q => ∃ p ys, xs = [.ref p] ∧ (SqL K H p ys ∨ SqT K H p ys) ∧ ∀ l, H l = none → Q (.ref l) (upd H l (.lst ys))) gList := fun F H vs ds d Q sf hv e q => by
  unfold gList at e
  split at e
  · cases e
    obtain ⟨v, rfl, h⟩ := dpa1 hv
    cases h with
    | lst hs ha => exact ⟨_, _, rfl, .inl (sf.seq hs), fun l hl => q _ _ _ (Al.new sf hl) (.lst (.of upd_same) (ha.mono (same_new (sf.free hl))))⟩
  · cases e
    obtain ⟨v, rfl, h⟩ := dpa1 hv
    cases h with
    | tup hs ha => exact ⟨_, _, rfl, .inr (sqt_mono sf hs), fun l hl => q _ _ _ (Al.new sf hl) (.lst (.of upd_same) (ha.mono (same_new (sf.free hl))))⟩
  · cases e
end
/-! slices -/
section
variable {X : Cx} {S : GS X.K G} {pv : List V} {e a b : Expr} {pos : Pos}
def cutD (ds : List D) (lo hi : Option Int) : List D := (ds.drop (HT.sIx ds.length 0 lo)).take (HT.sIx ds.length ds.length hi - HT.sIx ds.length 0 lo)
theorem cut_dp {K : PySem.W.Frag} {F : Hp} {xs : List V} {ds : List D} (h : DqAll K F xs ds) (lo hi : Option Int) : DqAll K F (cutV xs lo hi) (cutD ds lo hi) := by
  unfold cutV cutD
  rw [h.length]
  exact (h.drop _).take _
abbrev tOp' (S : GS X.K G) (pv : List V) (f : M G (Option Int)) : TO := tX S pv (RV fun _ b a => b = a) f
theorem po_weak {e : Option Expr} {t t' : TO} (h : PO X e t) (w : ∀ σ H Q, t' σ H Q → t σ H Q) : PO X e t' := ⟨fun pins s σ H Q I q => h.run pins s σ H Q I (w σ H Q q)⟩
theorem dpo_none : PO X none (tOp' S pv (mret none)) := po_weak po_none fun σ H Q ⟨F, q⟩ => q.ret1 rfl
def mpart (f : M G D) : M G (Option Int) := mbnd f fun d => mlft (match d with | .int i => some (some i) | _ => none)
theorem dpo_some {f : M G D} (h : PE X e (tD S pv f)) : PO X (some e) (tOp' S pv (mpart f)) := po_weak (po_some h) fun σ H Q ⟨F, q⟩ => ⟨F, q.step fun d v F1 H1 s1 r1 q1 => by
  obtain ⟨o, e, sf, q3⟩ := q1.last
  cases r1 with
  | int i => cases e; exact ⟨i, rfl, q3 F1 H1 _ (Al.refl sf) rfl⟩
  | _ => cases e⟩
def DSl (K : PySem.W.Frag) (r : V → Option Int → Option Int → Hp → VK → Prop) (g : D → Option Int → Option Int → Option D) : Prop :=
  ∀ F H x dx lo hi d (Q : VK), Same F H → Dq K F x dx → g dx lo hi = some d → (∀ F' H' v, Al F H F' H' → Dq K F' v d → Q v H') → r x lo hi H Q
def mslice (f : M G D) (fl fh : M G (Option Int)) (g : D → Option Int → Option Int → Option D) : M G D := mbnd f fun x => mbnd fl fun lo => mbnd fh fun hi => mlft (g x lo hi)
theorem dv_slice {r : V → Option Int → Option Int → Hp → VK → Prop} {g : D → Option Int → Option Int → Option D} {f : M G D} {fl fh : M G (Option Int)} (h : PE X e (tSl r (tD S pv f) (tOp' S pv fl) (tOp' S pv fh))) (hd : DSl X.K r g) :
    PE X e (tD S pv (mslice f fl fh g)) :=
  pe_weak h fun σ H Q ⟨F, q⟩ => ⟨F, q.step fun x v F1 H1 s1 r1 q1 => ⟨F1, q1.step fun lo lo' F2 H2 s2 r2 q2 => ⟨F2, q2.step fun hi hi' F3 H3 s3 r3 q3 => by
    obtain ⟨d, e, sf, q4⟩ := q3.last
    cases r2
    cases r3
    exact hd F3 H3 v x lo hi d Q sf (r1.mono (s2.trans s3)) e fun F' H' v al r => q4 F' H' v al r⟩⟩⟩
def gSlL : D → Option Int → Option Int → Option D := fun x lo hi => match x with | .list ds => some (.list (cutD ds lo hi)) | _ => none
theorem d_slL {K : PySem.W.Frag} : DSl K (rSlL K) gSlL := fun F H x dx lo hi d Q sf hx e q => by
  cases hx with
  | lst hs ha => cases e; exact ⟨_, _, rfl, sf.seq hs, fun p hp => q _ _ _ (Al.new sf hp) (.lst (.of upd_same) ((cut_dp ha lo hi).mono (same_new (sf.free hp))))⟩
  | _ => cases e
/-! ### what a slot owns: lists -/
def rdO (i : Nat) (g : List D → Option D) : M G D := fun ρ => match ρ[i]? with
  | some (.own (.seq ds)) => match g ds with
    | some d => some (d, ρ)
    | none => none
  | _ => none
def wrO (i : Nat) (g : List D → Option (D × List D)) : M G D := fun ρ => match ρ[i]? with
  | some (.own (.seq ds)) => match g ds with
    | some (d, ds') => some (d, ρ.set i (.own (.seq ds')))
    | none => none
  | _ => none
theorem RE.ownL {F H : Hp} {ω : Om} {σ : L2.St} {ρ : List (Sl G)} (re : RE S pv F H ω σ ρ) {i : Nat} {ds : List D} (h : ρ[i]? = some (.own (.seq ds))) : ∃ a xs, σ[i]? = some (some (.ref a)) ∧ ω a = some i ∧ H a = some (.lst xs) ∧ DqAll X.K F xs ds := by
  obtain ⟨x, h1, v, rfl, a, xs, rfl, h2, h3, h4⟩ := re.slot i _ h
  exact ⟨a, xs, h1, h2, h3, h4⟩
/-- an operation whose left side is owned, and stays -/
def DOpO (K : PySem.W.Frag) (r : R2) (g : List D → D → Option D) : Prop :=
  ∀ F H a xs ds y dy d (Q : VK), Same F H → H a = some (.lst xs) → DqAll K F xs ds → Dq K F y dy → g ds dy = some d → (∀ F' H' v, Al F H F' H' → Dq K F' v d → Q v H') → r (.ref a) y H Q
def mopO (i : Nat) (fb : M G D) (g : List D → D → Option D) : M G D := fun ρ => match ρ[i]? with
  | some (.own (.seq _)) => mbnd fb (fun y => rdO i fun ds => g ds y) ρ
  | _ => none
theorem dv_opO {r : R2} {i : Nat} {fb : M G D} {g : List D → D → Option D} (h : PE X e (tOp r (tVar i) (tD S pv fb))) (hd : DOpO X.K r g) : PE X e (tD S pv (mopO i fb g)) :=
  pe_weak h fun σ H Q ⟨F, ω, ρ, re, d, ρ', e, q⟩ => by
    unfold mopO at e
    split at e
    · rename_i ds0 h0
      obtain ⟨a, xs0, hv, _, _, _⟩ := re.ownL h0
      obtain ⟨y, ρ1, e1, e2⟩ := mbnd_some e
      refine ⟨_, hv, F, ω, ρ, re, y, ρ1, e1, fun F1 H1 ω1 u ev1 re1 r1 => ?_⟩
      unfold rdO at e2
      split at e2
      · rename_i ds1 h1
        obtain ⟨a1, xs1, hv1, hw1, hH1, hs1⟩ := re1.ownL h1
        rw [hv] at hv1
        cases hv1
        cases eg : g ds1 y with
        | none => simp only [eg] at e2; cases e2
        | some d' =>
          simp only [eg] at e2
          cases e2
          exact hd F1 H1 a xs1 ds1 u y d Q re1.fh hH1 hs1 r1 eg fun F' H' v al r => q F' H' ω1 v (ev1.trans al.ev) (re1.al al) r
      · cases e2
    · cases e
/-- len(x), .. : a call whose one argument is owned -/
def DCallO (K : PySem.W.Frag) (r : List V → Hp → VK → Prop) (g : List D → Option D) : Prop :=
  ∀ F H a xs ds d (Q : VK), Same F H → H a = some (.lst xs) → DqAll K F xs ds → g ds = some d → (∀ F' H' v, Al F H F' H' → Dq K F' v d → Q v H') → r [.ref a] H Q
theorem dv_callO {r : List V → Hp → VK → Prop} {i : Nat} {g : List D → Option D} (h : PE X e (tCB r (tCons (tVar i) tNil))) (hd : DCallO X.K r g) : PE X e (tD S pv (rdO i g)) :=
  pe_weak h fun σ H Q ⟨F, ω, ρ, re, d, ρ', e, q⟩ => by
    unfold rdO at e
    split at e
    · rename_i ds1 h1
      obtain ⟨a, xs1, hv, hw1, hH1, hs1⟩ := re.ownL h1
      cases eg : g ds1 with
      | none => rw [eg] at e; cases e
      | some d' =>
        rw [eg] at e
        cases e
        exact ⟨_, hv, hd F H a xs1 ds1 d Q re.fh hH1 hs1 eg fun F' H' v al r => q F' H' ω v al.ev (re.al al) r⟩
    · cases e
/-- a method that changes the list -/
def DMut (K : PySem.W.Frag) (r : V → List V → Hp → VK → Prop) (g : List D → List D → Option (D × List D)) : Prop :=
  ∀ F H a xs ds vs es d ds' (Q : VK), Same F H → H a = some (.lst xs) → DqAll K F xs ds → DqAll K F vs es → g ds es = some (d, ds') → (∀ v xs', Dq K F v d → DqAll K F xs' ds' → Q v (upd H a (.lst xs'))) → r (.ref a) vs H Q
def mmut (i : Nat) (fs : M G (List D)) (g : List D → List D → Option (D × List D)) : M G D := fun ρ => match ρ[i]? with
  | some (.own (.seq _)) => mbnd fs (fun es => wrO i fun ds => g ds es) ρ
  | _ => none
theorem mut_core {r : V → List V → Hp → VK → Prop} {g : List D → List D → Option (D × List D)} (hd : DMut X.K r g) {i : Nat} {es : List D} {vs : List V} {F H : Hp} {σ : L2.St} {Q : VK} {a : Addr} {ω : Om} {ρ ρ' : List (Sl G)} {d : D} (re : RE S pv F H ω σ ρ)
    (e : wrO i (fun ds => g ds es) ρ = some (d, ρ')) (hv : σ[i]? = some (some (.ref a))) (hvs : DqAll X.K F vs es) (q : ∀ H' v, Ev F H ω F H' ω → RE S pv F H' ω σ ρ' → Dq X.K F v d → Q v H') : r (.ref a) vs H Q := by
  unfold wrO at e
  split at e
  · rename_i ds1 h1
    obtain ⟨a1, xs1, hv1, hw1, hH1, hs1⟩ := re.ownL h1
    rw [hv] at hv1
    cases hv1
    cases eg : g ds1 es with
    | none => simp only [eg] at e; cases e
    | some p =>
      obtain ⟨d', ds'⟩ := p
      simp only [eg] at e
      cases e
      refine hd F H a xs1 ds1 vs es d ds' Q re.fh hH1 hs1 hvs eg fun v xs' hr hs' => ?_
      obtain ⟨re2, ev2⟩ := re.wr (u := .lst xs') (o2 := .seq ds') h1 hv hw1 ⟨a, xs', rfl, hw1, upd_same, hs'⟩
      exact q _ v ev2 re2 hr
  · cases e
theorem dv_mut {r : V → List V → Hp → VK → Prop} {i : Nat} {fs : M G (List D)} {g : List D → List D → Option (D × List D)} (h : PE X e (tBM X.K "list" r (tVar i) (tA S pv fs))) (hd : DMut X.K r g) : PE X e (tD S pv (mmut i fs g)) :=
  pe_weak h fun σ H Q ⟨F, ω, ρ, re, d, ρ', e, q⟩ => by
    unfold mmut at e
    split at e
    · rename_i ds0 h0
      obtain ⟨a, xs0, hv, _, hH0, _⟩ := re.ownL h0
      obtain ⟨es, ρ1, e1, e2⟩ := mbnd_some e
      refine ⟨_, hv, .inl ⟨rfl, xs0, SqL.of hH0⟩, F, ω, ρ, re, es, ρ1, e1, fun F1 H1 ω1 vs ev1 re1 r1 => ?_⟩
      exact mut_core hd re1 e2 hv r1 fun H' v ev re2 hr => q F1 H' ω1 v (ev1.trans ev) re2 hr
    · cases e
theorem dv_mut0 {r : V → List V → Hp → VK → Prop} {i : Nat} {g : List D → List D → Option (D × List D)} (h : PE X e (tBM0 X.K "list" r (tVar i))) (hd : DMut X.K r g) : PE X e (tD S pv (wrO i fun ds => g ds [])) :=
  pe_weak h fun σ H Q ⟨F, ω, ρ, re, d, ρ', e, q⟩ => by
    have e0 := e
    unfold wrO at e0
    split at e0
    · rename_i ds0 h0
      obtain ⟨a, xs0, hv, _, hH0, _⟩ := re.ownL h0
      exact ⟨_, hv, .inl ⟨rfl, xs0, SqL.of hH0⟩, mut_core hd re e hv .nil fun H' v ev re2 hr => q F H' ω v ev re2 hr⟩
    · cases e0
def gAppend : List D → List D → Option (D × List D) := fun ds es => match es with | [y] => if ds.length < sizeLine then some (.none, ds ++ [y]) else none | _ => none
theorem d_append {K : PySem.W.Frag} : DMut K rAppend gAppend := fun F H a xs ds vs es d ds' Q sf hH hs hv e q => by
  unfold gAppend at e
  split at e
  · split at e
    · rename_i hl
      cases e
      obtain ⟨v, rfl, h⟩ := dpa1 hv
      exact ⟨a, xs, v, rfl, rfl, hH, by rw [hs.length]; exact hl, q .non _ .non (hs.append (.cons h .nil))⟩
    · cases e
  · cases e
/-- x[k] = e -/
def gSetI (ds : List D) (k d : D) : Option (D × List D) := match k with | .int i => (ixN ds.length i).map fun j => (.none, ds.set j d) | _ => none
def ssetI (i : Nat) (f fi : M G D) : SM G := mbnd f fun d => fun ρ => match ρ[i]? with
  | some (.own (.seq _)) => mbnd fi (fun k => mbnd (wrO i fun ds => gSetI ds k d) fun _ => mret .nx) ρ
  | _ => none
theorem ds_setI {st : Stmt} {i : Nat} {f fi : M G D} (h : PS X st (tAsg (tD S pv f) (L2.gSub (tVar i) (tD S pv fi) rSetL))) : PS X st (tS S pv (ssetI i f fi)) :=
  ps_weak h fun En σ H ⟨F, ω, ρ, re, out, ρ', e, q⟩ => by
    obtain ⟨d, ρ1, e1, e2⟩ := mbnd_some e
    refine ⟨F, ω, ρ, re, d, ρ1, e1, fun F1 H1 ω1 v ev1 re1 r1 => ?_⟩
    split at e2
    · rename_i ds0 h0
      obtain ⟨a, xs0, hv, _, hH0, _⟩ := re1.ownL h0
      obtain ⟨k, ρ2, e3, e4⟩ := mbnd_some e2
      obtain ⟨d2, ρ3, e5, e6⟩ := mbnd_some e4
      cases e6
      refine ⟨_, hv, F1, ω1, ρ1, re1, k, ρ2, e3, fun F2 H2 ω2 u ev2 re2 r2 => ?_⟩
      unfold wrO at e5
      split at e5
      · rename_i ds1 h1
        obtain ⟨a1, xs1, hv1, hw1, hH1, hs1⟩ := re2.ownL h1
        rw [hv] at hv1
        cases hv1
        cases k with
        | int i' =>
          cases r2
          unfold gSetI at e5
          dsimp only at e5
          cases hj : ixN ds1.length i' with
          | none => rw [hj] at e5; cases e5
          | some j =>
            rw [hj] at e5
            cases e5
            refine ⟨a, xs1, i', j, rfl, rfl, hH1, by rw [hs1.length]; exact hj, ?_⟩
            obtain ⟨re3, ev3⟩ := re2.wr (u := .lst (xs1.set j v)) (o2 := .seq (ds1.set j d)) h1 hv hw1 ⟨a, _, rfl, hw1, upd_same, hs1.set (r1.mono ev2.ff) j⟩
            exact q F2 _ ω2 σ (ev1.trans (ev2.trans ev3)) re3 rfl
        | _ => cases e5
      · cases e5
    · cases e2
def gIxO : List D → D → Option D := fun ds k => match k with | .int i => atI ds i | _ => none
theorem d_ixO {K : PySem.W.Frag} : DOpO K (rIxL K) gIxO := fun F H a xs ds y dy d Q sf hH hs hy e q => by
  cases hy with
  | int i =>
    obtain ⟨v, h1, h2⟩ := atI_dp hs e
    exact ⟨a, xs, i, v, rfl, rfl, SqL.of hH, h1, q F H v (Al.refl sf) h2⟩
  | _ => cases e
def gLenO : List D → Option D := fun ds => some (.int ds.length)
theorem d_lenO {K : PySem.W.Frag} : DCallO K (fun xs H Q => ∃ x n, xs = [x] ∧ LenV K x H n ∧ Q (.int n) H) gLenO := fun F H a xs ds d Q sf hH hs e q => by
  cases e
  exact ⟨_, _, rfl, .inl ⟨xs, SqL.of hH, rfl⟩, q F H _ (Al.refl sf) (by rw [hs.length]; exact .int _)⟩
end
end DL
set_option Elab.async false
set_option linter.all false
set_option maxRecDepth 100000
set_option maxHeartbeats 1000000
namespace DL
open PySem PySem.Spec PyProof.Rows L2
variable {G : Type}

/-! ### comprehensions -/
def wipeR (ρ : List (Sl G)) : List Nat → List (Sl G)
  | [] => ρ
  | v :: vs => (wipeR ρ vs).set v .un
def restR (ρ0 ρ : List (Sl G)) : List Nat → List (Sl G)
  | [] => ρ
  | v :: vs => (restR ρ0 ρ vs).set v (ρ0.getD v .un)
def isOwn : Sl G → Bool
  | .own _ => true
  | _ => false
def okW (ρ : List (Sl G)) (vs : List Nat) : Bool := vs.all fun v => !isOwn (ρ.getD v .un)
def compM (vs : List Nat) (tg : D → List (Sl G) → Option (List (Sl G))) (tt : M G Bool) (te : M G D) : List D → M G (List D)
  | [] => fun ρ => some ([], ρ)
  | d :: ds => fun ρ => match tg d ρ with
    | none => none
    | some ρ1 => match tt ρ1 with
      | none => none
      | some (true, ρ2) => match te ρ2 with
        | none => none
        | some (y, ρ3) => match compM vs tg tt te ds (wipeR ρ3 vs) with
          | none => none
          | some (ys, ρ4) => some (y :: ys, ρ4)
      | some (false, ρ2) => compM vs tg tt te ds (wipeR ρ2 vs)
def mcomp (it : M G (List D)) (vs : List Nat) (tg : D → List (Sl G) → Option (List (Sl G))) (tt : M G Bool) (te : M G D) : M G (List D) :=
  mbnd it fun ds => fun ρ => if okW ρ vs = true ∧ ds.length ≤ sizeLine then
    (match compM vs tg tt te ds (wipeR ρ vs) with
    | none => none
    | some (ys, ρ') => some (ys, restR ρ ρ' vs)) else none
theorem restR_len (ρ0 ρ : List (Sl G)) : ∀ vs, (restR ρ0 ρ vs).length = ρ.length
  | [] => rfl
  | v :: vs => by unfold restR; rw [List.length_set, restR_len ρ0 ρ vs]
theorem restR_get {ρ0 ρ : List (Sl G)} {k : Nat} {s : Sl G} : ∀ {vs : List Nat}, (restR ρ0 ρ vs)[k]? = some s → (k ∈ vs ∧ s = ρ0.getD k .un) ∨ (k ∉ vs ∧ ρ[k]? = some s)
  | [], h => .inr ⟨by simp, h⟩
  | v :: vs, h => by
    unfold restR at h
    by_cases hv : v = k
    · subst hv
      have hl : v < (restR ρ0 ρ vs).length := by
        have := (List.getElem?_eq_some_iff.mp h).1
        rw [List.length_set] at this
        exact this
      rw [List.getElem?_set_self hl] at h
      cases h
      exact .inl ⟨List.mem_cons_self, rfl⟩
    · rw [List.getElem?_set_ne hv] at h
      rcases restR_get h with ⟨h1, h2⟩ | ⟨h1, h2⟩
      · exact .inl ⟨List.mem_cons_of_mem _ h1, h2⟩
      · exact .inr ⟨fun z => (List.mem_cons.mp z).elim (fun z => hv z.symm) h1, h2⟩
theorem wipe_at {σ : L2.St} {k : Nat} : ∀ {vs : List Nat}, k ∈ vs → k < σ.length → (wipe σ vs)[k]? = some none
  | [], h, _ => by simp at h
  | v :: vs, h, hl => by
    unfold wipe
    by_cases hv : v = k
    · subst hv
      rw [List.getElem?_set_self (by rw [wipe_length]; exact hl)]
    · rw [List.getElem?_set_ne hv]
      exact wipe_at ((List.mem_cons.mp h).elim (fun z => absurd z.symm hv) id) hl
theorem wipe_eq {σ σ2 : L2.St} {is vs : List Nat} (hs : ∀ k ∈ is, k ∈ vs) (hl : σ2.length = (wipe σ vs).length) (hk : ∀ k, k ∉ is → σ2[k]? = (wipe σ vs)[k]?) : wipe σ2 vs = wipe σ vs := by
  rw [wipe_length] at hl
  apply List.ext_getElem?
  intro k
  by_cases hv : k ∈ vs
  · by_cases hlt : k < σ.length
    · rw [wipe_at hv hlt, wipe_at hv (by omega)]
    · rw [List.getElem?_eq_none (by rw [wipe_length]; omega), List.getElem?_eq_none (by rw [wipe_length]; omega)]
  · rw [wipe_out hv, hk k fun z => hv (hs k z)]
section
variable {K : PySem.W.Frag} {S : GS K G} {pv : List V} {F H F' H' : Hp} {ω ω' : Om} {σ : L2.St} {ρ : List (Sl G)}
theorem RE.wipe (r : RE S pv F H ω σ ρ) : ∀ vs, RE S pv F H ω (L2.wipe σ vs) (wipeR ρ vs)
  | [] => r
  | v :: vs => (RE.wipe r vs).drop v none
/-- a thing that is nobody's is written, or is new -/
theorem RE.junk {a : Addr} {u : HO} (r : RE S pv F H ω σ ρ) (hf : F a = none) (hw : ω a = none) : RE S pv F (upd H a u) ω σ ρ where
  len := r.len
  fh := fun b o e => by
    rw [upd_ne (fun z => by rw [z, hf] at e; cases e)]
    exact r.fh b o e
  wf := fun b i e => by
    have hb : b ≠ a := fun z => by rw [z, hw] at e; cases e
    rw [upd_ne hb]
    exact r.wf b i e
  slot := fun i s e => by
    obtain ⟨x, h1, h2⟩ := r.slot i s e
    refine ⟨x, h1, h2.mono (Same.refl F) (fun b o hb h => ?_) fun _ z => z⟩
    have hba : b ≠ a := fun z => by rw [z, hw] at hb; cases hb
    rw [upd_ne hba]
    exact h
  fix := r.fix
theorem Ev.keepD {D : Addr} {o : HO} (e : Ev F H ω F' H' ω') (h : H D = some o) (hf : F D = none) (hw : ω D = none) : H' D = some o ∧ F' D = none ∧ ω' D = none := by
  refine ⟨e.hh D o h hw, ?_, ?_⟩
  · cases q : F' D with
    | none => rfl
    | some u =>
      rcases e.fn D u q with z | z | z
      · rw [hf] at z; cases z
      · rw [h] at z; cases z
      · exact absurd hw z
  · cases q : ω' D with
    | none => rfl
    | some u =>
      rcases e.wn D (by rw [q]; simp) with z | z
      · exact absurd hw z
      · rw [h] at z; cases z
/-- nobody's list stands for good from now on -/
theorem RE.frzJ {a : Addr} {xs : List V} (r : RE S pv F H ω σ ρ) (hf : F a = none) (hw : ω a = none) (hH : H a = some (.lst xs)) : RE S pv (upd F a (.lst xs)) H ω σ ρ where
  len := r.len
  fh := fun b o e => by
    by_cases hb : b = a
    · subst hb; rw [upd_same] at e; cases e; exact hH
    · rw [upd_ne hb] at e; exact r.fh b o e
  wf := fun b i e => by
    have hb : b ≠ a := fun z => by rw [z, hw] at e; cases e
    rw [upd_ne hb]
    exact r.wf b i e
  slot := fun i s e => by
    obtain ⟨x, h1, h2⟩ := r.slot i s e
    exact ⟨x, h1, h2.mono (same_new hf) (fun _ _ _ h => h) fun _ z => z⟩
  fix := r.fix
theorem RE.mark {a : Addr} {n : Nat} (r : RE S pv F H ω σ ρ) (hf : F a = none) (hw : ω a = none) (hH : H a ≠ none) : RE S pv F H (fun b => if b = a then some n else ω b) σ ρ where
  len := r.len
  fh := r.fh
  wf := fun b i e => by
    by_cases hb : b = a
    · subst hb; exact ⟨hf, hH⟩
    · rw [if_neg hb] at e; exact r.wf b i e
  slot := fun i s e => by
    obtain ⟨x, h1, h2⟩ := r.slot i s e
    refine ⟨x, h1, h2.mono (Same.refl F) (fun _ _ _ h => h) fun b hb => ?_⟩
    show (if b = a then some n else ω b) = some i
    rw [if_neg (fun z => by rw [z, hw] at hb; cases hb)]
    exact hb
  fix := r.fix
theorem RE.rest {vs : List Nat} {ρ2 : List (Sl G)} (r : RE S pv F H ω σ ρ) (r2 : RE S pv F' H' ω' (L2.wipe σ vs) ρ2) (ev : Ev F H ω F' H' ω') (ok : okW ρ vs = true) : RE S pv F' H' ω' σ (restR ρ ρ2 vs) where
  len := by rw [restR_len, ← r2.len, wipe_length]
  fh := r2.fh
  wf := r2.wf
  slot := fun i s e => by
    rcases restR_get e with ⟨h1, h2⟩ | ⟨h1, h2⟩
    · cases hρ : ρ[i]? with
      | none =>
        rw [List.getD_eq_getElem?_getD, hρ] at h2
        have h2 : s = .un := h2
        subst h2
        have hl : i < σ.length := by
          have h3 := (List.getElem?_eq_some_iff.mp e).1
          rw [restR_len, ← r2.len, wipe_length] at h3
          exact h3
        exact ⟨σ[i], List.getElem?_eq_getElem hl, trivial⟩
      | some s0 =>
        rw [List.getD_eq_getElem?_getD, hρ] at h2
        have h2 : s = s0 := h2
        subst h2
        obtain ⟨x, h3, h4⟩ := r.slot i s hρ
        refine ⟨x, h3, ?_⟩
        have := List.all_eq_true.mp ok i h1
        rw [List.getD_eq_getElem?_getD, hρ] at this
        cases s with
        | un => trivial
        | val d => obtain ⟨v, e5, dp⟩ := h4; exact ⟨v, e5, dp.mono ev.ff⟩
        | own o => cases this
    · obtain ⟨x, h3, h4⟩ := r2.slot i s h2
      rw [wipe_out h1] at h3
      exact ⟨x, h3, h4⟩
  fix := fun i v o h1 h2 => by
    rcases restR_get h2 with ⟨h3, h4⟩ | ⟨h3, h4⟩
    · have := List.all_eq_true.mp ok i h3
      rw [← h4] at this
      cases this
    · have := r2.fix i v o h1 h4
      rw [wipe_out h3] at this
      exact this
end
section
variable {X : Cx} {S : GS X.K G} {pv : List V} {e : Expr} {pos : Pos}
theorem pts_weak {es : List Expr} {t t' : TT} (h : PTs X es t) (w : ∀ σ H Q, t' σ H Q → t σ H Q) : PTs X es t' := ⟨fun pins s σ H Q I q => h.run pins s σ H Q I (w σ H Q q)⟩
theorem dts_nil : PTs X [] (tT S pv (mret true)) := pts_weak pts_nil fun σ H Q ⟨F, q⟩ => q.ret1 rfl
theorem dts_one {c : Expr} {f : M G Bool} (h : PT X c (tT S pv f)) : PTs X [c] (tT S pv f) := pts_one h
theorem comp_core {it : M G (List D)} {g : TG} {is vs : List Nat} {tg} {tt : M G Bool} {te : M G D} (hg : DTg S pv g is tg) (hs : ∀ k ∈ is, k ∈ vs) {F : Hp} {σ : L2.St} {H : Hp} {Q : VK} {ω : Om} {ρ : List (Sl G)} {ys : List D} {ρ' : List (Sl G)}
    (re : RE S pv F H ω σ ρ) (e : mcomp it vs tg tt te ρ = some (ys, ρ'))
    (q : ∀ F' H' ω' D acc, Ev F H ω F' H' ω' → RE S pv F' H' ω' σ ρ' → H' D = some (.lst acc) → F' D = none → ω' D = none → H D = none → DqAll X.K F' acc ys → Q (.ref D) H') :
    tLc (tI S pv it) g (tT S pv tt) (tD S pv te) vs σ H Q := by
  obtain ⟨ds, ρ1, e1, e2⟩ := mbnd_some e
  by_cases hc : okW ρ1 vs = true ∧ ds.length ≤ sizeLine
  case neg => rw [if_neg hc] at e2; cases e2
  rw [if_pos hc] at e2
  cases e3 : compM vs tg tt te ds (wipeR ρ1 vs) with
  | none => simp only [e3] at e2; cases e2
  | some p =>
    obtain ⟨ys', ρe⟩ := p
    simp only [e3] at e2
    cases e2
    refine ⟨F, ω, ρ, re, ds, ρ1, e1, fun F1 H1 ω1 J ev1 re1 wk => ?_⟩
    intro D hD
    have f1D : F1 D = none := re1.fh.free hD
    have w1D : ω1 D = none := by
      cases q : ω1 D with
      | none => rfl
      | some i => exact absurd hD (re1.wf D i q).2
    let Inv (i : Nat) (H2 : Hp) : Prop := ∃ F2 ω2 ρ2 acc dacc zs, Ev F1 H1 ω1 F2 H2 ω2 ∧ RE S pv F2 H2 ω2 (L2.wipe σ vs) ρ2 ∧ H2 D = some (.lst acc) ∧ F2 D = none ∧ ω2 D = none ∧ DqAll X.K F2 acc dacc ∧ dacc.length ≤ i ∧
        compM vs tg tt te (ds.drop i) ρ2 = some (zs, ρe) ∧ dacc ++ zs = ys
    have i0 : Inv 0 (upd H1 D (.lst [])) := by
      refine ⟨F1, ω1, wipeR ρ1 vs, [], [], ys, ⟨Same.refl _, fun _ _ h => .inl h, fun b o h _ => same_new hD b o h, fun _ h => .inl h, fun b h => ne_none_of (same_new hD) h⟩, (re1.wipe vs).junk f1D w1D, upd_same, f1D, w1D, .nil, Nat.le_refl _, e3, rfl⟩
    refine ⟨fun i m H2 => m = ds.length - i ∧ i ≤ ds.length ∧ Inv i H2, ⟨ds.length, by simp, Nat.zero_le _, i0⟩, ?_⟩
    rintro i m H2 ⟨rfl, hi, F2, ω2, ρ2, acc, dacc, zs, ev2, re2, hHD, hFD, hwD, hacc, hal, ec, ez⟩
    by_cases hlt : i < ds.length
    · refine .inr ⟨wk.go i F2 H2 ev2.ff re2.fh hlt, Inv (i + 1), fun H' hN => ⟨ds.length - (i + 1), by omega, rfl, hlt, hN⟩, fun x H3 hy => ?_⟩
      obtain ⟨F3, d, hd, al, dp⟩ := wk.yld i F2 H2 x H3 ev2.ff re2.fh hlt hy
      have hdr : ds.drop i = d :: ds.drop (i + 1) := by
        rw [List.drop_eq_getElem_cons hlt]
        rw [List.getElem?_eq_getElem hlt] at hd
        cases hd
        rfl
      rw [hdr] at ec
      unfold compM at ec
      cases et : tg d ρ2 with
      | none => simp only [et] at ec; cases ec
      | some ρ3 =>
        simp only [et] at ec
        have evA := al.ev (ω := ω2)
        obtain ⟨h3D, f3D, w3D⟩ := evA.keepD hHD hFD hwD
        refine hg F3 H3 ω2 _ ρ2 x d ρ3 _ (re2.al al) dp et fun σ2 re3 hl3 hk3 => ?_
        have hwe : L2.wipe σ2 vs = L2.wipe σ vs := wipe_eq hs hl3 hk3
        refine ⟨hwe, ?_⟩
        cases eb : tt ρ3 with
        | none => simp only [eb] at ec; cases ec
        | some p =>
          obtain ⟨b, ρ4⟩ := p
          refine ⟨F3, ω2, ρ3, re3, b, ρ4, eb, fun F4 H4 ω4 b' ev4 re4 r4 => ?_⟩
          cases r4
          obtain ⟨h4D, f4D, w4D⟩ := ev4.keepD h3D f3D w3D
          have ev14 := ev2.trans (evA.trans ev4)
          cases b with
          | false =>
            simp only [eb] at ec
            refine iteF ⟨F4, ω4, wipeR ρ4 vs, acc, dacc, zs, ev14, ?_, h4D, f4D, w4D, hacc.mono (al.ff.trans ev4.ff), by omega, ec, ez⟩
            rw [← hwe]
            exact re4.wipe vs
          | true =>
            simp only [eb] at ec
            refine iteT ?_
            cases ee : te ρ4 with
            | none => simp only [ee] at ec; cases ec
            | some p =>
              obtain ⟨y, ρ5⟩ := p
              simp only [ee] at ec
              cases er : compM vs tg tt te (ds.drop (i + 1)) (wipeR ρ5 vs) with
              | none => simp only [er] at ec; cases ec
              | some p =>
                obtain ⟨zs', ρ6⟩ := p
                simp only [er] at ec
                cases ec
                refine ⟨F4, ω4, ρ4, re4, y, ρ5, ee, fun F5 H5 ω5 v ev5 re5 r5 => ?_⟩
                obtain ⟨h5D, f5D, w5D⟩ := ev5.keepD h4D f4D w4D
                have hl : acc.length = dacc.length := hacc.length
                refine ⟨acc, h5D, by omega, F5, ω5, wipeR ρ5 vs, acc ++ [v], dacc ++ [y], zs', ?_, ?_, upd_same, f5D, w5D, (hacc.mono (al.ff.trans (ev4.ff.trans ev5.ff))).append (.cons r5 .nil), by rw [List.length_append]; exact Nat.add_le_add_right hal 1, er, by rw [← ez]; simp⟩
                · have ev15 := ev14.trans ev5
                  refine ⟨ev15.ff, ev15.fn, fun b o h hw => ?_, ev15.wn, fun b h => ?_⟩
                  · rw [upd_ne (fun z => by rw [z, hD] at h; cases h)]
                    exact ev15.hh b o h hw
                  · by_cases hb : b = D
                    · rw [hb, upd_same]; simp
                    · rw [upd_ne hb]; exact ev15.dom b h
                · refine RE.junk ?_ f5D w5D
                  rw [← hwe]
                  exact re5.wipe vs
    · have e : i = ds.length := by omega
      subst e
      rw [List.drop_length] at ec
      cases ec
      refine .inl ⟨wk.stop F2 H2 ev2.ff re2.fh, ?_⟩
      rw [List.append_nil] at ez
      subst ez
      refine q F2 H2 ω2 D acc (ev1.trans ev2) (re1.rest re2 ev2 hc.1) hHD hFD hwD ?_ hacc
      cases qh : H D with
      | none => rfl
      | some u => exact absurd hD (ev1.dom D (by rw [qh]; simp))
def mlc (f : M G (List D)) : M G D := mbnd f fun ds => mret (.list ds)
def molc (f : M G (List D)) : M G (Ow G) := mbnd f fun ds => mret (.seq ds)
theorem dv_lc {it : M G (List D)} {g : TG} {is vs : List Nat} {tg} {tt : M G Bool} {te : M G D} (h : PE X e (tLc (tI S pv it) g (tT S pv tt) (tD S pv te) vs)) (hg : DTg S pv g is tg) (hs : ∀ k ∈ is, k ∈ vs) : PE X e (tD S pv (mlc (mcomp it vs tg tt te))) :=
  pe_weak h fun σ H Q ⟨F, ω, ρ, re, d, ρ', e, q⟩ => by
    obtain ⟨ys, ρ1, e1, e2⟩ := mbnd_some e
    cases e2
    refine comp_core hg hs re e1 fun F' H' ω' D acc ev re' h1 h2 h3 h4 h5 => ?_
    refine q _ H' ω' _ ⟨ev.ff.trans (same_new h2), fun b o hb => ?_, ev.hh, ev.wn, ev.dom⟩ (re'.frzJ h2 h3 h1) (.lst (.of upd_same) (h5.mono (same_new h2)))
    by_cases hbD : b = D
    · rw [hbD]; exact .inr (.inl h4)
    · rw [upd_ne hbD] at hb; exact ev.fn b o hb
theorem do_lc {it : M G (List D)} {g : TG} {is vs : List Nat} {tg} {tt : M G Bool} {te : M G D} (h : PE X e (tLc (tI S pv it) g (tT S pv tt) (tD S pv te) vs)) (hg : DTg S pv g is tg) (hs : ∀ k ∈ is, k ∈ vs) : PE X e (tO S pv (molc (mcomp it vs tg tt te))) :=
  pe_weak h fun σ H Q ⟨F, ω, ρ, re, d, ρ', e, q⟩ => by
    obtain ⟨ys, ρ1, e1, e2⟩ := mbnd_some e
    cases e2
    refine comp_core hg hs re e1 fun F' H' ω' D acc ev re' h1 h2 h3 h4 h5 => ?_
    refine q F' H' _ _ ⟨ev.ff, ev.fn, ev.hh, fun b hb => ?_, ev.dom⟩ (re'.mark h2 h3 (n := σ.length) (by rw [h1]; simp)) ⟨D, acc, rfl, ?_, h1, h5⟩
    · by_cases hbD : b = D
      · rw [hbD]; exact .inr h4
      · rw [if_neg hbD] at hb; exact ev.wn b hb
    · show (if D = D then some σ.length else ω' D) = some σ.length
      rw [if_pos rfl]
/-- y = [..] -/
theorem ds_setLc {it : M G (List D)} {g : TG} {is vs : List Nat} {tg} {tt : M G Bool} {te : M G D} {st : Stmt} {i : Nat} (h : PS X st (tAsg (tLc (tI S pv it) g (tT S pv tt) (tD S pv te) vs) (gName i))) (hg : DTg S pv g is tg) (hs : ∀ k ∈ is, k ∈ vs) : PS X st (tS S pv (sset i (mlc (mcomp it vs tg tt te)))) :=
  ds_set (ps_weak h fun En σ H ⟨F, ω, ρ, re, d, ρ', e, q⟩ => by
    obtain ⟨ys, ρ1, e1, e2⟩ := mbnd_some e
    cases e2
    refine comp_core hg hs re e1 fun F' H' ω' D acc ev re' h1 h2 h3 h4 h5 => ?_
    refine q _ H' ω' _ ⟨ev.ff.trans (same_new h2), fun b o hb => ?_, ev.hh, ev.wn, ev.dom⟩ (re'.frzJ h2 h3 h1) (.lst (.of upd_same) (h5.mono (same_new h2)))
    by_cases hbD : b = D
    · rw [hbD]; exact .inr (.inl h4)
    · rw [upd_ne hbD] at hb; exact ev.fn b o hb)
theorem ds_setLcO {it : M G (List D)} {g : TG} {is vs : List Nat} {tg} {tt : M G Bool} {te : M G D} {st : Stmt} {i np : Nat} (h : PS X st (tAsg (tLc (tI S pv it) g (tT S pv tt) (tD S pv te) vs) (gName i))) (hg : DTg S pv g is tg) (hs : ∀ k ∈ is, k ∈ vs) (hp : pv.length = np) : PS X st (tS S pv (ssetO np i (molc (mcomp it vs tg tt te)))) :=
  ds_setO (ps_weak h fun En σ H ⟨F, ω, ρ, re, d, ρ', e, q⟩ => by
    obtain ⟨ys, ρ1, e1, e2⟩ := mbnd_some e
    cases e2
    refine comp_core hg hs re e1 fun F' H' ω' D acc ev re' h1 h2 h3 h4 h5 => ?_
    refine q F' H' _ _ ⟨ev.ff, ev.fn, ev.hh, fun b hb => ?_, ev.dom⟩ (re'.mark h2 h3 (n := σ.length) (by rw [h1]; simp)) ⟨D, acc, rfl, ?_, h1, h5⟩
    · by_cases hbD : b = D
      · rw [hbD]; exact .inr h4
      · rw [if_neg hbD] at hb; exact ev.wn b hb
    · show (if D = D then some σ.length else ω' D) = some σ.length
      rw [if_pos rfl]) hp
end
end DL
set_option Elab.async false
set_option linter.all false
set_option maxRecDepth 100000
set_option maxHeartbeats 1000000
namespace DL
open PySem PySem.Spec PyProof.Rows L2
/-- a def of the module that may be called by its name x -/
structure CalF (P : Program) (w : World) (K : PySem.W.Frag) (mg : Str → Option Value) (base : Heap) (k : Nat) (x : Str) (ps : List Str) (sp : Sp) : Prop where
  ex : ∃ (f : Addr) (fd : FuncData), FnOk P w K mg base CX0 k f fd ps sp ∧ mg x = some (.ref f) ∧ PySem.W.keepIn K (.ref f) = true ∧ Binds K fd ps []
theorem pe_cal {X : Cx} {k : Nat} {x : Str} {ps : List Str} {sp : Sp} {p cpos : Pos} {e : Expr} {es : List Expr} {t : TA} (C : CalF X.prog X.w X.K X.mg X.base k x ps sp) (hr : Room k X.A) (hg : Gl X x) (ha : PA X (e :: es) t)
    (hdb : (x == ("__debug__" : Str)) = false := by decide)
    (hs : starEach (e :: es) X.env = (false, eval e X.env) :: starEach es X.env := by rfl) (hplain : (backTo cpos (starEach es X.env)).any (·.1) = false := by rfl) :
    PE X (.Call (.Name x p) (e :: es) [] cpos) (tCall sp [] E0 t) := by
  obtain ⟨f, fd, F, hm, hk, hb⟩ := C.ex
  exact pe_call F hr hg hm hk hb .nil pass0 ha hdb hs hplain
theorem law_start {K : PySem.W.Frag} {g : FM Empty} (hg : ∀ ns : List Int, ns.length ≤ 63 → ∃ ρ', g [.val (.list (ns.map PyData.int))] = some (.val (.bool true), ρ')) {H : Hp} {a : Addr} {ns : List Int} {E : XK} (hl : ns.length ≤ 63)
    (hS : SqL K H a (ns.map V.int)) : spF (noG K) 1 g [.ref a] H (fun v _ => v = .bl true) E := by
  obtain ⟨ρ', e⟩ := hg ns hl
  refine ⟨rfl, H, fun _ => none, [.val (.list (ns.map PyData.int))], ⟨rfl, Same.refl H, (fun b i h => by cases h), (fun i s h => ?_), (fun i v o _ h => ?_)⟩, _, _, e, fun F' H' ω' v ev re r => ?_⟩
  · cases i with
    | zero => cases h; exact ⟨_, rfl, _, rfl, .lst hS (dpa_ints ns)⟩
    | succ i => simp at h
  · cases i with
    | zero => cases h
    | succ i => simp at h
  · cases r
    rfl
end DL
set_option Elab.async false
set_option linter.all false
set_option maxRecDepth 100000
set_option maxHeartbeats 1000000
namespace DL
open PySem PySem.Spec PyProof.Rows L2
variable {G : Type} {α β : Type}
/-! ### what a mirror does, by what is wanted behind it -/
def WPm (f : M G α) (ρ : List (Sl G)) (Q : α → List (Sl G) → Prop) : Prop := ∃ a ρ', f ρ = some (a, ρ') ∧ Q a ρ'
theorem wp_mono {f : M G α} {ρ : List (Sl G)} {Q Q' : α → List (Sl G) → Prop} (h : WPm f ρ Q) (q : ∀ a ρ', Q a ρ' → Q' a ρ') : WPm f ρ Q' := let ⟨a, ρ', e, r⟩ := h; ⟨a, ρ', e, q a ρ' r⟩
theorem wp_ret {a : α} {ρ : List (Sl G)} {Q : α → List (Sl G) → Prop} : WPm (mret a) ρ Q ↔ Q a ρ := ⟨fun ⟨_, _, e, q⟩ => by cases e; exact q, fun q => ⟨a, ρ, rfl, q⟩⟩
theorem wp_bnd {f : M G α} {k : α → M G β} {ρ : List (Sl G)} {Q : β → List (Sl G) → Prop} : WPm (mbnd f k) ρ Q ↔ WPm f ρ fun a ρ' => WPm (k a) ρ' Q := by
  constructor
  · rintro ⟨b, ρ2, e, q⟩
    obtain ⟨a, ρ1, e1, e2⟩ := mbnd_some e
    exact ⟨a, ρ1, e1, b, ρ2, e2, q⟩
  · rintro ⟨a, ρ1, e1, b, ρ2, e2, q⟩
    refine ⟨b, ρ2, ?_, q⟩
    unfold mbnd
    rw [e1]
    exact e2
theorem wp_some {a : α} {ρ : List (Sl G)} {Q : α → List (Sl G) → Prop} : WPm (mlft (some a)) ρ Q ↔ Q a ρ := ⟨fun ⟨_, _, e, q⟩ => by cases e; exact q, fun q => ⟨a, ρ, rfl, q⟩⟩
theorem wp_lft {o : Option α} {ρ : List (Sl G)} {Q : α → List (Sl G) → Prop} : WPm (mlft o) ρ Q ↔ ∃ a, o = some a ∧ Q a ρ := by
  constructor
  · rintro ⟨a, ρ', e, q⟩
    unfold mlft at e
    cases o with
    | none => cases e
    | some b => cases e; exact ⟨a, rfl, q⟩
  · rintro ⟨a, rfl, q⟩
    exact ⟨a, ρ, rfl, q⟩
theorem wp_set {i : Nat} {f : M G D} {ρ : List (Sl G)} {Q : Out G → List (Sl G) → Prop} : WPm (sset i f) ρ Q ↔ WPm f ρ fun d ρ' => Q .nx (ρ'.set i (.val d)) := by
  unfold sset
  rw [wp_bnd]
  exact ⟨fun h => wp_mono h fun a ρ' ⟨_, _, e, q⟩ => by cases e; exact q, fun h => wp_mono h fun a ρ' q => ⟨_, _, rfl, q⟩⟩
theorem wp_setO {i np : Nat} {f : M G (Ow G)} {ρ : List (Sl G)} {Q : Out G → List (Sl G) → Prop} (h : np ≤ i) : WPm (ssetO np i f) ρ Q ↔ WPm f ρ fun o ρ' => Q .nx (ρ'.set i (.own o)) := by
  unfold ssetO
  rw [wp_bnd]
  simp only [h, if_true]
  exact ⟨fun h => wp_mono h fun a ρ' ⟨_, _, e, q⟩ => by cases e; exact q, fun h => wp_mono h fun a ρ' q => ⟨_, _, rfl, q⟩⟩
theorem wp_sret {f : M G D} {ρ : List (Sl G)} {Q : Out G → List (Sl G) → Prop} : WPm (sret f) ρ Q ↔ WPm f ρ fun d ρ' => Q (.rt d) ρ' := by
  unfold sret
  rw [wp_bnd]
  simp only [wp_ret]
theorem wp_sretO {f : M G (Ow G)} {ρ : List (Sl G)} {Q : Out G → List (Sl G) → Prop} : WPm (sretO f) ρ Q ↔ WPm f ρ fun d ρ' => Q (.ro d) ρ' := by
  unfold sretO
  rw [wp_bnd]
  simp only [wp_ret]
theorem wp_expr {f : M G D} {ρ : List (Sl G)} {Q : Out G → List (Sl G) → Prop} : WPm (sexpr f) ρ Q ↔ WPm f ρ fun _ ρ' => Q .nx ρ' := by
  unfold sexpr
  rw [wp_bnd]
  simp only [wp_ret]
def seqQ (g : SM G) (Q : Out G → List (Sl G) → Prop) : Out G → List (Sl G) → Prop
  | .nx, ρ => WPm g ρ Q
  | o, ρ => Q o ρ
theorem wp_seq {f g : SM G} {ρ : List (Sl G)} {Q : Out G → List (Sl G) → Prop} : WPm (sseq f g) ρ Q ↔ WPm f ρ (seqQ g Q) := by
  constructor
  · rintro ⟨o, ρ2, e, q⟩
    unfold sseq at e
    cases e1 : f ρ with
    | none => rw [e1] at e; cases e
    | some p =>
      obtain ⟨o1, ρ1⟩ := p
      rw [e1] at e
      refine ⟨o1, ρ1, e1, ?_⟩
      cases o1 with
      | nx => exact ⟨o, ρ2, e, q⟩
      | _ => cases e; exact q
  · rintro ⟨o1, ρ1, e1, q⟩
    cases o1 with
    | nx =>
      obtain ⟨o, ρ2, e, q⟩ := q
      refine ⟨o, ρ2, ?_, q⟩
      unfold sseq
      rw [e1]
      exact e
    | _ =>
      refine ⟨_, ρ1, ?_, q⟩
      unfold sseq
      rw [e1]
theorem seqQ_nx {g : SM G} {Q : Out G → List (Sl G) → Prop} {ρ : List (Sl G)} : seqQ g Q .nx ρ ↔ WPm g ρ Q := Iff.rfl
theorem seqQ_rt {g : SM G} {Q : Out G → List (Sl G) → Prop} {ρ : List (Sl G)} {d : D} : seqQ g Q (.rt d) ρ ↔ Q (.rt d) ρ := Iff.rfl
theorem seqQ_ro {g : SM G} {Q : Out G → List (Sl G) → Prop} {ρ : List (Sl G)} {d : Ow G} : seqQ g Q (.ro d) ρ ↔ Q (.ro d) ρ := Iff.rfl
theorem seqQ_bk {g : SM G} {Q : Out G → List (Sl G) → Prop} {ρ : List (Sl G)} : seqQ g Q .bk ρ ↔ Q .bk ρ := Iff.rfl
theorem seqQ_ct {g : SM G} {Q : Out G → List (Sl G) → Prop} {ρ : List (Sl G)} : seqQ g Q .ct ρ ↔ Q .ct ρ := Iff.rfl
theorem wp_sif {c : M G Bool} {f g : SM G} {ρ : List (Sl G)} {Q : Out G → List (Sl G) → Prop} : WPm (sif c f g) ρ Q ↔ WPm c ρ fun b ρ' => if b = true then WPm f ρ' Q else WPm g ρ' Q := by
  unfold sif
  rw [wp_bnd]
  exact ⟨fun h => wp_mono h fun b ρ' q => by cases b <;> exact q, fun h => wp_mono h fun b ρ' q => by cases b <;> exact q⟩
theorem wp_mif {c : M G Bool} {f g : M G α} {ρ : List (Sl G)} {Q : α → List (Sl G) → Prop} : WPm (mif c f g) ρ Q ↔ WPm c ρ fun b ρ' => if b = true then WPm f ρ' Q else WPm g ρ' Q := by
  unfold mif
  rw [wp_bnd]
  exact ⟨fun h => wp_mono h fun b ρ' q => by cases b <;> exact q, fun h => wp_mono h fun b ρ' q => by cases b <;> exact q⟩
theorem wp_mand {f g : M G Bool} {ρ : List (Sl G)} {Q : Bool → List (Sl G) → Prop} : WPm (mand f g) ρ Q ↔ WPm f ρ fun b ρ' => if b = true then WPm g ρ' Q else Q false ρ' := by
  unfold mand
  rw [wp_bnd]
  exact ⟨fun h => wp_mono h fun b ρ' q => by cases b <;> first | exact q | exact wp_ret.mp q, fun h => wp_mono h fun b ρ' q => by cases b <;> first | exact q | exact wp_ret.mpr q⟩
theorem wp_mor {f g : M G Bool} {ρ : List (Sl G)} {Q : Bool → List (Sl G) → Prop} : WPm (mor f g) ρ Q ↔ WPm f ρ fun b ρ' => if b = true then Q true ρ' else WPm g ρ' Q := by
  unfold mor
  rw [wp_bnd]
  exact ⟨fun h => wp_mono h fun b ρ' q => by cases b <;> first | exact q | exact wp_ret.mp q, fun h => wp_mono h fun b ρ' q => by cases b <;> first | exact q | exact wp_ret.mpr q⟩
theorem wp_mnot {f : M G Bool} {ρ : List (Sl G)} {Q : Bool → List (Sl G) → Prop} : WPm (mnot f) ρ Q ↔ WPm f ρ fun b ρ' => Q (!b) ρ' := by
  unfold mnot
  rw [wp_bnd]
  simp only [wp_ret]
theorem wp_mcons {f : M G D} {fs : M G (List D)} {ρ : List (Sl G)} {Q : List D → List (Sl G) → Prop} : WPm (mcons f fs) ρ Q ↔ WPm f ρ fun d ρ' => WPm fs ρ' fun ds ρ2 => Q (d :: ds) ρ2 := by
  unfold mcons
  simp only [wp_bnd, wp_ret]
theorem wp_mtest {f : M G D} {ρ : List (Sl G)} {Q : Bool → List (Sl G) → Prop} : WPm (mtest f) ρ Q ↔ WPm f ρ fun d ρ' => ∃ b, d = .bool b ∧ Q b ρ' := by
  unfold mtest
  rw [wp_bnd]
  refine ⟨fun h => wp_mono h fun d ρ' q => ?_, fun h => wp_mono h fun d ρ' ⟨b, e, q⟩ => ?_⟩
  · rw [wp_lft] at q
    obtain ⟨b, e, q⟩ := q
    cases d with
    | bool c => cases e; exact ⟨b, rfl, q⟩
    | _ => cases e
  · subst e
    exact wp_some.mpr q
theorem wp_rd {i : Nat} {ρ : List (Sl G)} {d : D} {Q : D → List (Sl G) → Prop} (h : ρ[i]? = some (.val d)) : WPm (rd i) ρ Q ↔ Q d ρ := by
  unfold WPm rd
  rw [h]
  exact ⟨fun ⟨_, _, e, q⟩ => by cases e; exact q, fun q => ⟨_, _, rfl, q⟩⟩
/-- a mirror that is a match of the slots -/
theorem wp_of {f : M G α} {ρ ρ' : List (Sl G)} {a : α} {Q : α → List (Sl G) → Prop} (h : f ρ = some (a, ρ')) : WPm f ρ Q ↔ Q a ρ' := ⟨fun ⟨_, _, e, q⟩ => by rw [h] at e; cases e; exact q, fun q => ⟨_, _, h, q⟩⟩
def lpQ (I : List (Sl G) → Prop) (Q : Out G → List (Sl G) → Prop) : Out G → List (Sl G) → Prop
  | .nx, ρ => I ρ
  | .ct, ρ => I ρ
  | .bk, ρ => Q .nx ρ
  | .rt d, ρ => Q (.rt d) ρ
  | .ro d, ρ => Q (.ro d) ρ
theorem lpQ_nx {I : List (Sl G) → Prop} {Q : Out G → List (Sl G) → Prop} {ρ : List (Sl G)} : lpQ I Q .nx ρ ↔ I ρ := Iff.rfl
theorem lpQ_ct {I : List (Sl G) → Prop} {Q : Out G → List (Sl G) → Prop} {ρ : List (Sl G)} : lpQ I Q .ct ρ ↔ I ρ := Iff.rfl
theorem lpQ_bk {I : List (Sl G) → Prop} {Q : Out G → List (Sl G) → Prop} {ρ : List (Sl G)} : lpQ I Q .bk ρ ↔ Q .nx ρ := Iff.rfl
theorem lpQ_rt {I : List (Sl G) → Prop} {Q : Out G → List (Sl G) → Prop} {ρ : List (Sl G)} {d : D} : lpQ I Q (.rt d) ρ ↔ Q (.rt d) ρ := Iff.rfl
theorem lpQ_ro {I : List (Sl G) → Prop} {Q : Out G → List (Sl G) → Prop} {ρ : List (Sl G)} {d : Ow G} : lpQ I Q (.ro d) ρ ↔ Q (.ro d) ρ := Iff.rfl
theorem wp_loop {tg : D → List (Sl G) → Option (List (Sl G))} {body : SM G} {ds : List D} {ρ : List (Sl G)} {Q : Out G → List (Sl G) → Prop} (Iv : Nat → List (Sl G) → Prop) (h0 : Iv 0 ρ)
    (hs : ∀ i d ρ, ds[i]? = some d → Iv i ρ → ∃ ρ1, tg d ρ = some ρ1 ∧ WPm body ρ1 (lpQ (Iv (i + 1)) Q)) (hd : ∀ ρ, Iv ds.length ρ → Q .nx ρ) : WPm (loopM tg body ds) ρ Q := by
  have key : ∀ (n i : Nat) (ρ : List (Sl G)), i + n = ds.length → Iv i ρ → WPm (loopM tg body (ds.drop i)) ρ Q := by
    intro n
    induction n with
    | zero =>
      intro i ρ hi h
      have e : i = ds.length := by omega
      subst e
      rw [List.drop_length]
      exact ⟨.nx, ρ, rfl, hd ρ h⟩
    | succ n ih =>
      intro i ρ hi h
      have hlt : i < ds.length := by omega
      rw [List.drop_eq_getElem_cons hlt]
      obtain ⟨ρ1, e1, o, ρ2, e2, q⟩ := hs i _ ρ (List.getElem?_eq_getElem hlt) h
      have go : ∀ r, (match o with | .nx => loopM tg body (ds.drop (i + 1)) ρ2 | .ct => loopM tg body (ds.drop (i + 1)) ρ2 | .bk => some (Out.nx, ρ2) | .rt d => some (.rt d, ρ2) | .ro d => some (.ro d, ρ2)) = r → loopM tg body (ds[i] :: ds.drop (i + 1)) ρ = r := by
        intro r hr
        unfold loopM
        rw [e1]
        dsimp only
        rw [e2]
        cases o <;> exact hr
      cases o with
      | nx =>
        obtain ⟨o3, ρ3, e3, q3⟩ := ih (i + 1) ρ2 (by omega) q
        exact ⟨o3, ρ3, go _ e3, q3⟩
      | ct =>
        obtain ⟨o3, ρ3, e3, q3⟩ := ih (i + 1) ρ2 (by omega) q
        exact ⟨o3, ρ3, go _ e3, q3⟩
      | bk => exact ⟨_, _, go _ rfl, q⟩
      | rt d => exact ⟨_, _, go _ rfl, q⟩
      | ro d => exact ⟨_, _, go _ rfl, q⟩
  have := key ds.length 0 ρ (by omega) h0
  rwa [List.drop_zero] at this
theorem wp_for {it : M G (List D)} {tg : D → List (Sl G) → Option (List (Sl G))} {body : SM G} {ρ : List (Sl G)} {Q : Out G → List (Sl G) → Prop} : WPm (sfor it tg body) ρ Q ↔ WPm it ρ fun ds ρ' => WPm (loopM tg body ds) ρ' Q := wp_bnd
theorem wp_comp {vs : List Nat} {tg : D → List (Sl G) → Option (List (Sl G))} {tt : M G Bool} {te : M G D} {ds : List D} {ρ : List (Sl G)} {Q : List D → List (Sl G) → Prop} (Iv : Nat → List D → List (Sl G) → Prop) (h0 : Iv 0 [] ρ)
    (hs : ∀ i d acc ρ, ds[i]? = some d → Iv i acc ρ → ∃ ρ1, tg d ρ = some ρ1 ∧ WPm tt ρ1 fun b ρ2 => if b = true then WPm te ρ2 fun y ρ3 => Iv (i + 1) (acc ++ [y]) (wipeR ρ3 vs) else Iv (i + 1) acc (wipeR ρ2 vs))
    (hd : ∀ ys ρ, Iv ds.length ys ρ → Q ys ρ) : WPm (compM vs tg tt te ds) ρ Q := by
  have key : ∀ (n i : Nat) (acc : List D) (ρ : List (Sl G)), i + n = ds.length → Iv i acc ρ → WPm (compM vs tg tt te (ds.drop i)) ρ fun ys ρ' => Q (acc ++ ys) ρ' := by
    intro n
    induction n with
    | zero =>
      intro i acc ρ hi h
      have e : i = ds.length := by omega
      subst e
      rw [List.drop_length]
      exact ⟨[], ρ, rfl, by dsimp only; rw [List.append_nil]; exact hd acc ρ h⟩
    | succ n ih =>
      intro i acc ρ hi h
      have hlt : i < ds.length := by omega
      rw [List.drop_eq_getElem_cons hlt]
      obtain ⟨ρ1, e1, b, ρ2, e2, q⟩ := hs i _ acc ρ (List.getElem?_eq_getElem hlt) h
      cases b with
      | true =>
        obtain ⟨y, ρ3, e3, q⟩ := (if_pos rfl).mp q
        obtain ⟨ys, ρ4, e4, q4⟩ := ih (i + 1) (acc ++ [y]) _ (by omega) q
        refine ⟨y :: ys, ρ4, ?_, by rw [List.append_assoc] at q4; exact q4⟩
        unfold compM
        rw [e1]
        dsimp only
        rw [e2]
        dsimp only
        rw [e3]
        dsimp only
        rw [e4]
      | false =>
        have q : Iv (i + 1) acc (wipeR ρ2 vs) := q
        obtain ⟨ys, ρ4, e4, q4⟩ := ih (i + 1) acc _ (by omega) q
        refine ⟨ys, ρ4, ?_, q4⟩
        unfold compM
        rw [e1]
        dsimp only
        rw [e2]
        exact e4
  have := key ds.length 0 [] ρ (by omega) h0
  rwa [List.drop_zero] at this
theorem wp_mcomp {it : M G (List D)} {vs : List Nat} {tg : D → List (Sl G) → Option (List (Sl G))} {tt : M G Bool} {te : M G D} {ρ : List (Sl G)} {Q : List D → List (Sl G) → Prop} :
    WPm (mcomp it vs tg tt te) ρ Q ↔ WPm it ρ fun ds ρ1 => okW ρ1 vs = true ∧ ds.length ≤ sizeLine ∧ WPm (compM vs tg tt te ds) (wipeR ρ1 vs) fun ys ρ2 => Q ys (restR ρ1 ρ2 vs) := by
  unfold mcomp
  rw [wp_bnd]
  refine ⟨fun h => wp_mono h fun ds ρ1 hh => ?_, fun h => wp_mono h fun ds ρ1 ⟨h1, h2, ys, ρ2, e, q⟩ => ?_⟩
  · obtain ⟨a, ρ2, e, q⟩ := hh
    dsimp only at e
    by_cases hc : okW ρ1 vs = true ∧ ds.length ≤ sizeLine
    · rw [if_pos hc] at e
      refine ⟨hc.1, hc.2, ?_⟩
      cases ec : compM vs tg tt te ds (wipeR ρ1 vs) with
      | none => simp only [ec] at e; cases e
      | some p =>
        simp only [ec] at e
        cases e
        exact ⟨_, _, ec, q⟩
    · rw [if_neg hc] at e; cases e
  · refine ⟨ys, restR ρ1 ρ2 vs, ?_, q⟩
    dsimp only
    rw [if_pos ⟨h1, h2⟩, e]
theorem wp_mlc {f : M G (List D)} {ρ : List (Sl G)} {Q : D → List (Sl G) → Prop} : WPm (mlc f) ρ Q ↔ WPm f ρ fun ds ρ' => Q (.list ds) ρ' := by
  unfold mlc
  simp only [wp_bnd, wp_ret]
theorem wp_molc {f : M G (List D)} {ρ : List (Sl G)} {Q : Ow G → List (Sl G) → Prop} : WPm (molc f) ρ Q ↔ WPm f ρ fun ds ρ' => Q (.seq ds) ρ' := by
  unfold molc
  simp only [wp_bnd, wp_ret]
/-- a call of a def whose promise is told -/
def callQ (g : FM G) (ρc : List (Sl G)) (Q : D → List (Sl G) → Prop) : Prop := ∃ d ρc', g ρc = some (.val d, ρc') ∧ Q d ρc'
def callO (g : FM G) (ρc : List (Sl G)) (Q : Ow G → List (Sl G) → Prop) : Prop := ∃ d ρc', g ρc = some (.own d, ρc') ∧ Q d ρc'
theorem wp_callV {fs : M G (List Ag)} {g : FM G} {ρ : List (Sl G)} {Q : D → List (Sl G) → Prop} : WPm (mcallV fs g) ρ Q ↔ WPm fs ρ fun as ρ1 => callQ g (gath as ρ1 0 as) fun d ρc => Q d (scat as ρc 0 ρ1) := by
  unfold WPm mcallV mcall callQ
  constructor
  · rintro ⟨d, ρ', e, q⟩
    cases e1 : fs ρ with
    | none => simp only [e1] at e; cases e
    | some p =>
      obtain ⟨as, ρ1⟩ := p
      simp only [e1] at e
      cases e2 : g (gath as ρ1 0 as) with
      | none => simp only [e2] at e; cases e
      | some p =>
        obtain ⟨r, ρc⟩ := p
        simp only [e2] at e
        cases r with
        | val d' => cases e; exact ⟨as, ρ1, rfl, d, ρc, e2, q⟩
        | own o => cases e
  · rintro ⟨as, ρ1, e1, d, ρc, e2, q⟩
    exact ⟨d, _, by simp only [e1, e2], q⟩
theorem wp_callO {fs : M G (List Ag)} {g : FM G} {ρ : List (Sl G)} {Q : Ow G → List (Sl G) → Prop} : WPm (mcallO fs g) ρ Q ↔ WPm fs ρ fun as ρ1 => callO g (gath as ρ1 0 as) fun d ρc => Q d (scat as ρc 0 ρ1) := by
  unfold WPm mcallO mcall callO
  constructor
  · rintro ⟨d, ρ', e, q⟩
    cases e1 : fs ρ with
    | none => simp only [e1] at e; cases e
    | some p =>
      obtain ⟨as, ρ1⟩ := p
      simp only [e1] at e
      cases e2 : g (gath as ρ1 0 as) with
      | none => simp only [e2] at e; cases e
      | some p =>
        obtain ⟨r, ρc⟩ := p
        simp only [e2] at e
        cases r with
        | own d' => cases e; exact ⟨as, ρ1, rfl, d, ρc, e2, q⟩
        | val o => cases e
  · rintro ⟨as, ρ1, e1, d, ρc, e2, q⟩
    exact ⟨d, _, by simp only [e1, e2], q⟩
theorem wp_macons {f : M G D} {fs : M G (List Ag)} {ρ : List (Sl G)} {Q : List Ag → List (Sl G) → Prop} : WPm (macons f fs) ρ Q ↔ WPm f ρ fun d ρ' => WPm fs ρ' fun ds ρ2 => Q (.inl d :: ds) ρ2 := by
  unfold macons
  simp only [wp_bnd, wp_ret]
theorem wp_maown {i : Nat} {fs : M G (List Ag)} {ρ : List (Sl G)} {o : Ow G} {Q : List Ag → List (Sl G) → Prop} (h : ρ[i]? = some (.own o)) : WPm (maown i fs) ρ Q ↔ WPm fs ρ fun ds ρ2 => Q (.inr i :: ds) ρ2 := by
  have e : maown i fs ρ = mbnd fs (fun as => mret (.inr i :: as)) ρ := by unfold maown; rw [h]
  constructor
  · rintro ⟨a, ρ', e1, q⟩
    rw [e] at e1
    have := (wp_bnd (Q := Q)).mp ⟨a, ρ', e1, q⟩
    simpa only [wp_ret] using this
  · intro hh
    have : WPm (mbnd fs (fun as => mret (.inr i :: as))) ρ Q := by simpa only [wp_bnd, wp_ret] using hh
    obtain ⟨a, ρ', e1, q⟩ := this
    exact ⟨a, ρ', e.trans e1, q⟩
/-- a def's end -/
def closeO (ρ : List (Sl G)) (ρ2 : List (Sl G)) : Out G → Option (Res G × List (Sl G))
  | .nx => some (.val .none, List.zipWith mrg1 ρ ρ2)
  | .rt d => some (.val d, List.zipWith mrg1 ρ ρ2)
  | .ro o => some (.own o, List.zipWith mrg1 ρ ρ2)
  | _ => none
def clQ (ρ : List (Sl G)) (r : Res G × List (Sl G)) : Out G → List (Sl G) → Prop := fun o ρ2 => closeO ρ ρ2 o = some r
theorem clQ_nx {ρ ρ2 : List (Sl G)} {r : Res G × List (Sl G)} : clQ ρ r .nx ρ2 ↔ some (.val .none, List.zipWith mrg1 ρ ρ2) = some r := Iff.rfl
theorem clQ_rt {ρ ρ2 : List (Sl G)} {r : Res G × List (Sl G)} {d : D} : clQ ρ r (.rt d) ρ2 ↔ some (.val d, List.zipWith mrg1 ρ ρ2) = some r := Iff.rfl
theorem clQ_ro {ρ ρ2 : List (Sl G)} {r : Res G × List (Sl G)} {d : Ow G} : clQ ρ r (.ro d) ρ2 ↔ some (.own d, List.zipWith mrg1 ρ ρ2) = some r := Iff.rfl
theorem close_of {N : Nat} {m : SM G} {ρ : List (Sl G)} {r : Res G × List (Sl G)} (h : WPm m (ρ ++ List.replicate (N - ρ.length) .un) (clQ ρ r)) : close N m ρ = some r := by
  obtain ⟨o, ρ2, e, q⟩ := h
  unfold close
  rw [e]
  cases o <;> exact q

section
variable {ρ : List (Sl G)} {i : Nat}
def rdQ (i : Nat) (ρ : List (Sl G)) (Q : D → List (Sl G) → Prop) : Option (Sl G) → Prop
  | some (.val d) => Q d ρ
  | some (.own (.seq ds)) => Q (.list ds) (ρ.set i (.val (.list ds)))
  | _ => False
theorem wpr {Q : D → List (Sl G) → Prop} : WPm (rd i) ρ Q ↔ rdQ i ρ Q ρ[i]? := by
  unfold WPm rd
  split
  · rename_i d h
    rw [h]
    exact ⟨fun ⟨_, _, e, q⟩ => by cases e; exact q, fun q => ⟨_, _, rfl, q⟩⟩
  · rename_i ds h
    rw [h]
    exact ⟨fun ⟨_, _, e, q⟩ => by cases e; exact q, fun q => ⟨_, _, rfl, q⟩⟩
  · rename_i h1 h2
    constructor
    · rintro ⟨_, _, e, _⟩
      cases e
    · intro q
      unfold rdQ at q
      split at q
      · rename_i d h
        exact absurd h (h1 d)
      · rename_i ds h
        exact absurd h (h2 ds)
      · exact q.elim
theorem rdQ_val {Q : D → List (Sl G) → Prop} {d : D} : rdQ i ρ Q (some (.val d)) ↔ Q d ρ := Iff.rfl
theorem rdQ_own {Q : D → List (Sl G) → Prop} {ds : List D} : rdQ i ρ Q (some (.own (.seq ds))) ↔ Q (.list ds) (ρ.set i (.val (.list ds))) := Iff.rfl
/-- the list that a slot owns -/
def owQ (q : List D → Prop) : Option (Sl G) → Prop
  | some (.own (.seq ds)) => q ds
  | _ => False
theorem owQ_own {q : List D → Prop} {ds : List D} : owQ (G := G) q (some (.own (.seq ds))) ↔ q ds := Iff.rfl
theorem owQ_iff {q : List D → Prop} {s : Option (Sl G)} : owQ q s ↔ ∃ ds, s = some (.own (.seq ds)) ∧ q ds := by
  unfold owQ
  split
  · exact ⟨fun h => ⟨_, rfl, h⟩, fun ⟨_, e, h⟩ => by cases e; exact h⟩
  · rename_i h1
    exact ⟨fun h => h.elim, fun ⟨ds, e, _⟩ => h1 ds e⟩
theorem wpr_rdO {g : List D → Option D} {Q : D → List (Sl G) → Prop} : WPm (rdO i g) ρ Q ↔ owQ (fun ds => ∃ d, g ds = some d ∧ Q d ρ) ρ[i]? := by
  rw [owQ_iff]
  constructor
  · rintro ⟨d, ρ', e, q⟩
    unfold rdO at e
    split at e
    · rename_i ds h
      refine ⟨ds, h, ?_⟩
      cases eg : g ds with
      | none => rw [eg] at e; cases e
      | some d' => rw [eg] at e; cases e; exact ⟨_, rfl, q⟩
    · cases e
  · rintro ⟨ds, h, d, eg, q⟩
    exact ⟨d, ρ, by unfold rdO; rw [h]; dsimp only; rw [eg], q⟩
theorem wpr_wrO {g : List D → Option (D × List D)} {Q : D → List (Sl G) → Prop} : WPm (wrO i g) ρ Q ↔ owQ (fun ds => ∃ d ds', g ds = some (d, ds') ∧ Q d (ρ.set i (.own (.seq ds')))) ρ[i]? := by
  rw [owQ_iff]
  constructor
  · rintro ⟨d, ρ', e, q⟩
    unfold wrO at e
    split at e
    · rename_i ds h
      refine ⟨ds, h, ?_⟩
      cases eg : g ds with
      | none => rw [eg] at e; cases e
      | some d' => rw [eg] at e; cases e; exact ⟨_, _, rfl, q⟩
    · cases e
  · rintro ⟨ds, h, d, ds', eg, q⟩
    exact ⟨d, _, by unfold wrO; rw [h]; dsimp only; rw [eg], q⟩
theorem wpr_mopO {fb : M G D} {g : List D → D → Option D} {Q : D → List (Sl G) → Prop} : WPm (mopO i fb g) ρ Q ↔ owQ (fun _ => WPm fb ρ fun y ρ1 => WPm (rdO i fun ds => g ds y) ρ1 Q) ρ[i]? := by
  rw [owQ_iff]
  constructor
  · rintro ⟨d, ρ', e, q⟩
    unfold mopO at e
    split at e
    · rename_i ds h
      exact ⟨ds, h, wp_bnd.mp ⟨d, ρ', e, q⟩⟩
    · cases e
  · rintro ⟨ds, h, q⟩
    obtain ⟨d, ρ', e, q⟩ := wp_bnd.mpr q
    exact ⟨d, ρ', by unfold mopO; rw [h]; exact e, q⟩
theorem wpr_mmut {fs : M G (List D)} {g : List D → List D → Option (D × List D)} {Q : D → List (Sl G) → Prop} : WPm (mmut i fs g) ρ Q ↔ owQ (fun _ => WPm fs ρ fun es ρ1 => WPm (wrO i fun ds => g ds es) ρ1 Q) ρ[i]? := by
  rw [owQ_iff]
  constructor
  · rintro ⟨d, ρ', e, q⟩
    unfold mmut at e
    split at e
    · rename_i ds h
      exact ⟨ds, h, wp_bnd.mp ⟨d, ρ', e, q⟩⟩
    · cases e
  · rintro ⟨ds, h, q⟩
    obtain ⟨d, ρ', e, q⟩ := wp_bnd.mpr q
    exact ⟨d, ρ', by unfold mmut; rw [h]; exact e, q⟩
theorem wpr_setI {f fi : M G D} {Q : Out G → List (Sl G) → Prop} : WPm (ssetI i f fi) ρ Q ↔ WPm f ρ fun d ρ1 => owQ (fun _ => WPm fi ρ1 fun k ρ2 => WPm (wrO i fun ds => gSetI ds k d) ρ2 fun _ ρ3 => Q .nx ρ3) ρ1[i]? := by
  unfold ssetI
  rw [wp_bnd]
  refine ⟨fun h => wp_mono h fun d ρ1 hh => ?_, fun h => wp_mono h fun d ρ1 hh => ?_⟩
  · rw [owQ_iff]
    obtain ⟨o, ρ', e, q⟩ := hh
    dsimp only at e
    split at e
    · rename_i ds h
      refine ⟨ds, h, ?_⟩
      have := wp_bnd.mp ⟨o, ρ', e, q⟩
      simpa only [wp_bnd, wp_ret] using this
    · cases e
  · rw [owQ_iff] at hh
    obtain ⟨ds, h, q⟩ := hh
    have : WPm (mbnd fi (fun k => mbnd (wrO i fun ds => gSetI ds k d) fun _ => mret .nx)) ρ1 Q := by simpa only [wp_bnd, wp_ret] using q
    obtain ⟨o, ρ', e, q⟩ := this
    exact ⟨o, ρ', by dsimp only; rw [h]; exact e, q⟩
def anQ (q : Prop) : Option (Sl G) → Prop
  | some (.own _) => q
  | _ => False
theorem anQ_own {q : Prop} {o : Ow G} : anQ q (some (.own o)) ↔ q := Iff.rfl
theorem wpr_maown {fs : M G (List Ag)} {Q : List Ag → List (Sl G) → Prop} : WPm (maown i fs) ρ Q ↔ anQ (WPm fs ρ fun ds ρ2 => Q (.inr i :: ds) ρ2) ρ[i]? := by
  cases h : ρ[i]? with
  | none =>
    refine ⟨fun ⟨_, _, e, _⟩ => ?_, fun q => q.elim⟩
    unfold maown at e
    rw [h] at e
    cases e
  | some s =>
    cases s with
    | own o => exact wp_maown h
    | un =>
      refine ⟨fun ⟨_, _, e, _⟩ => ?_, fun q => q.elim⟩
      unfold maown at e
      rw [h] at e
      cases e
    | val d =>
      refine ⟨fun ⟨_, _, e, _⟩ => ?_, fun q => q.elim⟩
      unfold maown at e
      rw [h] at e
      cases e
def auQ (i : Nat) (f : M G D) (g : D → D → Option D) (ρ : List (Sl G)) (Q : Out G → List (Sl G) → Prop) : Option (Sl G) → Prop
  | some (.val x) => WPm f ρ fun y ρ1 => WPm (mlft (g x y)) ρ1 fun d ρ2 => Q .nx (ρ2.set i (.val d))
  | _ => False
theorem auQ_val {f : M G D} {g : D → D → Option D} {Q : Out G → List (Sl G) → Prop} {x : D} : auQ i f g ρ Q (some (.val x)) ↔ WPm f ρ fun y ρ1 => WPm (mlft (g x y)) ρ1 fun d ρ2 => Q .nx (ρ2.set i (.val d)) := Iff.rfl
theorem wpr_aug {f : M G D} {g : D → D → Option D} {Q : Out G → List (Sl G) → Prop} : WPm (saug i f g) ρ Q ↔ auQ i f g ρ Q ρ[i]? := by
  have key : ∀ x, ρ[i]? = some (.val x) → (WPm (saug i f g) ρ Q ↔ WPm f ρ fun y ρ1 => WPm (mlft (g x y)) ρ1 fun d ρ2 => Q .nx (ρ2.set i (.val d))) := by
    intro x h
    have e0 : saug i f g ρ = mbnd f (fun y => mbnd (mlft (g x y)) fun d => fun ρ => some (.nx, ρ.set i (.val d))) ρ := by unfold saug; rw [h]
    constructor
    · rintro ⟨o, ρ', e, q⟩
      rw [e0] at e
      refine wp_mono (wp_bnd.mp ⟨o, ρ', e, q⟩) fun y ρ1 h1 => wp_mono (wp_bnd.mp h1) fun d ρ2 ⟨_, _, e, q⟩ => ?_
      cases e
      exact q
    · intro h1
      obtain ⟨o, ρ', e, q⟩ := wp_bnd.mpr (wp_mono h1 fun y ρ1 h2 => wp_bnd.mpr (wp_mono h2 fun d ρ2 q => (⟨.nx, _, rfl, q⟩ : WPm (fun ρ => some (.nx, ρ.set i (.val d))) ρ2 Q)))
      exact ⟨o, ρ', e0.trans e, q⟩
  cases h : ρ[i]? with
  | none =>
    refine ⟨fun ⟨_, _, e, _⟩ => ?_, fun q => q.elim⟩
    unfold saug at e
    rw [h] at e
    cases e
  | some s =>
    cases s with
    | val x => exact key x h
    | un =>
      refine ⟨fun ⟨_, _, e, _⟩ => ?_, fun q => q.elim⟩
      unfold saug at e
      rw [h] at e
      cases e
    | own o =>
      refine ⟨fun ⟨_, _, e, _⟩ => ?_, fun q => q.elim⟩
      unfold saug at e
      rw [h] at e
      cases e
theorem wp_nx {Q : Out G → List (Sl G) → Prop} : WPm snx ρ Q ↔ Q .nx ρ := wp_ret
theorem wp_bk {Q : Out G → List (Sl G) → Prop} : WPm sbk ρ Q ↔ Q .bk ρ := wp_ret
theorem wp_ct {Q : Out G → List (Sl G) → Prop} : WPm sct ρ Q ↔ Q .ct ρ := wp_ret
theorem wp_asg {f : M G D} {tg : D → List (Sl G) → Option (List (Sl G))} {Q : Out G → List (Sl G) → Prop} : WPm (sasg f tg) ρ Q ↔ WPm f ρ fun d ρ1 => ∃ ρ2, tg d ρ1 = some ρ2 ∧ Q .nx ρ2 := by
  unfold sasg
  rw [wp_bnd]
  refine ⟨fun h => wp_mono h fun d ρ1 hh => ?_, fun h => wp_mono h fun d ρ1 ⟨ρ2, e, q⟩ => ?_⟩
  · obtain ⟨o, ρ', e, q⟩ := hh
    cases et : tg d ρ1 with
    | none => simp only [et] at e; cases e
    | some ρ2 => simp only [et] at e; cases e; exact ⟨_, rfl, q⟩
  · exact ⟨.nx, ρ2, by simp only [e], q⟩
end

section
variable {x0 x1 x2 x3 x4 x5 : α} {r : List α}
theorem at_lt {xs : List α} {k : Nat} {x : α} (h : xs[k]? = some x) : atI xs (k : Int) = some x := atI_nat h
theorem at0 : atI (x0 :: r) 0 = some x0 := atI_nat (j := 0) rfl
theorem at1 : atI (x0 :: x1 :: r) 1 = some x1 := atI_nat (j := 1) rfl
theorem at2 : atI (x0 :: x1 :: x2 :: r) 2 = some x2 := atI_nat (j := 2) rfl
theorem at3 : atI (x0 :: x1 :: x2 :: x3 :: r) 3 = some x3 := atI_nat (j := 3) rfl
theorem at4 : atI (x0 :: x1 :: x2 :: x3 :: x4 :: r) 4 = some x4 := atI_nat (j := 4) rfl
theorem at5 : atI (x0 :: x1 :: x2 :: x3 :: x4 :: x5 :: r) 5 = some x5 := atI_nat (j := 5) rfl
/-- an open place within bounds -/
theorem at_open {xs : List α} {t : Int} (h0 : 0 ≤ t) (h1 : t < xs.length) : ∃ x, x ∈ xs ∧ atI xs t = some x := by
  have hl : t.toNat < xs.length := by omega
  refine ⟨xs[t.toNat], List.getElem_mem hl, ?_⟩
  have := at_lt (xs := xs) (k := t.toNat) (List.getElem?_eq_getElem hl)
  rwa [show ((t.toNat : Nat) : Int) = t by omega] at this
end

/-! ### operations, read off -/
section
variable {ρ : List (Sl G)} {Q : D → List (Sl G) → Prop} {fs : M G (List D)} {f : M G D}
theorem wp_tup : WPm (mtup fs) ρ Q ↔ WPm fs ρ fun ds ρ' => ds.length ≤ sizeLine ∧ Q (.tuple ds) ρ' := by
  unfold mtup
  rw [wp_bnd]
  refine ⟨fun h => wp_mono h fun d ρ1 hh => ?_, fun h => wp_mono h fun d ρ1 ⟨h1, h2⟩ => ?_⟩
  · rw [wp_lft] at hh
    obtain ⟨a, e, q⟩ := hh
    split at e
    · cases e; exact ⟨by assumption, q⟩
    · cases e
  · rw [if_pos h1]; exact wp_some.mpr h2
theorem wp_lst : WPm (mlst fs) ρ Q ↔ WPm fs ρ fun ds ρ' => ds.length ≤ sizeLine ∧ Q (.list ds) ρ' := by
  unfold mlst
  rw [wp_bnd]
  refine ⟨fun h => wp_mono h fun d ρ1 hh => ?_, fun h => wp_mono h fun d ρ1 ⟨h1, h2⟩ => ?_⟩
  · rw [wp_lft] at hh
    obtain ⟨a, e, q⟩ := hh
    split at e
    · cases e; exact ⟨by assumption, q⟩
    · cases e
  · rw [if_pos h1]; exact wp_some.mpr h2
theorem wp_olst {Q : Ow G → List (Sl G) → Prop} : WPm (molst fs) ρ Q ↔ WPm fs ρ fun ds ρ' => ds.length ≤ sizeLine ∧ Q (.seq ds) ρ' := by
  unfold molst
  rw [wp_bnd]
  refine ⟨fun h => wp_mono h fun d ρ1 hh => ?_, fun h => wp_mono h fun d ρ1 ⟨h1, h2⟩ => ?_⟩
  · rw [wp_lft] at hh
    obtain ⟨a, e, q⟩ := hh
    split at e
    · cases e; exact ⟨by assumption, q⟩
    · cases e
  · rw [if_pos h1]; exact wp_some.mpr h2
theorem wp_list {Q : List D → List (Sl G) → Prop} : WPm (mlist f) ρ Q ↔ WPm f ρ fun d ρ' => ∃ ds, d = .list ds ∧ Q ds ρ' := by
  unfold mlist
  rw [wp_bnd]
  refine ⟨fun h => wp_mono h fun d ρ1 hh => ?_, fun h => wp_mono h fun d ρ1 ⟨ds, e, q⟩ => ?_⟩
  · rw [wp_lft] at hh
    obtain ⟨a, e, q⟩ := hh
    cases d with
    | list ds => cases e; exact ⟨_, rfl, q⟩
    | _ => cases e
  · subst e; exact wp_some.mpr q
theorem wp_tuple {Q : List D → List (Sl G) → Prop} : WPm (mtuple f) ρ Q ↔ WPm f ρ fun d ρ' => ∃ ds, d = .tuple ds ∧ Q ds ρ' := by
  unfold mtuple
  rw [wp_bnd]
  refine ⟨fun h => wp_mono h fun d ρ1 hh => ?_, fun h => wp_mono h fun d ρ1 ⟨ds, e, q⟩ => ?_⟩
  · rw [wp_lft] at hh
    obtain ⟨a, e, q⟩ := hh
    cases d with
    | tuple ds => cases e; exact ⟨_, rfl, q⟩
    | _ => cases e
  · subst e; exact wp_some.mpr q
theorem wp_range1 {Q : List D → List (Sl G) → Prop} : WPm (mrange1 fs) ρ Q ↔ WPm fs ρ fun ds ρ' => ∃ j, ds = [.int j] ∧ (-(2 ^ 62) ≤ j ∧ j < 2 ^ 62) ∧ Q (rngD 0 j.toNat) ρ' := by
  unfold mrange1
  rw [wp_bnd]
  refine ⟨fun h => wp_mono h fun d ρ1 hh => ?_, fun h => wp_mono h fun d ρ1 ⟨j, e, h1, q⟩ => ?_⟩
  · rw [wp_lft] at hh
    obtain ⟨a, e, q⟩ := hh
    split at e
    · split at e
      · cases e; exact ⟨_, rfl, by assumption, q⟩
      · cases e
    · cases e
  · subst e; dsimp only; rw [if_pos h1]; exact wp_some.mpr q
theorem wp_range2 {Q : List D → List (Sl G) → Prop} : WPm (mrange2 fs) ρ Q ↔ WPm fs ρ fun ds ρ' => ∃ i j, ds = [.int i, .int j] ∧ (-(2 ^ 62) ≤ i ∧ i < 2 ^ 62 ∧ -(2 ^ 62) ≤ j ∧ j < 2 ^ 62) ∧ Q (rngD i (j - i).toNat) ρ' := by
  unfold mrange2
  rw [wp_bnd]
  refine ⟨fun h => wp_mono h fun d ρ1 hh => ?_, fun h => wp_mono h fun d ρ1 ⟨i, j, e, h1, q⟩ => ?_⟩
  · rw [wp_lft] at hh
    obtain ⟨a, e, q⟩ := hh
    split at e
    · split at e
      · cases e; exact ⟨_, _, rfl, by assumption, q⟩
      · cases e
    · cases e
  · subst e; dsimp only; rw [if_pos h1]; exact wp_some.mpr q
theorem wp_part {Q : Option Int → List (Sl G) → Prop} : WPm (mpart f) ρ Q ↔ WPm f ρ fun d ρ' => ∃ i, d = .int i ∧ Q (some i) ρ' := by
  unfold mpart
  rw [wp_bnd]
  refine ⟨fun h => wp_mono h fun d ρ1 hh => ?_, fun h => wp_mono h fun d ρ1 ⟨j, e, q⟩ => ?_⟩
  · rw [wp_lft] at hh
    obtain ⟨a, e, q⟩ := hh
    cases d with
    | int i => cases e; exact ⟨_, rfl, q⟩
    | _ => cases e
  · subst e; exact wp_some.mpr q
theorem wp_slice {fl fh : M G (Option Int)} {g : D → Option Int → Option Int → Option D} : WPm (mslice f fl fh g) ρ Q ↔ WPm f ρ fun x ρ1 => WPm fl ρ1 fun lo ρ2 => WPm fh ρ2 fun hi ρ3 => WPm (mlft (g x lo hi)) ρ3 Q := by
  unfold mslice
  simp only [wp_bnd]
theorem wp_tru {Q : Bool → List (Sl G) → Prop} : WPm (mtru f) ρ Q ↔ WPm f ρ fun x ρ1 => WPm (mlft (dtru x)) ρ1 Q := by
  unfold mtru
  rw [wp_bnd]
theorem wp_andV {g : M G D} : WPm (mandV f g) ρ Q ↔ WPm f ρ fun d ρ' => ∃ b, d = .bool b ∧ if b = true then WPm g ρ' Q else Q (.bool false) ρ' := by
  unfold mandV
  rw [wp_bnd]
  refine ⟨fun h => wp_mono h fun d ρ1 hh => ?_, fun h => wp_mono h fun d ρ1 ⟨b, e, q⟩ => ?_⟩
  · cases d with
    | bool b =>
      refine ⟨b, rfl, ?_⟩
      cases b with
      | true => exact hh
      | false => exact wp_ret.mp hh
    | _ => obtain ⟨_, _, e, _⟩ := hh; cases e
  · subst e
    cases b with
    | true => exact q
    | false => exact wp_ret.mpr q
theorem wp_orV {g : M G D} : WPm (morV f g) ρ Q ↔ WPm f ρ fun d ρ' => ∃ b, d = .bool b ∧ if b = true then Q (.bool true) ρ' else WPm g ρ' Q := by
  unfold morV
  rw [wp_bnd]
  refine ⟨fun h => wp_mono h fun d ρ1 hh => ?_, fun h => wp_mono h fun d ρ1 ⟨b, e, q⟩ => ?_⟩
  · cases d with
    | bool b =>
      refine ⟨b, rfl, ?_⟩
      cases b with
      | false => exact hh
      | true => exact wp_ret.mp hh
    | _ => obtain ⟨_, _, e, _⟩ := hh; cases e
  · subst e
    cases b with
    | false => exact q
    | true => exact wp_ret.mpr q
theorem wp_notV : WPm (mnotV f) ρ Q ↔ WPm f ρ fun d ρ' => ∃ b, d = .bool b ∧ Q (.bool !b) ρ' := by
  unfold mnotV
  rw [wp_bnd]
  refine ⟨fun h => wp_mono h fun d ρ1 hh => ?_, fun h => wp_mono h fun d ρ1 ⟨b, e, q⟩ => ?_⟩
  · cases d with
    | bool b => exact ⟨b, rfl, wp_ret.mp hh⟩
    | _ => obtain ⟨_, _, e, _⟩ := hh; cases e
  · subst e
    exact wp_ret.mpr q
end
section
variable {i j : Int} {ds es : List D}
theorem q_I0 {g : Int → Int → D} : gI0 g (.int i) (.int j) = some (g i j) := rfl
theorem q_I {c : Int → Int → Bool} {g : Int → Int → D} : gI c g (.int i) (.int j) = if c i j = true then some (g i j) else none := rfl
theorem q_ixL : gIxL (.list ds) (.int i) = atI ds i := rfl
theorem q_ixT : gIxT (.tuple ds) (.int i) = atI ds i := rfl
theorem q_ixO : gIxO ds (.int i) = atI ds i := rfl
theorem q_lenL : gLen [.list ds] = some (.int ds.length) := rfl
theorem q_lenT : gLen [.tuple ds] = some (.int ds.length) := rfl
theorem q_lenO : gLenO ds = some (.int ds.length) := rfl
theorem q_sum {ns : List Int} : gSum [.list (ns.map PyData.int)] = some (.int ns.sum) := by
  show (intsOf (ns.map PyData.int)).map _ = _
  rw [intsOf_map]
  rfl
theorem q_listL : gList [.list ds] = some (.list ds) := rfl
theorem q_listT : gList [.tuple ds] = some (.list ds) := rfl
theorem q_abs : gAbs [.int i] = some (.int (if i < 0 then -i else i)) := rfl
theorem q_max2 : gMax2 [.int i, .int j] = some (.int (if j > i then j else i)) := rfl
theorem q_min2 : gMin2 [.int i, .int j] = some (.int (if j < i then j else i)) := rfl
theorem q_slL {lo hi : Option Int} : gSlL (.list ds) lo hi = some (.list (DL.cutD ds lo hi)) := rfl
theorem q_neg : gNeg (.int i) = some (.int (-i)) := rfl
theorem q_eqD {x y : D} (hx : SeqAt.shaped x = true) (hy : SeqAt.shaped y = true) : gEqD x y = some (.bool (PyData.eqv x y)) := if_pos ⟨hx, hy⟩
theorem q_neD {x y : D} (hx : SeqAt.shaped x = true) (hy : SeqAt.shaped y = true) : gNeD x y = some (.bool (!PyData.eqv x y)) := if_pos ⟨hx, hy⟩
theorem q_append {y : D} : gAppend ds [y] = if ds.length < sizeLine then some (.none, ds ++ [y]) else none := rfl
theorem q_setI {d : D} : gSetI ds (.int i) d = (ixN ds.length i).map fun j => (.none, ds.set j d) := rfl
theorem q_cMul : cMul i j = decide ((-(2 ^ 64) < i ∧ i < 2 ^ 64) ∨ (-(2 ^ 64) < j ∧ j < 2 ^ 64)) := rfl
theorem q_cDiv : cDiv i j = decide (0 < j ∧ j < 1073741824) := rfl
theorem q_cPos : cPos i j = decide (0 < j) := rfl
theorem q_cPow : cPow i j = decide (0 ≤ j ∧ j ≤ 1000000 ∧ i.natAbs < 2 ^ 64) := rfl
theorem ix0 {n : Nat} : ixN (n + 1) 0 = some 0 := by unfold ixN; rw [if_pos (Int.le_refl 0), if_pos (by omega)]; rfl
theorem ix1 {n : Nat} : ixN (n + 2) 1 = some 1 := by unfold ixN; rw [if_pos (by omega), if_pos (by omega)]; rfl
end
end DL
set_option Elab.async false
set_option linter.all false
set_option maxRecDepth 100000
set_option maxHeartbeats 1000000
namespace DL
open PySem PySem.Spec PyProof.Rows L2
variable {G : Type}

/-! ### the module's constants -/
def GlV (mg : Str → Option Value) (x : Str) (v : V) : Prop := ∃ u, mg x = some u ∧ RelV v u
theorem pe_gl {X : Cx} {x : Str} {v : V} {pos : Pos} (h : GlV X.mg x v) (hg : Gl X x) (hd : (x == ("__debug__" : Str)) = false := by decide) : PE X (.Name x pos) (tC v) := by
  obtain ⟨u, hm, r⟩ := h
  exact pe_glob hg hm r hd
section
variable {X : Cx} {S : GS X.K G} {pv : List V} {e : Expr} {fa fb fc : M G D}
theorem dv_gi {v : Int} (h : PE X e (tC (.int v))) : PE X e (tD S pv (mret (.int v))) := dv_c h fun _ => .int v
theorem dv_gs {v : Str} (h : PE X e (tC (.str v))) : PE X e (tD S pv (mret (.str v))) := dv_c h fun _ => .str v
/-! ### chains -/
def mchain (fa fb fc : M G D) (g1 g2 : D → D → Option D) : M G D := mbnd fa fun x => mbnd fb fun y => mbnd (mlft (g1 x y)) fun z => match z with
  | .bool true => mbnd fc fun w => mlft (g2 y w)
  | .bool false => mret (.bool false)
  | _ => fun _ => none
theorem chain_core {r r' : R2} {g1 g2 : D → D → Option D} (h1 : DOp X.K r g1) (h2 : DOp X.K r' g2) {F : Hp} {σ : L2.St} {H : Hp} {Q : VK} (q : XF S pv (RV (Dq X.K)) F (mchain fa fb fc g1 g2) σ H Q) :
    tChain r r' (tD S pv fa) (tD S pv fb) (tD S pv fc) σ H Q := by
  refine ⟨F, q.step fun x v F1 H1 s1 r1 q1 => ⟨F1, q1.step fun y u F2 H2 s2 r2 q2 => ?_⟩⟩
  obtain ⟨ω, ρ, re, d, ρ', e, q3⟩ := q2
  obtain ⟨z, ρ1, e1, e2⟩ := mbnd_some e
  unfold mlft at e1
  cases eg : g1 x y with
  | none => rw [eg] at e1; cases e1
  | some z' =>
    rw [eg] at e1
    cases e1
    refine h1 F2 H2 v u x y z _ re.fh (r1.mono s2) r2 eg fun F3 H3 v3 al r3 => ?_
    cases z with
    | bool b =>
      cases r3
      refine ⟨b, rfl, ?_⟩
      cases b with
      | false =>
        cases e2
        exact iteF (q3 F3 H3 ω _ al.ev (re.al al) (.bl false))
      | true =>
        refine iteT ⟨F3, XF.step (R2 := RV (Dq X.K)) (k := fun w => mlft (g2 y w)) ⟨ω, ρ, re.al al, d, ρ', e2, fun F' H' ω' b ev re' rr => q3 F' H' ω' b ((al.ev (ω := ω)).trans ev) re' rr⟩ fun w vw F4 H4 s4 r4 q4 => ?_⟩
        obtain ⟨d2, e4, sf, q5⟩ := q4.last
        exact h2 F4 H4 u vw y w d2 Q sf (r2.mono (al.ff.trans s4)) r4 e4 fun F' H' v al r => q5 F' H' v al r
    | _ => cases e2
theorem dv_chain {r r' : R2} {g1 g2 : D → D → Option D} (h : PE X e (tChain r r' (tD S pv fa) (tD S pv fb) (tD S pv fc))) (h1 : DOp X.K r g1) (h2 : DOp X.K r' g2) : PE X e (tD S pv (mchain fa fb fc g1 g2)) :=
  pe_weak h fun σ H Q ⟨F, q⟩ => chain_core h1 h2 q
theorem dt_chain {r r' : R2} {g1 g2 : D → D → Option D} (h : PT X e (tTest (tChain r r' (tD S pv fa) (tD S pv fb) (tD S pv fc)))) (h1 : DOp X.K r g1) (h2 : DOp X.K r' g2) : PT X e (tT S pv (mtest (mchain fa fb fc g1 g2))) :=
  pt_weak h fun σ H Q ⟨F, q⟩ => chain_core h1 h2 (mtest_step q)
theorem wp_chain {g1 g2 : D → D → Option D} {ρ : List (Sl G)} {Q : D → List (Sl G) → Prop} : WPm (mchain fa fb fc g1 g2) ρ Q ↔ WPm fa ρ fun x ρ1 => WPm fb ρ1 fun y ρ2 => WPm (mlft (g1 x y)) ρ2 fun z ρ3 => ∃ b, z = .bool b ∧
    if b = true then WPm fc ρ3 fun w ρ4 => WPm (mlft (g2 y w)) ρ4 Q else Q (.bool false) ρ3 := by
  unfold mchain
  simp only [wp_bnd]
  refine ⟨fun h => wp_mono h fun x ρ1 h => wp_mono h fun y ρ2 h => wp_mono h fun z ρ3 hh => ?_, fun h => wp_mono h fun x ρ1 h => wp_mono h fun y ρ2 h => wp_mono h fun z ρ3 ⟨b, e, q⟩ => ?_⟩
  · cases z with
    | bool b =>
      refine ⟨b, rfl, ?_⟩
      cases b with
      | true => exact wp_bnd.mp hh
      | false => exact wp_ret.mp hh
    | _ => obtain ⟨_, _, e, _⟩ := hh; cases e
  · subst e
    cases b with
    | true => exact wp_bnd.mpr q
    | false => exact wp_ret.mpr q
/-! ### isinstance -/
def tyD : D → String
  | .none => "NoneType"
  | .bool _ => "bool"
  | .int _ => "int"
  | .str _ => "str"
  | .list _ => "list"
  | .tuple _ => "tuple"
  | .dict _ => "dict"
theorem ty_dq {K : PySem.W.Frag} {F H : Hp} {v : V} {d : D} (s : Same F H) (h : Dq K F v d) : TyX K H v (.type (tyD d)) := by
  cases h with
  | non => exact .base .non
  | bl b => exact .base (.bl b)
  | int i => exact .base (.int i)
  | str x => exact .base (.str x)
  | lst hs ha =>
    rcases s.seq hs with (h | ⟨o, h⟩) | ⟨o, its, n, hk, hc, _⟩
    · exact .base (.lst h)
    · exact .base (.frz h)
    · exact .kList hk hc
  | tup hs ha =>
    rcases sqt_mono s hs with (h | ⟨o, h⟩) | ⟨o, its, n, hk, hc, _⟩
    · exact .base (.tup h)
    · exact .fTuple h
    · exact .kTuple hk hc
  | dct hs ha => exact .fDict (s _ _ hs)
def gIsi (t : String) (d : D) : Option D := (kitB (tyD d) t).map PyData.bool
theorem dv_isi {t : String} (h : PE X e (tCB (rIsi X.K) (tCons (tD S pv fa) (tCons (tC (.ty t)) tNil)))) : PE X e (tD S pv (mbnd fa fun d => mlft (gIsi t d))) :=
  pe_weak h fun σ H Q ⟨F, q⟩ => ⟨F, q.step fun d v F1 H1 s1 r1 q1 => by
    obtain ⟨b, e, sf, q3⟩ := q1.last
    unfold gIsi at e
    cases ek : kitB (tyD d) t with
    | none => rw [ek] at e; cases e
    | some b' =>
      rw [ek] at e
      cases e
      exact ⟨v, .ty t, .type (tyD d), .type t, b', rfl, .ty t, ty_dq sf r1, kit_ty ek, q3 F1 H1 _ (Al.refl sf) (.bl b')⟩⟩
def gIsi2 (t u : String) (d : D) : Option D := match kitB (tyD d) t, kitB (tyD d) u with
  | some a, some b => some (.bool (a || b))
  | _, _ => none
theorem dv_isi2 {t u : String} (h : PE X e (tCB (rIsiT X.K) (tCons (tD S pv fa) (tCons (tTup (tCons (tC (.ty t)) (tCons (tC (.ty u)) tNil))) tNil)))) : PE X e (tD S pv (mbnd fa fun d => mlft (gIsi2 t u d))) :=
  pe_weak h fun σ H Q ⟨F, q⟩ => ⟨F, q.step fun d v F1 H1 s1 r1 q1 => by
    obtain ⟨b, e, sf, q3⟩ := q1.last
    unfold gIsi2 at e
    split at e
    · rename_i a b' ea eb
      cases e
      refine ⟨(by decide : 2 ≤ sizeLine), fun p hp => ?_⟩
      have al : Al F1 H1 (upd F1 p (.tup [.ty t, .ty u])) (upd H1 p (.tup [.ty t, .ty u])) := Al.new sf hp
      refine ⟨v, p, [.ty t, .ty u], .type (tyD d), [.type t, .type u], (a || b'), rfl, upd_same, .cons (.ty t) (.cons (.ty u) .nil), ty_dq al.fh (r1.mono al.ff), ?_, q3 _ _ _ al (.bl _)⟩
      refine kitAny_cons (kit_ty ea) (fun h0 => ?_) (fun h0 => by rw [h0]; rfl)
      refine kitAny_cons (kit_ty eb) (fun h1 => ?_) (fun h1 => by rw [h1]; cases a <;> rfl)
      rw [h0, h1]
      exact kitAny_nil
    · cases e⟩
/-! ### all, any -/
def boolsOf : List D → Option (List Bool)
  | [] => some []
  | .bool b :: r => (boolsOf r).map (b :: ·)
  | _ :: _ => none
theorem boolsOf_eq : ∀ {ds : List D} {bs : List Bool}, boolsOf ds = some bs → ds = bs.map PyData.bool
  | [], _, h => by cases h; rfl
  | .bool i :: r, bs, h => by
    unfold boolsOf at h
    cases hr : boolsOf r with
    | none => rw [hr] at h; cases h
    | some ms => rw [hr] at h; cases h; rw [boolsOf_eq hr]; rfl
  | .none :: _, _, h | .int _ :: _, _, h | .str _ :: _, _, h | .list _ :: _, _, h | .tuple _ :: _, _, h | .dict _ :: _, _, h => by cases h
theorem boolsOf_map : ∀ bs : List Bool, boolsOf (bs.map PyData.bool) = some bs
  | [] => rfl
  | n :: r => by
    show (boolsOf (r.map PyData.bool)).map (n :: ·) = some (n :: r)
    rw [boolsOf_map r]
    rfl
theorem dqa_bools_inv {K : PySem.W.Frag} {F : Hp} : ∀ {bs : List Bool} {vs : List V}, DqAll K F vs (bs.map PyData.bool) → vs = bs.map V.bl
  | [], _, h => by cases h; rfl
  | n :: r, _, h => by
    cases h with
    | cons h1 h2 =>
      cases h1
      rw [dqa_bools_inv h2]
      rfl
def gAll : List D → Option D := fun xs => match xs with | [.list ds] => (boolsOf ds).map fun bs => .bool (bs.all id) | _ => none
def gAny : List D → Option D := fun xs => match xs with | [.list ds] => (boolsOf ds).map fun bs => .bool (bs.any id) | _ => none
theorem d_all {K : PySem.W.Frag} : DCall K (rAll K) gAll := fun F H vs ds d Q sf hv e q => by
  unfold gAll at e
  split at e
  · rename_i ds'
    cases hi : boolsOf ds' with
    | none => rw [hi] at e; cases e
    | some bs =>
      rw [hi] at e
      cases e
      have := boolsOf_eq hi
      subst this
      obtain ⟨v, rfl, h⟩ := dpa1 hv
      cases h with
      | lst hs ha =>
        rw [dqa_bools_inv ha] at hs
        exact ⟨_, bs, rfl, sf.seq hs, q F H _ (Al.refl sf) (.bl _)⟩
  · cases e
theorem d_any {K : PySem.W.Frag} : DCall K (rAny K) gAny := fun F H vs ds d Q sf hv e q => by
  unfold gAny at e
  split at e
  · rename_i ds'
    cases hi : boolsOf ds' with
    | none => rw [hi] at e; cases e
    | some bs =>
      rw [hi] at e
      cases e
      have := boolsOf_eq hi
      subst this
      obtain ⟨v, rfl, h⟩ := dpa1 hv
      cases h with
      | lst hs ha =>
        rw [dqa_bools_inv ha] at hs
        exact ⟨_, bs, rfl, sf.seq hs, q F H _ (Al.refl sf) (.bl _)⟩
  · cases e
/-! ### texts -/
def gLtS : D → D → Option D := fun x y => match x, y with | .str a, .str b => some (.bool (decide (a.cps.toList < b.cps.toList))) | _, _ => none
theorem d_ltS {K : PySem.W.Frag} : DOp K (fun x y H Q => ∃ i j, x = .str i ∧ y = .str j ∧ Q (.bl (decide (i.cps.toList < j.cps.toList))) H) gLtS := fun F H x y dx dy d Q sf hx hy e q => by
  cases hx with
  | str i =>
    cases hy with
    | str j => cases e; exact ⟨i, j, rfl, rfl, q F H _ (Al.refl sf) (.bl _)⟩
    | _ => cases e
  | _ => cases hy <;> cases e
def gAddS : D → D → Option D := fun x y => match x, y with | .str a, .str b => if a.length + b.length ≤ sizeLine then some (.str (a ++ b)) else none | _, _ => none
theorem d_addS {K : PySem.W.Frag} : DOp K (fun x y H Q => ∃ i j, x = .str i ∧ y = .str j ∧ i.length + j.length ≤ sizeLine ∧ Q (.str (i ++ j)) H) gAddS := fun F H x y dx dy d Q sf hx hy e q => by
  cases hx with
  | str i =>
    cases hy with
    | str j =>
      simp only [gAddS] at e
      split at e
      · rename_i hl; cases e; exact ⟨i, j, rfl, rfl, hl, q F H _ (Al.refl sf) (.str _)⟩
      · cases e
    | _ => cases e
  | _ => cases hy <;> cases e
/-- one sign in a text -/
def gInS : D → D → Option D := fun x y => match x, y with | .str ⟨⟨[c]⟩⟩, .str z => some (.bool (decide (c ∈ z.cps.toList))) | _, _ => none
theorem d_inS {K : PySem.W.Frag} : DOp K (fun x y H Q => ∃ (c : Nat) (z : Str), x = .str ⟨#[c]⟩ ∧ y = .str z ∧ Q (.bl (decide (c ∈ z.cps.toList))) H) gInS := fun F H x y dx dy d Q sf hx hy e q => by
  unfold gInS at e
  split at e
  · rename_i c z
    cases e
    cases hx
    cases hy
    exact ⟨c, z, rfl, rfl, q F H _ (Al.refl sf) (.bl _)⟩
  · cases e
def gNinS : D → D → Option D := fun x y => match x, y with | .str ⟨⟨[c]⟩⟩, .str z => some (.bool (!decide (c ∈ z.cps.toList))) | _, _ => none
theorem d_ninS {K : PySem.W.Frag} : DOp K (fun x y H Q => ∃ (c : Nat) (z : Str), x = .str ⟨#[c]⟩ ∧ y = .str z ∧ Q (.bl (!decide (c ∈ z.cps.toList))) H) gNinS := fun F H x y dx dy d Q sf hx hy e q => by
  unfold gNinS at e
  split at e
  · rename_i c z
    cases e
    cases hx
    cases hy
    exact ⟨c, z, rfl, rfl, q F H _ (Al.refl sf) (.bl _)⟩
  · cases e
/-- the signs of a text -/
def signsD (z : Str) : List D := z.cps.toList.map fun c => PyData.str ⟨#[c]⟩
def mstr (f : M G D) : M G (List D) := mbnd f fun d => mlft (match d with | .str z => some (signsD z) | _ => none)
theorem di_str {tgE : Expr} {f : M G D} (h : PI X tgE e (iStr (tD S pv f))) : PI X tgE e (tI S pv (mstr f)) :=
  pi_weak h fun σ H R ⟨F, q⟩ => ⟨F, q.step fun d v F1 H1 s1 r1 q1 => by
    obtain ⟨ds, e, sf, q3⟩ := q1.last
    cases r1 with
    | str z =>
      cases e
      have hl : (signsD z).length = z.cps.size := by unfold signsD; rw [List.length_map, Array.length_toList]
      refine ⟨z, rfl, q3 F1 H1 _ (Al.refl sf) ⟨fun i F2 H2 _ _ hi => by rw [hl] at hi; exact hi, fun F2 H2 _ _ => by rw [hl]; exact Nat.le_refl _, fun i F2 H2 x H' _ s3 hi y => ?_⟩⟩
      obtain ⟨rfl, c, hc, rfl⟩ := y
      refine ⟨F2, .str ⟨#[c]⟩, ?_, Al.refl s3, .str _⟩
      unfold signsD
      rw [List.getElem?_map, Array.getElem?_toList, hc]
      rfl
    | _ => cases e⟩
theorem wp_str {f : M G D} {ρ : List (Sl G)} {Q : List D → List (Sl G) → Prop} : WPm (mstr f) ρ Q ↔ WPm f ρ fun d ρ' => ∃ z, d = .str z ∧ Q (signsD z) ρ' := by
  unfold mstr
  rw [wp_bnd]
  refine ⟨fun h => wp_mono h fun d ρ1 hh => ?_, fun h => wp_mono h fun d ρ1 ⟨ds, e, q⟩ => ?_⟩
  · rw [wp_lft] at hh
    obtain ⟨a, e, q⟩ := hh
    cases d with
    | str z => cases e; exact ⟨_, rfl, q⟩
    | _ => cases e
  · subst e; exact wp_some.mpr q
end
end DL
set_option Elab.async false
set_option linter.all false
set_option maxRecDepth 100000
set_option maxHeartbeats 1000000
namespace DL
open PySem PySem.Spec PyProof.Rows L2
variable {G : Type}
/-! ### dicts that stand for good -/
def keyOfD : D → Option Key
  | .int i => some (.inl i)
  | .str x => some (.inr x)
  | _ => none
theorem keyOfD_kD (k : Key) : keyOfD (kD k) = some k := by cases k <;> rfl
theorem keyOfD_eq {d : D} {k : Key} (h : keyOfD d = some k) : d = kD k := by
  cases d <;> first | (cases h; rfl) | cases h
def dkv (kvs : List (Key × D)) : List (D × D) := kvs.map fun p => (kD p.1, p.2)
def unkv : List (D × D) → Option (List (Key × D))
  | [] => some []
  | (k, d) :: r => match keyOfD k, unkv r with
    | some k', some r' => some ((k', d) :: r')
    | _, _ => none
theorem unkv_dkv : ∀ kvs : List (Key × D), unkv (dkv kvs) = some kvs
  | [] => rfl
  | (k, d) :: r => by
    show (match keyOfD (kD k), unkv (dkv r) with | some k', some r' => some ((k', d) :: r') | _, _ => none) = _
    rw [keyOfD_kD, unkv_dkv r]
theorem unkv_eq : ∀ {es : List (D × D)} {kvs : List (Key × D)}, unkv es = some kvs → es = dkv kvs
  | [], _, h => by cases h; rfl
  | (k, d) :: r, kvs, h => by
    unfold unkv at h
    split at h
    · rename_i k' r' h1 h2
      cases h
      rw [keyOfD_eq h1, unkv_eq h2]
      rfl
    · cases h
section
variable {K : PySem.W.Frag} {F H : Hp}
theorem kv_of_kdp : ∀ {vs : List (Key × V)} {ds : List (Key × D)}, KDp K F vs ds → DqKv K F vs (dkv ds)
  | _, _, .nil => .nil
  | _, _, .cons h t => .cons rfl h (kv_of_kdp t)
theorem kD_inj {a b : Key} (h : kD a = kD b) : a = b := Option.some.inj ((keyOfD_kD a).symm.trans ((congrArg keyOfD h).trans (keyOfD_kD b)))
theorem kdp_of_kv : ∀ {ds : List (Key × D)} {vs : List (Key × V)}, DqKv K F vs (dkv ds) → KDp K F vs ds
  | [], _, h => by cases h; exact .nil
  | (k, d) :: ds, _, h => by
    cases h with
    | cons h0 h1 h2 =>
      have e := kD_inj h0
      dsimp only at e
      subst e
      exact .cons h1 (kdp_of_kv h2)
/-! looks, stores -/
def lookD (kvs : List (Key × D)) (k : Key) : Option D := (kvs.find? fun kv => decide (kv.1 = k)).map (·.2)
def putD (kvs : List (Key × D)) (k : Key) (d : D) : List (Key × D) :=
  if (kvs.any fun kv => decide (kv.1 = k)) = true then kvs.map (fun kv => if kv.1 = k then (kv.1, d) else kv) else kvs ++ [(k, d)]
theorem KDp.look (k : Key) : ∀ {vs : List (Key × V)} {ds : List (Key × D)}, KDp K F vs ds → (∀ d, lookD ds k = some d → ∃ v, valV vs k = some v ∧ Dq K F v d) ∧ (lookD ds k = none → valV vs k = none)
  | _, _, .nil => ⟨fun d h => (by cases h), fun _ => rfl⟩
  | _, _, .cons (k := k') (v := v) (d := d) (vs := vs) (ds := ds) h t => by
    obtain ⟨t1, t2⟩ := KDp.look k t
    by_cases e : k' = k
    · subst e
      have e1 : lookD ((k', d) :: ds) k' = some d := by simp [lookD]
      have e2 : valV ((k', v) :: vs) k' = some v := by simp [valV]
      exact ⟨fun d' h' => (by rw [e1] at h'; cases h'; exact ⟨v, e2, h⟩), fun h' => (by rw [e1] at h'; cases h')⟩
    · have e1 : lookD ((k', d) :: ds) k = lookD ds k := by simp [lookD, e]
      have e2 : valV ((k', v) :: vs) k = valV vs k := by simp [valV, e]
      rw [e1, e2]
      exact ⟨t1, t2⟩
theorem KDp.len : ∀ {vs : List (Key × V)} {ds : List (Key × D)}, KDp K F vs ds → vs.length = ds.length
  | _, _, .nil => rfl
  | _, _, .cons _ t => congrArg (· + 1) t.len
theorem KDp.any (k : Key) : ∀ {vs : List (Key × V)} {ds : List (Key × D)}, KDp K F vs ds → (vs.any fun kv => decide (kv.1 = k)) = (ds.any fun kv => decide (kv.1 = k))
  | _, _, .nil => rfl
  | _, _, .cons _ t => by simp only [List.any_cons, KDp.any k t]
theorem KDp.snoc {k : Key} {v : V} {d : D} (h : Dq K F v d) : ∀ {vs : List (Key × V)} {ds : List (Key × D)}, KDp K F vs ds → KDp K F (vs ++ [(k, v)]) (ds ++ [(k, d)])
  | _, _, .nil => .cons h .nil
  | _, _, .cons h' t => .cons h' (KDp.snoc h t)
theorem KDp.mapset {k : Key} {v : V} {d : D} (h : Dq K F v d) : ∀ {vs : List (Key × V)} {ds : List (Key × D)}, KDp K F vs ds →
    KDp K F (vs.map fun kv => if kv.1 = k then (kv.1, v) else kv) (ds.map fun kv => if kv.1 = k then (kv.1, d) else kv)
  | _, _, .nil => .nil
  | _, _, .cons (k := k') (v := v') (d := d') h' t => by
    rw [List.map_cons, List.map_cons]
    by_cases e : k' = k
    · rw [if_pos e, if_pos e]
      exact .cons h (KDp.mapset h t)
    · rw [if_neg e, if_neg e]
      exact .cons h' (KDp.mapset h t)
theorem KDp.put {k : Key} {v : V} {d : D} {vs : List (Key × V)} {ds : List (Key × D)} (t : KDp K F vs ds) (h : Dq K F v d) : KDp K F (putK vs k v) (putD ds k d) := by
  unfold putK putD
  rw [KDp.any k t]
  split
  · exact KDp.mapset h t
  · exact KDp.snoc h t
theorem lookD_put (kvs : List (Key × D)) (k j : Key) (y : D) : lookD (putD kvs k y) j = if j = k then some y else lookD kvs j := by
  unfold putD
  split
  · rename_i h
    induction kvs with
    | nil => simp at h
    | cons p r ih =>
      rw [List.map_cons]
      by_cases hp : p.1 = k
      · rw [if_pos hp]
        by_cases hj : j = k
        · rw [if_pos hj]; simp [lookD, hp, hj]
        · rw [if_neg hj]
          have h1 : ¬ p.1 = j := fun z => hj (z.symm.trans hp)
          have e1 : lookD ((p.1, y) :: r.map fun kv => if kv.1 = k then (kv.1, y) else kv) j = lookD (r.map fun kv => if kv.1 = k then (kv.1, y) else kv) j := by simp [lookD, h1]
          have e2 : lookD (p :: r) j = lookD r j := by simp [lookD, h1]
          rw [e1, e2]
          by_cases ha : (r.any fun kv => decide (kv.1 = k)) = true
          · rw [ih ha, if_neg hj]
          · have : ∀ kv ∈ r, ¬ kv.1 = k := fun kv hkv z => ha (List.any_eq_true.mpr ⟨kv, hkv, decide_eq_true z⟩)
            congr 1
            exact (List.map_congr_left fun kv hkv => if_neg (this kv hkv)).trans (List.map_id r)
      · rw [if_neg hp]
        have ha : (r.any fun kv => decide (kv.1 = k)) = true := by simpa [hp] using h
        by_cases h1 : p.1 = j
        · have hj : ¬ j = k := fun z => hp (h1.trans z)
          rw [if_neg hj]; simp [lookD, h1]
        · have e1 : lookD (p :: r.map fun kv => if kv.1 = k then (kv.1, y) else kv) j = lookD (r.map fun kv => if kv.1 = k then (kv.1, y) else kv) j := by simp [lookD, h1]
          have e2 : lookD (p :: r) j = lookD r j := by simp [lookD, h1]
          rw [e1, e2, ih ha]
  · rename_i h
    unfold lookD
    rw [List.find?_append]
    by_cases hj : j = k
    · rw [if_pos hj]
      subst hj
      have : kvs.find? (fun kv => decide (kv.1 = j)) = none := List.find?_eq_none.mpr fun kv hkv z => h (List.any_eq_true.mpr ⟨kv, hkv, z⟩)
      rw [this]
      simp
    · rw [if_neg hj]
      have : ([(k, y)] : List (Key × D)).find? (fun kv => decide (kv.1 = j)) = none := by simp [Ne.symm hj]
      rw [this]
      simp
end
section
variable {X : Cx} {S : GS X.K G} {pv : List V} {e : Expr} {fd fk fx : M G D}
def gDGet (d k : D) : Option D := match d with
  | .dict es => match unkv es, keyOfD k with
    | some kvs, some k' => lookD kvs k'
    | _, _ => none
  | _ => none
def gDIn (k d : D) : Option D := match d with
  | .dict es => match unkv es, keyOfD k with
    | some kvs, some k' => some (.bool (lookD kvs k').isSome)
    | _, _ => none
  | _ => none
theorem dq_dict {K : PySem.W.Frag} {F H : Hp} {v : V} {es : List (D × D)} {kvs : List (Key × D)} (s : Same F H) (h : Dq K F v (.dict es)) (e : unkv es = some kvs) : ∃ a o vs, v = .ref a ∧ H a = some (.frz o (.dK vs)) ∧ KDp K F vs kvs := by
  cases h with
  | dct hs ha =>
    rw [unkv_eq e] at ha
    exact ⟨_, _, _, rfl, s _ _ hs, kdp_of_kv ha⟩
theorem dq_key {K : PySem.W.Frag} {F : Hp} {v : V} {d : D} {k : Key} (h : Dq K F v d) (e : keyOfD d = some k) : v = kV k := by
  rw [keyOfD_eq e] at h
  cases k with
  | inl i => cases h; rfl
  | inr i => cases h; rfl
theorem dv_dget (h : PE X e (tDGet (tD S pv fd) (tD S pv fk))) : PE X e (tD S pv (mbnd fd fun d => mbnd fk fun k => mlft (gDGet d k))) :=
  pe_weak h fun σ H Q ⟨F, q⟩ => ⟨F, q.step fun x v F1 H1 s1 r1 q1 => ⟨F1, q1.step fun y u F2 H2 s2 r2 q2 => by
    obtain ⟨d, e, sf, q3⟩ := q2.last
    unfold gDGet at e
    split at e
    · split at e
      · rename_i es kvs k' h1 h2
        obtain ⟨a, o, vs, rfl, hH, kd⟩ := dq_dict sf (r1.mono s2) h1
        obtain ⟨w, e4, r4⟩ := (kd.look k').1 d e
        refine ⟨a, w, rfl, .inl ⟨vs, k', .inr ⟨o, hH⟩, dq_key r2 h2, e4.symm⟩, q3 F2 H2 w (Al.refl sf) r4⟩
      · cases e
    · cases e⟩⟩
theorem dv_din (h : PE X e (tDIn (tD S pv fk) (tD S pv fd))) : PE X e (tD S pv (mbnd fk fun k => mbnd fd fun d => mlft (gDIn k d))) :=
  pe_weak h fun σ H Q ⟨F, q⟩ => ⟨F, q.step fun x v F1 H1 s1 r1 q1 => ⟨F1, q1.step fun y u F2 H2 s2 r2 q2 => by
    obtain ⟨d, e, sf, q3⟩ := q2.last
    unfold gDIn at e
    split at e
    · split at e
      · rename_i es kvs k' h1 h2
        cases e
        obtain ⟨a, o, vs, rfl, hH, kd⟩ := dq_dict sf r2 h1
        refine ⟨a, valV vs k', rfl, .inl ⟨vs, k', .inr ⟨o, hH⟩, dq_key (r1.mono s2) h2, rfl⟩, q3 F2 H2 _ (Al.refl sf) ?_⟩
        have : (lookD kvs k').isSome = (valV vs k').isSome := by
          cases hl : lookD kvs k' with
          | none => rw [(kd.look k').2 hl]; rfl
          | some d => obtain ⟨w, e4, _⟩ := (kd.look k').1 d hl; rw [e4]; rfl
        rw [this]
        exact .bl _
      · cases e
    · cases e⟩⟩
theorem dt_din (h : PT X e (tB (tDIn (tD S pv fk) (tD S pv fd)))) : PT X e (tT S pv (mtest (mbnd fk fun k => mbnd fd fun d => mlft (gDIn k d)))) :=
  pt_weak h fun σ H Q ⟨F, q⟩ => by
    have q' := mtest_step q
    refine ⟨F, q'.step fun x v F1 H1 s1 r1 q1 => ⟨F1, q1.step fun y u F2 H2 s2 r2 q2 => ?_⟩⟩
    obtain ⟨d, e, sf, q3⟩ := q2.last
    unfold gDIn at e
    split at e
    · split at e
      · rename_i es kvs k' h1 h2
        cases e
        obtain ⟨a, o, vs, rfl, hH, kd⟩ := dq_dict sf r2 h1
        refine ⟨a, valV vs k', rfl, .inl ⟨vs, k', .inr ⟨o, hH⟩, dq_key (r1.mono s2) h2, rfl⟩, q3 F2 H2 _ (Al.refl sf) ?_⟩
        have : (lookD kvs k').isSome = (valV vs k').isSome := by
          cases hl : lookD kvs k' with
          | none => rw [(kd.look k').2 hl]; rfl
          | some d => obtain ⟨w, e4, _⟩ := (kd.look k').1 d hl; rw [e4]; rfl
        rw [this]
        exact .bl _
      · cases e
    · cases e
theorem call_lenR : CallR X (.builtin "len") (fun xs H Q => ∃ a kvs, xs = [V.ref a] ∧ Rd H a (.dK kvs) ∧ Q (.int kvs.length) H) := by
  intro pins s σ H xs us Q I r h
  obtain ⟨a, kvs, rfl, ha, q⟩ := h
  obtain ⟨u, rfl, ru⟩ := vals1 r
  cases ru
  exact L2.d_len I ha fun t s' I' => ⟨.int kvs.length, H, I', ⟨t, rfl⟩, q⟩
def gLenD : List D → Option D := fun xs => match xs with | [.dict es] => (unkv es).map fun kvs => .int kvs.length | _ => none
theorem d_lenD {K : PySem.W.Frag} : DCall K (fun xs H Q => ∃ a kvs, xs = [V.ref a] ∧ Rd H a (.dK kvs) ∧ Q (.int kvs.length) H) gLenD := fun F H vs ds d Q sf hv e q => by
  unfold gLenD at e
  split at e
  · rename_i es
    cases hu : unkv es with
    | none => rw [hu] at e; cases e
    | some kvs =>
      rw [hu] at e
      cases e
      obtain ⟨v, rfl, h⟩ := dpa1 hv
      obtain ⟨a, o, vs, rfl, hH, kd⟩ := dq_dict sf h hu
      exact ⟨a, vs, rfl, .inr ⟨o, hH⟩, q F H _ (Al.refl sf) (by rw [kd.len]; exact .int _)⟩
  · cases e
def gDGet2 (d k x : D) : Option D := match d with
  | .dict es => match unkv es, keyOfD k with
    | some kvs, some k' => some ((lookD kvs k').getD x)
    | _, _ => none
  | _ => none
def mdget2 (fd fk fx : M G D) : M G D := mbnd fd fun d => match d with
  | .dict es => mbnd fk fun k => mbnd fx fun x => mlft (gDGet2 (.dict es) k x)
  | _ => fun _ => none
theorem dv_dget2 (h : PE X e (tDGet2 (tD S pv fd) (tD S pv fk) (tD S pv fx))) : PE X e (tD S pv (mdget2 fd fk fx)) :=
  pe_weak h fun σ H Q ⟨F, q⟩ => ⟨F, q.step fun x v F1 H1 s1 r1 q1 => by
    cases x with
    | dict es =>
      have q1 : XF S pv (RV (Dq X.K)) F1 (mbnd fk fun k => mbnd fx fun x => mlft (gDGet2 (.dict es) k x)) σ H1 Q := q1
      have sf1 : Same F1 H1 := let ⟨_, _, re, _⟩ := q1; re.fh
      have r1' := r1
      cases r1 with
      | dct hs ha =>
        rename_i a o kvs0
        refine ⟨a, rfl, .inl ⟨kvs0, .inr ⟨o, sf1 _ _ hs⟩⟩, F1, q1.step fun y u F2 H2 s2 r2 q2 => ⟨F2, q2.step fun z uz F3 H3 s3 r3 q3 => ?_⟩⟩
        obtain ⟨d, e, sf, q4⟩ := q3.last
        simp only [gDGet2] at e
        split at e
        · rename_i kvs k' h1 h2
          cases e
          obtain ⟨a2, o2, vs, e5, hH, kd⟩ := dq_dict sf (r1'.mono (s2.trans s3)) h1
          cases e5
          refine ⟨valV vs k', .inl ⟨vs, k', .inr ⟨o2, hH⟩, dq_key (r2.mono s3) h2, rfl⟩, q4 F3 H3 _ (Al.refl sf) ?_⟩
          cases hl : lookD kvs k' with
          | none => rw [(kd.look k').2 hl]; exact r3
          | some d => obtain ⟨w, e4, r4⟩ := (kd.look k').1 d hl; rw [e4]; exact r4
        · cases e
    | _ => obtain ⟨_, _, _, _, _, e, _⟩ := q1; cases e⟩
/-! a dict is made, and stands from then on for good -/
def tFrz (t : TE) : TE := fun σ H Q => t σ H fun v H1 => ∃ d u, v = .ref d ∧ H1 d = some u ∧ Mut (some u) ∧ ∀ od, Q v (upd H1 d (.frz od u))
theorem pe_frz {t : TE} (h : PE X e t) : PE X e (tFrz t) := ⟨fun pins s σ H Q I q => thn (h.run pins s σ H _ I q) fun v s1 ⟨x, H1, I1, r, d, u, ex, hd, mu, q⟩ => by
  obtain ⟨od, I2⟩ := I1.lock hd mu
  exact ⟨x, _, I2, r, q od⟩⟩
def compD (vs : List Nat) (tg : D → List (Sl G) → Option (List (Sl G))) (tt : M G Bool) (tk te : M G D) : List D → List (Key × D) → M G (List (Key × D))
  | [], acc => fun ρ => some (acc, ρ)
  | d :: ds, acc => fun ρ => match tg d ρ with
    | none => none
    | some ρ1 => match tt ρ1 with
      | none => none
      | some (true, ρ2) => match tk ρ2 with
        | none => none
        | some (k, ρ3) => match te ρ3 with
          | none => none
          | some (y, ρ4) => match keyOfD k with
            | none => none
            | some k' => compD vs tg tt tk te ds (putD acc k' y) (wipeR ρ4 vs)
      | some (false, ρ2) => compD vs tg tt tk te ds acc (wipeR ρ2 vs)
def mdcomp (it : M G (List D)) (vs : List Nat) (tg : D → List (Sl G) → Option (List (Sl G))) (tt : M G Bool) (tk te : M G D) : M G D :=
  mbnd it fun ds => fun ρ => if okW ρ vs = true ∧ ds.length ≤ sizeLine then
    (match compD vs tg tt tk te ds [] (wipeR ρ vs) with
    | none => none
    | some (kvs, ρ') => some (.dict (dkv kvs), restR ρ ρ' vs)) else none
theorem putD_len (kvs : List (Key × D)) (k : Key) (d : D) : (putD kvs k d).length ≤ kvs.length + 1 := by
  unfold putD
  split
  · rw [List.length_map]; omega
  · rw [List.length_append]; exact Nat.le_refl _
theorem RE.frzU {S : GS X.K G} {F H : Hp} {ω : Om} {σ : L2.St} {ρ : List (Sl G)} {a : Addr} {u : HO} (r : RE S pv F H ω σ ρ) (hf : F a = none) (hw : ω a = none) : RE S pv (upd F a u) (upd H a u) ω σ ρ where
  len := r.len
  fh := same_upd2 r.fh
  wf := fun b i e => by
    have hb : b ≠ a := fun z => by rw [z, hw] at e; cases e
    rw [upd_ne hb, upd_ne hb]
    exact r.wf b i e
  slot := fun i s e => by
    obtain ⟨x, h1, h2⟩ := r.slot i s e
    refine ⟨x, h1, h2.mono (same_new hf) (fun b o hb h => ?_) fun _ z => z⟩
    have hba : b ≠ a := fun z => by rw [z, hw] at hb; cases hb
    rw [upd_ne hba]
    exact h
  fix := r.fix
theorem dv_dc {it : M G (List D)} {g : TG} {is vs : List Nat} {tg} {tt : M G Bool} {tk te : M G D} (h : PE X e (tFrz (tDc (tI S pv it) g (tT S pv tt) (tD S pv tk) (tD S pv te) vs))) (hg : DTg S pv g is tg) (hs : ∀ k ∈ is, k ∈ vs) :
    PE X e (tD S pv (mdcomp it vs tg tt tk te)) := pe_weak h fun σ H Q ⟨F, ω, ρ, re, dd, ρ', e, q⟩ => by
  obtain ⟨ds, ρ1, e1, e2⟩ := mbnd_some e
  by_cases hc : okW ρ1 vs = true ∧ ds.length ≤ sizeLine
  case neg => rw [if_neg hc] at e2; cases e2
  rw [if_pos hc] at e2
  cases e3 : compD vs tg tt tk te ds [] (wipeR ρ1 vs) with
  | none => simp only [e3] at e2; cases e2
  | some p =>
    obtain ⟨kvsE, ρe⟩ := p
    simp only [e3] at e2
    cases e2
    refine ⟨F, ω, ρ, re, ds, ρ1, e1, fun F1 H1 ω1 J ev1 re1 wk => ?_⟩
    intro D hD
    have f1D : F1 D = none := re1.fh.free hD
    have w1D : ω1 D = none := by
      cases q : ω1 D with
      | none => rfl
      | some i => exact absurd hD (re1.wf D i q).2
    let Inv (i : Nat) (H2 : Hp) : Prop := ∃ F2 ω2 ρ2 acc dacc, Ev F1 H1 ω1 F2 H2 ω2 ∧ RE S pv F2 H2 ω2 (L2.wipe σ vs) ρ2 ∧ H2 D = some (.dK acc) ∧ F2 D = none ∧ ω2 D = none ∧ KDp X.K F2 acc dacc ∧ dacc.length ≤ i ∧
        compD vs tg tt tk te (ds.drop i) dacc ρ2 = some (kvsE, ρe)
    have i0 : Inv 0 (upd H1 D (.dK [])) :=
      ⟨F1, ω1, wipeR ρ1 vs, [], [], ⟨Same.refl _, fun _ _ h => .inl h, fun b o h _ => same_new hD b o h, fun _ h => .inl h, fun b h => ne_none_of (same_new hD) h⟩, (re1.wipe vs).junk f1D w1D, upd_same, f1D, w1D, .nil, Nat.le_refl _, e3⟩
    refine ⟨fun i m H2 => m = ds.length - i ∧ i ≤ ds.length ∧ Inv i H2, ⟨ds.length, by simp, Nat.zero_le _, i0⟩, ?_⟩
    rintro i m H2 ⟨rfl, hi, F2, ω2, ρ2, acc, dacc, ev2, re2, hHD, hFD, hwD, hacc, hal, ec⟩
    by_cases hlt : i < ds.length
    · refine .inr ⟨wk.go i F2 H2 ev2.ff re2.fh hlt, Inv (i + 1), fun H' hN => ⟨ds.length - (i + 1), by omega, rfl, hlt, hN⟩, fun x H3 hy => ?_⟩
      obtain ⟨F3, d, hd, al, dp⟩ := wk.yld i F2 H2 x H3 ev2.ff re2.fh hlt hy
      have hdr : ds.drop i = d :: ds.drop (i + 1) := by
        rw [List.drop_eq_getElem_cons hlt]
        rw [List.getElem?_eq_getElem hlt] at hd
        cases hd
        rfl
      rw [hdr] at ec
      unfold compD at ec
      cases et : tg d ρ2 with
      | none => simp only [et] at ec; cases ec
      | some ρ3 =>
        simp only [et] at ec
        have evA := al.ev (ω := ω2)
        obtain ⟨h3D, f3D, w3D⟩ := evA.keepD hHD hFD hwD
        refine hg F3 H3 ω2 _ ρ2 x d ρ3 _ (re2.al al) dp et fun σ2 re3 hl3 hk3 => ?_
        have hwe : L2.wipe σ2 vs = L2.wipe σ vs := wipe_eq hs hl3 hk3
        refine ⟨hwe, ?_⟩
        cases eb : tt ρ3 with
        | none => simp only [eb] at ec; cases ec
        | some p =>
          obtain ⟨b, ρ4⟩ := p
          refine ⟨F3, ω2, ρ3, re3, b, ρ4, eb, fun F4 H4 ω4 b' ev4 re4 r4 => ?_⟩
          cases r4
          obtain ⟨h4D, f4D, w4D⟩ := ev4.keepD h3D f3D w3D
          have ev14 := ev2.trans (evA.trans ev4)
          cases b with
          | false =>
            simp only [eb] at ec
            refine iteF ⟨F4, ω4, wipeR ρ4 vs, acc, dacc, ev14, ?_, h4D, f4D, w4D, hacc.mono (al.ff.trans ev4.ff), by omega, ec⟩
            rw [← hwe]
            exact re4.wipe vs
          | true =>
            simp only [eb] at ec
            refine iteT ?_
            cases ek : tk ρ4 with
            | none => simp only [ek] at ec; cases ec
            | some p =>
              obtain ⟨kd, ρ5⟩ := p
              simp only [ek] at ec
              refine ⟨F4, ω4, ρ4, re4, kd, ρ5, ek, fun F5 H5 ω5 vk ev5 re5 r5 => ?_⟩
              cases ee : te ρ5 with
              | none => simp only [ee] at ec; cases ec
              | some p =>
                obtain ⟨y, ρ6⟩ := p
                simp only [ee] at ec
                cases ey : keyOfD kd with
                | none => simp only [ey] at ec; cases ec
                | some k' =>
                  simp only [ey] at ec
                  refine ⟨F5, ω5, ρ5, re5, y, ρ6, ee, fun F6 H6 ω6 v ev6 re6 r6 => ?_⟩
                  obtain ⟨h6D, f6D, w6D⟩ := (ev5.trans ev6).keepD h4D f4D w4D
                  have hl : acc.length = dacc.length := hacc.len
                  have hpl := putD_len dacc k' y
                  refine ⟨acc, k', dq_key r5 ey, h6D, by omega, F6, ω6, wipeR ρ6 vs, putK acc k' v, putD dacc k' y, ?_, ?_, upd_same, f6D, w6D, (hacc.mono (al.ff.trans (ev4.ff.trans (ev5.ff.trans ev6.ff)))).put r6, by omega, ec⟩
                  · have ev15 := ev14.trans (ev5.trans ev6)
                    refine ⟨ev15.ff, ev15.fn, fun b o h hw => ?_, ev15.wn, fun b h => ?_⟩
                    · rw [upd_ne (fun z => by rw [z, hD] at h; cases h)]
                      exact ev15.hh b o h hw
                    · by_cases hb : b = D
                      · rw [hb, upd_same]; simp
                      · rw [upd_ne hb]; exact ev15.dom b h
                  · refine RE.junk ?_ f6D w6D
                    rw [← hwe]
                    exact re6.wipe vs
    · have e : i = ds.length := by omega
      subst e
      rw [List.drop_length] at ec
      cases ec
      refine .inl ⟨wk.stop F2 H2 ev2.ff re2.fh, D, .dK acc, rfl, hHD, trivial, fun od => ?_⟩
      have re3 : RE S pv F2 H2 ω2 σ (restR ρ1 _ vs) := re1.rest re2 ev2 hc.1
      have ev3 := ev1.trans ev2
      have hDn : H D = none := by
        cases qh : H D with
        | none => rfl
        | some u => exact absurd hD (ev1.dom D (by rw [qh]; simp))
      refine q (upd F2 D (.frz od (.dK acc))) _ ω2 _ ⟨ev3.ff.trans (same_new hFD), fun b o hb => ?_, fun b o hb hw => ?_, ev3.wn, fun b hb => ?_⟩ (re3.frzU hFD hwD) (.dct upd_same (kv_of_kdp (hacc.mono (same_new hFD))))
      · by_cases hbD : b = D
        · rw [hbD]; exact .inr (.inl hDn)
        · rw [upd_ne hbD] at hb; exact ev3.fn b o hb
      · rw [upd_ne (fun z => by rw [z, hDn] at hb; cases hb)]
        exact ev3.hh b o hb hw
      · by_cases hbD : b = D
        · rw [hbD, upd_same]; simp
        · rw [upd_ne hbD]; exact ev3.dom b hb
/-- for k in d, d a dict that stands for good -/
def mkeys (f : M G D) : M G (List D) := mbnd f fun d => mlft (match d with | .dict es => (unkv es).map fun kvs => kvs.map fun p => kD p.1 | _ => none)
theorem KDp.getK {K : PySem.W.Frag} {F : Hp} : ∀ {vs : List (Key × V)} {ds : List (Key × D)} {i : Nat} {k : Key} {v : V}, KDp K F vs ds → vs[i]? = some (k, v) → ∃ d, ds[i]? = some (k, d) ∧ Dq K F v d
  | _, _, _, _, _, .nil, e => by simp at e
  | _, _, 0, _, _, .cons r _, e => by simp at e; obtain ⟨rfl, rfl⟩ := e; exact ⟨_, rfl, r⟩
  | _, _, i + 1, k, v, .cons _ t, e => by
    obtain ⟨d, h1, h2⟩ := KDp.getK (i := i) (k := k) (v := v) t (by simpa using e)
    exact ⟨d, by simpa using h1, h2⟩
theorem di_keys {tgE : Expr} {f : M G D} (h : PI X tgE e (iKeys (tD S pv f))) : PI X tgE e (tI S pv (mkeys f)) :=
  pi_weak h fun σ H R ⟨F, q⟩ => ⟨F, q.step fun d v F1 H1 s1 r1 q1 => by
    obtain ⟨ds, e, sf, q3⟩ := q1.last
    cases d with
    | dict es =>
      dsimp only at e
      cases hu : unkv es with
      | none => rw [hu] at e; cases e
      | some kvs =>
        rw [hu] at e
        cases e
        obtain ⟨a, o, vs, rfl, hH, kd⟩ := dq_dict sf r1 hu
        have hF : F1 a = some (.frz o (.dK vs)) := by
          cases r1 with
          | dct hs ha =>
            have := sf _ _ hs
            rw [hH] at this
            cases this
            exact hs
        have hl : (kvs.map fun p => kD p.1).length = vs.length := by rw [List.length_map, kd.len]
        refine ⟨a, o, rfl, .inl ⟨vs, hH, q3 F1 H1 _ (Al.refl sf) ⟨fun i F2 H2 s2 s3 hi => ⟨s3 _ _ (s2 _ _ hF), by rw [hl] at hi; exact hi⟩, fun F2 H2 s2 s3 => ⟨s3 _ _ (s2 _ _ hF), by rw [hl]; exact Nat.le_refl _⟩, fun i F2 H2 x H' s2 s3 hi y => ?_⟩⟩⟩
        obtain ⟨rfl, k, v, hk, rfl⟩ := y
        obtain ⟨d, hd, _⟩ := kd.getK hk
        refine ⟨F2, kD k, by rw [List.getElem?_map, hd]; rfl, Al.refl s3, ?_⟩
        cases k with
        | inl i => exact .int i
        | inr x => exact .str x
    | _ => cases e⟩
end
end DL
set_option Elab.async false
set_option linter.all false
set_option maxRecDepth 100000
set_option maxHeartbeats 1000000
namespace DL
open PySem PySem.Spec PyProof.Rows L2
variable {G : Type}
/-! ### zip, enumerate -/
section
variable {X : Cx} {S : GS X.K G} {pv : List V} {e tgE : Expr} {fs : M G (List D)}
def zipD : List D → List D → List D
  | x :: xs, y :: ys => .tuple [x, y] :: zipD xs ys
  | _, _ => []
theorem zipD_get : ∀ {xs ys : List D} {i : Nat}, i < (zipD xs ys).length → ∃ x y, xs[i]? = some x ∧ ys[i]? = some y ∧ (zipD xs ys)[i]? = some (.tuple [x, y])
  | x :: xs, y :: ys, 0, _ => ⟨x, y, rfl, rfl, rfl⟩
  | x :: xs, y :: ys, i + 1, h => zipD_get (xs := xs) (ys := ys) (i := i) (Nat.lt_of_succ_lt_succ h)
  | [], _, i, h => by simp [zipD] at h
  | _ :: _, [], i, h => by simp [zipD] at h
theorem zipD_len : ∀ (xs ys : List D), (zipD xs ys).length = min xs.length ys.length
  | x :: xs, y :: ys => by show (zipD xs ys).length + 1 = _; rw [zipD_len xs ys, List.length_cons, List.length_cons]; omega
  | [], _ => by simp [zipD]
  | _ :: _, [] => by simp [zipD]
def gZip : List D → Option (List D) := fun ds => match ds with
  | [.list xs, .list ys] => some (zipD xs ys)
  | [.tuple xs, .tuple ys] => some (zipD xs ys)
  | _ => none
def mzip (fs : M G (List D)) : M G (List D) := mbnd fs fun ds => mlft (gZip ds)
theorem wp_zip {ρ : List (Sl G)} {Q : List D → List (Sl G) → Prop} : WPm (mzip fs) ρ Q ↔ WPm fs ρ fun ds ρ1 => WPm (mlft (gZip ds)) ρ1 Q := by
  unfold mzip
  rw [wp_bnd]
theorem di_zip (h : PI X tgE e (RZ.iZipA X.K (tA S pv fs))) : PI X tgE e (tI S pv (mzip fs)) :=
  pi_weak h fun σ H R ⟨F, q⟩ => ⟨F, q.step fun d v F1 H1 s1 r1 q1 => by
    obtain ⟨ds, e, sf, q3⟩ := q1.last
    unfold gZip at e
    split at e
    · cases e
      obtain ⟨v1, v2, rfl, h1, h2⟩ := dpa2 r1
      cases h1 with
      | lst hs ha =>
        cases h2 with
        | lst hs2 ha2 =>
          rename_i a xs' b ys'
          refine ⟨a, b, xs', ys', rfl, .inl ⟨sf.seq hs, sf.seq hs2, q3 F1 H1 _ (Al.refl sf) ⟨fun i F2 H2 s2 s3 hi => ?_, fun F2 H2 s2 s3 => ?_, fun i F2 H2 x H' s2 s3 hi y => ?_⟩⟩⟩
          · obtain ⟨x, y, ex, ey, _⟩ := zipD_get hi
            obtain ⟨vx, e1, _⟩ := ha.get ex
            obtain ⟨vy, e2, _⟩ := ha2.get ey
            exact ⟨_, _, vx, vy, s3.seq (s2.seq hs), s3.seq (s2.seq hs2), e1, e2⟩
          · refine ⟨_, _, s3.seq (s2.seq hs), s3.seq (s2.seq hs2), ?_⟩
            rw [zipD_len, ha.length, ha2.length]
            omega
          · obtain ⟨T, x1, y1, rfl, hT, rfl, f1, f2⟩ := y
            obtain ⟨x, y, ex, ey, ez⟩ := zipD_get hi
            obtain ⟨vx, e1, r1⟩ := ha.get ex
            obtain ⟨vy, e2, r2⟩ := ha2.get ey
            have g1 := (f1 _ (s3.seq (s2.seq hs))).symm.trans e1
            have g2 := (f2 _ (s3.seq (s2.seq hs2))).symm.trans e2
            cases g1
            cases g2
            exact ⟨_, _, ez, Al.new s3 hT, .tup (.of upd_same) (.cons (r1.mono (s2.trans (same_new (s3.free hT)))) (.cons (r2.mono (s2.trans (same_new (s3.free hT)))) .nil))⟩
    · cases e
      obtain ⟨v1, v2, rfl, h1, h2⟩ := dpa2 r1
      cases h1 with
      | tup hs ha =>
        cases h2 with
        | tup hs2 ha2 =>
          rename_i a xs' b ys'
          refine ⟨a, b, xs', ys', rfl, .inr ⟨sqt_mono sf hs, sqt_mono sf hs2, q3 F1 H1 _ (Al.refl sf) ⟨fun i F2 H2 s2 s3 hi => ?_, fun F2 H2 s2 s3 => ?_, fun i F2 H2 x H' s2 s3 hi y => ?_⟩⟩⟩
          · obtain ⟨x, y, ex, ey, _⟩ := zipD_get hi
            obtain ⟨vx, e1, _⟩ := ha.get ex
            obtain ⟨vy, e2, _⟩ := ha2.get ey
            exact ⟨_, _, vx, vy, sqt_mono s3 (sqt_mono s2 hs), sqt_mono s3 (sqt_mono s2 hs2), e1, e2⟩
          · refine ⟨_, _, sqt_mono s3 (sqt_mono s2 hs), sqt_mono s3 (sqt_mono s2 hs2), ?_⟩
            rw [zipD_len, ha.length, ha2.length]
            omega
          · obtain ⟨T, x1, y1, rfl, hT, rfl, f1, f2⟩ := y
            obtain ⟨x, y, ex, ey, ez⟩ := zipD_get hi
            obtain ⟨vx, e1, r1⟩ := ha.get ex
            obtain ⟨vy, e2, r2⟩ := ha2.get ey
            have g1 := (f1 _ (sqt_mono s3 (sqt_mono s2 hs))).symm.trans e1
            have g2 := (f2 _ (sqt_mono s3 (sqt_mono s2 hs2))).symm.trans e2
            cases g1
            cases g2
            exact ⟨_, _, ez, Al.new s3 hT, .tup (.of upd_same) (.cons (r1.mono (s2.trans (same_new (s3.free hT)))) (.cons (r2.mono (s2.trans (same_new (s3.free hT)))) .nil))⟩
    · cases e⟩
def enumD (i : Nat) : List D → List D
  | [] => []
  | d :: ds => .tuple [.int (i : Nat), d] :: enumD (i + 1) ds
theorem enumD_len : ∀ (i : Nat) (ds : List D), (enumD i ds).length = ds.length
  | _, [] => rfl
  | i, _ :: ds => congrArg (· + 1) (enumD_len (i + 1) ds)
theorem enumD_get : ∀ {ds : List D} {k i : Nat}, i < ds.length → ∃ d, ds[i]? = some d ∧ (enumD k ds)[i]? = some (.tuple [.int ((k + i : Nat) : Int), d])
  | d :: ds, k, 0, _ => ⟨d, rfl, rfl⟩
  | d :: ds, k, i + 1, h => by
    obtain ⟨x, h1, h2⟩ := enumD_get (ds := ds) (k := k + 1) (i := i) (Nat.lt_of_succ_lt_succ h)
    refine ⟨x, h1, ?_⟩
    rw [show k + (i + 1) = k + 1 + i by omega]
    exact h2
  | [], k, i, h => by simp at h
def menum (fs : M G (List D)) : M G (List D) := mbnd fs fun ds => mlft (match ds with | [.list xs] => some (enumD 0 xs) | _ => none)
theorem di_enum (h : PI X tgE e (iEnum X.K (tA S pv fs))) : PI X tgE e (tI S pv (menum fs)) :=
  pi_weak h fun σ H R ⟨F, q⟩ => ⟨F, q.step fun d v F1 H1 s1 r1 q1 => by
    obtain ⟨ds, e, sf, q3⟩ := q1.last
    split at e
    · cases e
      obtain ⟨v1, rfl, h1⟩ := dpa1 r1
      cases h1 with
      | lst hs ha =>
        rename_i a xs'
        refine ⟨a, xs', rfl, sf.seq hs, q3 F1 H1 _ (Al.refl sf) ⟨fun i F2 H2 s2 s3 hi => ?_, fun F2 H2 s2 s3 => ?_, fun i F2 H2 x H' s2 s3 hi y => ?_⟩⟩
        · rw [enumD_len] at hi
          obtain ⟨vx, e1, _⟩ := ha.get (get_lt hi)
          exact ⟨_, vx, s3.seq (s2.seq hs), e1⟩
        · exact ⟨_, s3.seq (s2.seq hs), by rw [enumD_len, ha.length]; exact Nat.le_refl _⟩
        · obtain ⟨T, x1, rfl, hT, rfl, f1⟩ := y
          rw [enumD_len] at hi
          obtain ⟨d, ed, ez⟩ := enumD_get (k := 0) hi
          obtain ⟨vx, e1, r1⟩ := ha.get ed
          have g1 := (f1 _ (s3.seq (s2.seq hs))).symm.trans e1
          cases g1
          rw [Nat.zero_add] at ez
          exact ⟨_, _, ez, Al.new s3 hT, .tup (.of upd_same) (.cons (.int _) (.cons (r1.mono (s2.trans (same_new (s3.free hT)))) .nil))⟩
    · cases e⟩
theorem wp_enum {ρ : List (Sl G)} {Q : List D → List (Sl G) → Prop} : WPm (menum fs) ρ Q ↔ WPm fs ρ fun ds ρ1 => ∃ xs, ds = [.list xs] ∧ Q (enumD 0 xs) ρ1 := by
  unfold menum
  rw [wp_bnd]
  refine ⟨fun h => wp_mono h fun d ρ1 hh => ?_, fun h => wp_mono h fun d ρ1 ⟨xs, e, q⟩ => ?_⟩
  · rw [wp_lft] at hh
    obtain ⟨a, e, q⟩ := hh
    split at e
    · cases e; exact ⟨_, rfl, q⟩
    · cases e
  · subst e; exact wp_some.mpr q
end
/-! ### tuples -/
section
variable {K : PySem.W.Frag}
def gCatT : D → D → Option D := fun x y => match x, y with | .tuple a, .tuple b => if a.length + b.length ≤ sizeLine then some (.tuple (a ++ b)) else none | _, _ => none
theorem d_catT : DOp K (rCatA K) gCatT := fun F H x y dx dy d Q sf hx hy e q => by
  unfold gCatT at e
  split at e
  · split at e
    · rename_i hl
      cases e
      cases hx with
      | tup hs ha =>
        cases hy with
        | tup hs2 ha2 =>
          refine ⟨_, _, _, _, rfl, rfl, sqt_mono sf hs, sqt_mono sf hs2, by rw [ha.length, ha2.length]; exact hl, fun h0 => ?_, fun _ h0 => ?_, fun _ _ p hp => ?_⟩
          · subst h0
            cases ha
            exact q F H _ (Al.refl sf) (.tup hs2 ha2)
          · subst h0
            cases ha2
            rw [List.append_nil] at q
            exact q F H _ (Al.refl sf) (.tup hs ha)
          · exact q _ _ _ (Al.new sf hp) (.tup (.of upd_same) ((ha.append ha2).mono (same_new (sf.free hp))))
    · cases e
  · cases e
def gSlT : D → Option Int → Option Int → Option D := fun x lo hi => match x with | .tuple ds => some (.tuple (DL.cutD ds lo hi)) | _ => none
theorem d_slT : DSl K (rSlA K) gSlT := fun F H x dx lo hi d Q sf hx e q => by
  cases hx with
  | tup hs ha =>
    cases e
    refine ⟨_, _, rfl, sqt_mono sf hs, fun hw => ?_, fun _ p hp => q _ _ _ (Al.new sf hp) (.tup (.of upd_same) ((cut_dp ha lo hi).mono (same_new (sf.free hp))))⟩
    rename_i a xs ds
    have e : DL.cutD ds lo hi = ds := by
      unfold DL.cutD
      rw [← ha.length, hw.1, hw.2, ha.length, List.drop_zero, Nat.sub_zero, List.take_length]
    rw [e] at q
    exact q F H _ (Al.refl sf) (.tup hs ha)
  | _ => cases e
def gTuple : List D → Option D := fun xs => match xs with
  | [.list ds] => some (.tuple ds)
  | [.tuple ds] => some (.tuple ds)
  | _ => none
theorem d_tuple : DCall K (fun xs H Q => ∃ p ys, xs = [.ref p] ∧ ((SqL K H p ys ∧ ∀ l, H l = none → Q (.ref l) (upd H l (.tup ys))) ∨ (SqT K H p ys ∧ Q (.ref p) H))) gTuple := fun F H vs ds d Q sf hv e q => by
  unfold gTuple at e
  split at e
  · cases e
    obtain ⟨v, rfl, h⟩ := dpa1 hv
    cases h with
    | lst hs ha => exact ⟨_, _, rfl, .inl ⟨sf.seq hs, fun l hl => q _ _ _ (Al.new sf hl) (.tup (.of upd_same) (ha.mono (same_new (sf.free hl))))⟩⟩
  · cases e
    obtain ⟨v, rfl, h⟩ := dpa1 hv
    cases h with
    | tup hs ha => exact ⟨_, _, rfl, .inr ⟨sqt_mono sf hs, q F H _ (Al.refl sf) (.tup hs ha)⟩⟩
  · cases e
end
/-! ### new lists, to stand for good or to be owned -/
section
variable {X : Cx} {S : GS X.K G} {pv : List V} {e : Expr} {fa fb : M G D} {fs : M G (List D)}
def DOpN (K : PySem.W.Frag) (r : R2) (g : D → D → Option (List D)) : Prop :=
  ∀ F H x y dx dy ds (Q : VK), Same F H → Dq K F x dx → Dq K F y dy → g dx dy = some ds → (∀ p xs, H p = none → DqAll K F xs ds → Q (.ref p) (upd H p (.lst xs))) → r x y H Q
theorem DOpN.op {K : PySem.W.Frag} {r : R2} {g : D → D → Option (List D)} (h : DOpN K r g) : DOp K r (fun x y => (g x y).map PyData.list) := fun F H x y dx dy d Q sf hx hy e q => by
  cases eg : g dx dy with
  | none => simp only [eg] at e; cases e
  | some ds =>
    simp only [eg] at e
    cases e
    exact h F H x y dx dy ds Q sf hx hy eg fun p xs hp ha => q _ _ _ (Al.new sf hp) (.lst (.of upd_same) (ha.mono (same_new (sf.free hp))))
theorem own_end {F H : Hp} {σ : L2.St} {Q : VK} {ds : List D} (q : XF S pv (fun F H P v o => OwOk S F H P v o) F (mret (.seq ds)) σ H Q) {p : Addr} {xs : List V} (hp : H p = none) (ha : DqAll X.K F xs ds) : Q (.ref p) (upd H p (.lst xs)) := by
  obtain ⟨ω, ρ, re, a, ρ', e, q3⟩ := q
  cases e
  obtain ⟨re2, ev⟩ := re.newO (u := .lst xs) hp σ.length (Nat.le_refl _)
  refine q3 _ _ _ _ ev re2 ⟨p, xs, rfl, ?_, upd_same, ha⟩
  show (if p = p then some σ.length else ω p) = some σ.length
  rw [if_pos rfl]
def mown (o : Option (List D)) : M G (Ow G) := fun ρ => match o with
  | none => none
  | some ds => some (.seq ds, ρ)
theorem own_last {F H : Hp} {σ : L2.St} {Q : VK} {o : Option (List D)} (q : XF S pv (fun F H P v o => OwOk S F H P v o) F (mown o) σ H Q) : ∃ ds, o = some ds ∧ Same F H ∧ XF S pv (fun F H P v o => OwOk S F H P v o) F (mret (.seq ds)) σ H Q := by
  obtain ⟨ω, ρ, re, a, ρ', e, q3⟩ := q
  cases o with
  | none => cases e
  | some ds => cases e; exact ⟨ds, rfl, re.fh, ω, ρ, re, _, _, rfl, q3⟩
theorem do_op {r : R2} {g : D → D → Option (List D)} (h : PE X e (tOp r (tD S pv fa) (tD S pv fb))) (hd : DOpN X.K r g) : PE X e (tO S pv (mbnd fa fun x => mbnd fb fun y => mown (g x y))) :=
  pe_weak h fun σ H Q ⟨F, q⟩ => ⟨F, q.step fun x v F1 H1 s1 r1 q1 => ⟨F1, q1.step fun y u F2 H2 s2 r2 q2 => by
    obtain ⟨ds, e, sf, q3⟩ := own_last q2
    exact hd F2 H2 v u x y ds Q sf (r1.mono s2) r2 e fun p xs hp ha => own_end q3 hp ha⟩⟩
theorem wp_mown {o : Option (List D)} {ρ : List (Sl G)} {Q : Ow G → List (Sl G) → Prop} : WPm (mown o) ρ Q ↔ ∃ ds, o = some ds ∧ Q (.seq ds) ρ := by
  constructor
  · rintro ⟨a, ρ', e, q⟩
    cases o with
    | none => cases e
    | some ds => cases e; exact ⟨ds, rfl, q⟩
  · rintro ⟨ds, rfl, q⟩
    exact ⟨_, _, rfl, q⟩
/-- list + list, whatever they are -/
def rCatS (K : PySem.W.Frag) : R2 := fun x y H Q => ∃ l b xs zs, x = .ref l ∧ y = .ref b ∧ SqL K H l xs ∧ SqL K H b zs ∧ xs.length + zs.length ≤ sizeLine ∧ ∀ p, H p = none → Q (.ref p) (upd H p (.lst (xs ++ zs)))
theorem op_catS : OpR X (binaryOp .Add) (rCatS X.K) := by
  intro pins s σ H x y v u Q I rx ry h
  obtain ⟨l, b, xs, zs, rfl, rfl, hH, hB, hz, q⟩ := h
  cases rx
  cases ry
  obtain ⟨its, r, ⟨⟨cls, dd, data, sl⟩, n, ho, hc, hdn, hd⟩, _⟩ := I.list hH
  obtain ⟨its2, r2, ⟨⟨cls2, dd2, data2, sl2⟩, n2, ho2, hc2, hdn2, hd2⟩, _⟩ := I.list hB
  simp only at hc hd hc2 hd2
  subst hc hd hc2 hd2
  have e : its.toArray ++ its2.toArray = (its ++ its2).toArray := by simp
  have l1 := r.length
  have l2 := r2.length
  refine concat_meets ⟨_, ho, rfl⟩ ⟨_, ho2, rfl⟩ noFill_list_add seq_list_add PySem.F.slot_list_add PySem.F.entry_list_add (PySem.F.args_list_add_2 _ _) (list_addW l b its.toArray its2.toArray n n2 dd dd2 sl sl2 (by simp; omega)) ⟨ho, ho2, ?_⟩
  rw [e]
  exact ⟨.ref _, _, I.lnew (t' := s.toks) (r.append r2) (by rw [List.length_append]; omega), rfl, q _ I.fresh⟩
def gCatL : D → D → Option (List D) := fun x y => match x, y with | .list a, .list b => if a.length + b.length ≤ sizeLine then some (a ++ b) else none | _, _ => none
theorem do_cat {K : PySem.W.Frag} : DOpN K (rCatS K) gCatL := fun F H x y dx dy d Q sf hx hy e q => by
  unfold gCatL at e
  split at e
  · split at e
    · rename_i hl
      cases e
      cases hx with
      | lst hs ha =>
        cases hy with
        | lst hs2 ha2 => exact ⟨_, _, _, _, rfl, rfl, sf.seq hs, sf.seq hs2, by rw [ha.length, ha2.length]; exact hl, fun p hp => q p _ hp (ha.append ha2)⟩
    · cases e
  · cases e
theorem d_cat {K : PySem.W.Frag} : DOp K (rCatS K) (fun x y => (gCatL x y).map PyData.list) := do_cat.op
def DCallN (K : PySem.W.Frag) (r : List V → Hp → VK → Prop) (g : List D → Option (List D)) : Prop :=
  ∀ F H vs ds es (Q : VK), Same F H → DqAll K F vs ds → g ds = some es → (∀ p xs, H p = none → DqAll K F xs es → Q (.ref p) (upd H p (.lst xs))) → r vs H Q
theorem DCallN.call {K : PySem.W.Frag} {r : List V → Hp → VK → Prop} {g : List D → Option (List D)} (h : DCallN K r g) : DCall K r (fun x => (g x).map PyData.list) := fun F H vs ds d Q sf hv e q => by
  cases eg : g ds with
  | none => simp only [eg] at e; cases e
  | some es =>
    simp only [eg] at e
    cases e
    exact h F H vs ds es Q sf hv eg fun p xs hp ha => q _ _ _ (Al.new sf hp) (.lst (.of upd_same) (ha.mono (same_new (sf.free hp))))
theorem do_call {r : List V → Hp → VK → Prop} {g : List D → Option (List D)} (h : PE X e (tCB r (tA S pv fs))) (hd : DCallN X.K r g) : PE X e (tO S pv (mbnd fs fun x => mown (g x))) :=
  pe_weak h fun σ H Q ⟨F, q⟩ => ⟨F, q.step fun x v F1 H1 s1 r1 q1 => by
    obtain ⟨ds, e, sf, q3⟩ := own_last q1
    exact hd F1 H1 v x ds Q sf r1 e fun p xs hp ha => own_end q3 hp ha⟩
def gListN : List D → Option (List D) := fun xs => match xs with
  | [.list ds] => some ds
  | [.tuple ds] => some ds
  | _ => none
theorem do_list {K : PySem.W.Frag} : DCallN K (fun xs H Q => ∃ p ys, xs = [.ref p] ∧ (SqL K H p ys ∨ SqT K H p ys) ∧ ∀ l, H l = none → Q (.ref l) (upd H l (.lst ys))) gListN := fun F H vs ds d Q sf hv e q => by
  unfold gListN at e
  split at e
  · cases e
    obtain ⟨v, rfl, h⟩ := dpa1 hv
    cases h with
    | lst hs ha => exact ⟨_, _, rfl, .inl (sf.seq hs), fun l hl => q l _ hl ha⟩
  · cases e
    obtain ⟨v, rfl, h⟩ := dpa1 hv
    cases h with
    | tup hs ha => exact ⟨_, _, rfl, .inr (sqt_mono sf hs), fun l hl => q l _ hl ha⟩
  · cases e
/-! ### sorted, of data -/
open PySem.W in
def alikeB (ds : List D) : Bool := ds.all fun d => ds.all fun d' => alike d d'
def tupN : D → Bool | .tuple (_ :: _) => true | _ => false
def flatN : D → Bool | .none => false | .tuple _ => false | _ => true
def sortB (ds : List D) : Bool := ds.all tupN || ds.all flatN
open PySem.W in
def gSortedN : List D → Option (List D) := fun xs => match xs with
  | [.list ds] => if (alikeB ds && sortB ds && ds.all fun d => SeqAt.shaped d && decide (d.depth ≤ 50)) = true then some (ds.mergeSort (dataLe false id)) else none
  | _ => none
open PySem.W in
def rSortedQ (K : PySem.W.Frag) : List V → Hp → VK → Prop := fun vs H Q => ∃ (a : Addr) (xs : List V) (ds : List D), vs = [V.ref a] ∧ SqL K H a xs ∧ L2.DpAll K H xs ds ∧ (alikeB ds && sortB ds && ds.all fun d => SeqAt.shaped d && decide (d.depth ≤ 50)) = true ∧
  ∀ p, H p = none → Q (.ref p) (upd H p (.lst (((xs.zip ds).mergeSort (dataLe false Prod.snd)).map Prod.fst)))
open PySem.W in
theorem each_of {h : Heap} : ∀ {xs : List V} {us : List Value} {ds : List D} {as : List Addr}, Vals xs us → ReadsAll h us ds as → EachIs (fun v (b : V × D) => RelV b.1 v ∧ ∃ as, Reads h v b.2 as) us (xs.zip ds)
  | _, _, _, _, .nil, .nil => .nil
  | _, _, _, _, .cons r t, .cons q1 q2 => .cons ⟨r, _, q1⟩ (each_of t q2)
open PySem.W in
theorem vals_of_each {R : Value → V × D → Prop} (hR : ∀ v b, R v b → RelV b.1 v) : ∀ {us : List Value} {bs : List (V × D)}, EachIs R us bs → Vals (bs.map Prod.fst) us
  | _, _, .nil => .nil
  | _, _, .cons h t => .cons (hR _ _ h) (vals_of_each hR t)
theorem dpall_len {K : PySem.W.Frag} {H : Hp} : ∀ {xs : List V} {ds : List D}, L2.DpAll K H xs ds → xs.length = ds.length
  | _, _, .nil => rfl
  | _, _, .cons _ t => congrArg (· + 1) (dpall_len t)
open PySem.W in
theorem cr_sortedQ (hu : X.A.units + 64 < cLine) : CallR X (.builtin "sorted") (rSortedQ X.K) := by
  intro pins s σ H vs us Q I r h
  obtain ⟨a, xs, ds, rfl, hs, hd, hc, q⟩ := h
  obtain ⟨its, rv, hl, hz⟩ := I.list hs
  obtain ⟨u, rfl, ru⟩ := vals1 r
  obtain rfl : u = Value.ref a := ru
  obtain ⟨as, hr⟩ := L2.Dp.readsAll I ds xs its hd rv
  simp only [Bool.and_eq_true, List.all_eq_true] at hc
  obtain ⟨⟨hal, hsb⟩, hsh⟩ := hc
  have hlen : (xs.zip ds).map Prod.snd = ds := List.map_snd_zip (Nat.le_of_eq (dpall_len hd).symm)
  have hlx : (xs.zip ds).length = xs.length := by rw [List.length_zip, dpall_len hd]; exact Nat.min_self _
  have e := each_of rv hr
  have hal' : AllAlike ((xs.zip ds).map Prod.snd) := by
    rw [hlen]
    intro d h1 d' h2
    unfold alikeB at hal
    exact List.all_eq_true.mp (List.all_eq_true.mp hal d h1) d' h2
  have hk : Sortable ((xs.zip ds).map Prod.snd) := by
    rw [hlen]
    unfold sortB at hsb
    rcases Bool.or_eq_true_iff.mp hsb with h1 | h1
    · refine .inl fun d hd => ?_
      have := List.all_eq_true.mp h1 d hd
      unfold tupN at this
      split at this
      · exact ⟨_, _, rfl⟩
      · cases this
    · refine .inr fun d hd => ?_
      have := List.all_eq_true.mp h1 d hd
      refine ⟨fun z => ?_, fun ys z => ?_⟩
      · subst z; cases this
      · subst z; cases this
  refine sorted_data (bs := xs.zip ds) (enc := Prod.snd) hl.isList e (e.mono fun _ _ z => z.2) hal' hk (by rw [hlx]; exact hz) (fun b hb => ?_) fun out ho eo => ?_
  · have hm : b.2 ∈ ds := by rw [← hlen]; exact List.mem_map.mpr ⟨b, hb, rfl⟩
    have := (hsh b.2 hm).2
    have := of_decide_eq_true this
    omega
  · have hv : Vals (((xs.zip ds).mergeSort (dataLe false Prod.snd)).map Prod.fst) out := vals_of_each (fun _ _ z => z.1) eo
    refine ⟨.ref (s.heap.objs.size + 1), upd H (s.heap.objs.size + 1) (.lst _), I.laid (t' := s.toks) (fun b o e => sortedAll_old e) (Nat.le_succ _) ⟨?_, out, ?_⟩, rfl, q _ (I.hok.fresh (Nat.le_succ _))⟩
    · rw [List.length_map, List.length_mergeSort, hlx]; exact hz
    · obtain ⟨n, hn⟩ := sortedAll_at s.heap its out.toArray
      exact ⟨n, hv, hn⟩
theorem dqa_zip {K : PySem.W.Frag} {F : Hp} : ∀ {xs : List V} {ds : List D}, DqAll K F xs ds → ∀ p ∈ xs.zip ds, Dq K F p.1 p.2
  | _, _, .nil => fun p hp => by simp at hp
  | _, _, .cons h t => fun p hp => by
    rcases List.mem_cons.mp hp with rfl | hp
    · exact h
    · exact dqa_zip t p hp
theorem dqa_of {K : PySem.W.Frag} {F : Hp} : ∀ {ps : List (V × D)}, (∀ p ∈ ps, Dq K F p.1 p.2) → DqAll K F (ps.map Prod.fst) (ps.map Prod.snd)
  | [], _ => .nil
  | p :: r, h => .cons (h p List.mem_cons_self) (dqa_of fun q hq => h q (List.mem_cons_of_mem _ hq))
open PySem.W in
theorem do_sorted {K : PySem.W.Frag} : DCallN K (rSortedQ K) gSortedN := fun F H vs ds es Q sf hv e q => by
  unfold gSortedN at e
  split at e
  · rename_i ds'
    split at e
    · rename_i hc
      cases e
      obtain ⟨v, rfl, h⟩ := dpa1 hv
      cases h with
      | lst hs ha =>
        rename_i a xs
        have hlay : PyData.canLayAll0 ds' = true := by
          have h2 := hc
          simp only [Bool.and_eq_true, List.all_eq_true] at h2
          have : ∀ l : List D, (∀ d ∈ l, d.canLay0 = true) → PyData.canLayAll0 l = true := by
            intro l
            induction l with
            | nil => intro _; rfl
            | cons d r ih => intro hh; simp [PyData.canLayAll0, hh d List.mem_cons_self, ih fun d hd => hh d (List.mem_cons_of_mem _ hd)]
          exact this ds' fun d hd => SeqAt.canLay_of_shaped (h2.2 d hd).1
        have hp := dqa_of (ps := (xs.zip ds').mergeSort (dataLe false Prod.snd)) fun p hp => dqa_zip ha p (List.mem_mergeSort.mp hp)
        have e2 : ((xs.zip ds').mergeSort (dataLe false Prod.snd)).map Prod.snd = ds'.mergeSort (dataLe false id) := by
          rw [sort_maps (r := dataLe false Prod.snd) Prod.snd (s := dataLe false id) fun _ _ _ _ => rfl, List.map_snd_zip (Nat.le_of_eq ha.length.symm)]
        rw [e2] at hp
        exact ⟨a, xs, ds', rfl, sf.seq hs, (ha.mono sf).dp _ _ hlay, hc, fun p hn => q p _ hn hp⟩
    · cases e
  · cases e
open PySem.W in
theorem d_sorted {K : PySem.W.Frag} : DCall K (rSortedQ K) (fun x => (gSortedN x).map PyData.list) := do_sorted.call
end
end DL
set_option Elab.async false
set_option linter.all false
set_option maxRecDepth 100000
set_option maxHeartbeats 1000000
namespace DL
open PySem PySem.Spec PyProof.Rows L2
variable {G : Type}
/-! ### reading what a slot owns by the rules of data: the answer flat -/
def flatD : D → Bool | .none => true | .bool _ => true | .int _ => true | .str _ => true | _ => false
theorem dq_flat {K : PySem.W.Frag} {F F' : Hp} {v : V} {d : D} (h : Dq K F v d) (e : flatD d = true) : Dq K F' v d := by
  cases h with
  | non => exact .non
  | bl b => exact .bl b
  | int i => exact .int i
  | str z => exact .str z
  | _ => cases e
section
variable {X : Cx} {S : GS X.K G} {pv : List V} {e : Expr} {i : Nat} {fa fb : M G D}
theorem own_for {K : PySem.W.Frag} {S : GS K G} {F H : Hp} {ω : Om} {σ : L2.St} {ρ : List (Sl G)} (re : RE S pv F H ω σ ρ) {a : Addr} {xs : List V} {ds : List D} (hw : ω a = some i) (hH : H a = some (.lst xs)) (hs : DqAll K F xs ds) :
    Same F (upd F a (.lst xs)) ∧ Same (upd F a (.lst xs)) H ∧ Dq K (upd F a (.lst xs)) (.ref a) (.list ds) := by
  obtain ⟨fa, na⟩ := re.wf a i hw
  refine ⟨same_new fa, fun b o e => ?_, .lst (.of upd_same) (hs.mono (same_new fa))⟩
  by_cases hb : b = a
  · subst hb; rw [upd_same] at e; cases e; exact hH
  · rw [upd_ne hb] at e; exact re.fh b o e
theorem al_flat {F F1 F' H H' : Hp} (s : Same F F1) (a : Al F1 H F' H') : Al F H F H' := ⟨Same.refl F, fun _ _ h => .inl h, a.hh, (s.trans a.ff).trans a.fh⟩
theorem dv_opF {r : R2} {g : D → D → Option D} (h : PE X e (tOp r (tVar i) (tD S pv fb))) (hd : DOp X.K r g) (hf : ∀ x y d, g x y = some d → flatD d = true) : PE X e (tD S pv (mopO i fb fun ds y => g (.list ds) y)) :=
  pe_weak h fun σ H Q ⟨F, ω, ρ, re, d, ρ', e, q⟩ => by
    unfold mopO at e
    split at e
    · rename_i ds0 h0
      obtain ⟨a, xs0, hv, _, _, _⟩ := re.ownL h0
      obtain ⟨y, ρ1, e1, e2⟩ := mbnd_some e
      refine ⟨_, hv, F, ω, ρ, re, y, ρ1, e1, fun F1 H1 ω1 u ev1 re1 r1 => ?_⟩
      unfold rdO at e2
      split at e2
      · rename_i ds1 h1
        obtain ⟨a1, xs1, hv1, hw1, hH1, hs1⟩ := re1.ownL h1
        rw [hv] at hv1
        cases hv1
        cases eg : g (.list ds1) y with
        | none => simp only [eg] at e2; cases e2
        | some d' =>
          simp only [eg] at e2
          cases e2
          obtain ⟨t1, t2, t3⟩ := own_for re1 hw1 hH1 hs1
          exact hd _ H1 _ _ _ _ _ Q t2 t3 (r1.mono t1) eg fun F' H' v al r => q F1 H' ω1 v (ev1.trans (al_flat t1 al).ev) (re1.al (al_flat t1 al)) (dq_flat r (hf _ _ _ eg))
      · cases e2
    · cases e
theorem dt_opF {r : R2} {g : D → D → Option D} (h : PT X e (tTest (tOp r (tVar i) (tD S pv fb)))) (hd : DOp X.K r g) (hf : ∀ x y d, g x y = some d → flatD d = true) : PT X e (tT S pv (mtest (mopO i fb fun ds y => g (.list ds) y))) :=
  pt_weak h fun σ H Q ⟨F, ω, ρ, re, b, ρ', e, q⟩ => by
    obtain ⟨d, ρ2, e0, e9⟩ := mbnd_some e
    unfold mopO at e0
    split at e0
    · rename_i ds0 h0
      obtain ⟨a, xs0, hv, _, _, _⟩ := re.ownL h0
      obtain ⟨y, ρ1, e1, e2⟩ := mbnd_some e0
      refine ⟨_, hv, F, ω, ρ, re, y, ρ1, e1, fun F1 H1 ω1 u ev1 re1 r1 => ?_⟩
      unfold rdO at e2
      split at e2
      · rename_i ds1 h1
        obtain ⟨a1, xs1, hv1, hw1, hH1, hs1⟩ := re1.ownL h1
        rw [hv] at hv1
        cases hv1
        cases eg : g (.list ds1) y with
        | none => simp only [eg] at e2; cases e2
        | some d' =>
          simp only [eg] at e2
          cases e2
          obtain ⟨t1, t2, t3⟩ := own_for re1 hw1 hH1 hs1
          refine hd _ H1 _ _ _ _ _ _ t2 t3 (r1.mono t1) eg fun F' H' v al r => ?_
          cases d with
          | bool c =>
            cases e9
            cases r
            exact ⟨_, rfl, q F1 H' ω1 _ (ev1.trans (al_flat t1 al).ev) (re1.al (al_flat t1 al)) rfl⟩
          | _ => cases e9
      · cases e2
    · cases e0
theorem dv_callF1 {r : List V → Hp → VK → Prop} {g : List D → Option D} (h : PE X e (tCB r (tCons (tVar i) tNil))) (hd : DCall X.K r g) (hf : ∀ x d, g x = some d → flatD d = true) : PE X e (tD S pv (rdO i fun ds => g [.list ds])) :=
  pe_weak h fun σ H Q ⟨F, ω, ρ, re, d, ρ', e, q⟩ => by
    unfold rdO at e
    split at e
    · rename_i ds1 h1
      obtain ⟨a, xs1, hv, hw1, hH1, hs1⟩ := re.ownL h1
      cases eg : g [.list ds1] with
      | none => simp only [eg] at e; cases e
      | some d' =>
        simp only [eg] at e
        cases e
        obtain ⟨t1, t2, t3⟩ := own_for re hw1 hH1 hs1
        exact ⟨_, hv, hd _ H _ _ _ Q t2 (.cons t3 .nil) eg fun F' H' v al r => q F H' ω v (al_flat t1 al).ev (re.al (al_flat t1 al)) (dq_flat r (hf _ _ eg))⟩
    · cases e
/-! ### slices and copies of what a slot owns -/
def mslO (i : Nat) (fl fh : M G (Option Int)) : M G D := fun ρ => match ρ[i]? with
  | some (.own (.seq _)) => mbnd fl (fun lo => mbnd fh fun hi => rdO i fun ds => some (.list (DL.cutD ds lo hi))) ρ
  | _ => none
theorem dv_slO {fl fh : M G (Option Int)} (h : PE X e (tSl (rSlL X.K) (tVar i) (tOp' S pv fl) (tOp' S pv fh))) : PE X e (tD S pv (mslO i fl fh)) :=
  pe_weak h fun σ H Q ⟨F, ω, ρ, re, d, ρ', e, q⟩ => by
    unfold mslO at e
    split at e
    · rename_i ds0 h0
      obtain ⟨a, xs0, hv, _, _, _⟩ := re.ownL h0
      obtain ⟨lo, ρ1, e1, e2⟩ := mbnd_some e
      obtain ⟨hi, ρ2, e3, e4⟩ := mbnd_some e2
      refine ⟨_, hv, F, ω, ρ, re, lo, ρ1, e1, fun F1 H1 ω1 l ev1 re1 r1 => ?_⟩
      subst r1
      refine ⟨F1, ω1, ρ1, re1, hi, ρ2, e3, fun F2 H2 ω2 u ev2 re2 r2 => ?_⟩
      subst r2
      unfold rdO at e4
      split at e4
      · rename_i ds1 h1
        obtain ⟨a1, xs1, hv1, hw1, hH1, hs1⟩ := re2.ownL h1
        rw [hv] at hv1
        cases hv1
        cases e4
        exact ⟨a, xs1, rfl, SqL.of hH1, fun p hp => q _ _ ω2 _ ((ev1.trans ev2).trans (Al.new re2.fh hp).ev) (re2.al (Al.new re2.fh hp)) (.lst (.of upd_same) ((cut_dp hs1 _ _).mono (same_new (re2.fh.free hp))))⟩
      · cases e4
    · cases e
theorem wp_slO {fl fh : M G (Option Int)} {ρ : List (Sl G)} {Q : D → List (Sl G) → Prop} : WPm (mslO i fl fh) ρ Q ↔ owQ (fun _ => WPm fl ρ fun lo ρ1 => WPm fh ρ1 fun hi ρ2 => WPm (rdO i fun ds => some (.list (DL.cutD ds lo hi))) ρ2 Q) ρ[i]? := by
  rw [owQ_iff]
  constructor
  · rintro ⟨d, ρ', e, q⟩
    unfold mslO at e
    split at e
    · rename_i ds h
      refine ⟨ds, h, ?_⟩
      have := (wp_bnd (Q := Q)).mp ⟨d, ρ', e, q⟩
      simpa only [wp_bnd] using this
    · cases e
  · rintro ⟨ds, h, q⟩
    have : WPm (mbnd fl fun lo => mbnd fh fun hi => rdO i fun ds => some (.list (DL.cutD ds lo hi))) ρ Q := by simpa only [wp_bnd] using q
    obtain ⟨d, ρ', e, q⟩ := this
    exact ⟨d, ρ', by unfold mslO; rw [h]; exact e, q⟩
/-- tuple(x), x owned -/
def gTupO : List D → Option D := fun ds => some (.tuple ds)
theorem d_tupO {K : PySem.W.Frag} : DCallO K (fun xs H Q => ∃ p ys, xs = [.ref p] ∧ ((SqL K H p ys ∧ ∀ l, H l = none → Q (.ref l) (upd H l (.tup ys))) ∨ (SqT K H p ys ∧ Q (.ref p) H))) gTupO := fun F H a xs ds d Q sf hH hs e q => by
  cases e
  exact ⟨_, _, rfl, .inl ⟨.of hH, fun l hl => q _ _ _ (Al.new sf hl) (.tup (.of upd_same) (hs.mono (same_new (sf.free hl))))⟩⟩
def gLstO : List D → Option D := fun ds => some (.list ds)
theorem d_lstO {K : PySem.W.Frag} : DCallO K (fun xs H Q => ∃ p ys, xs = [.ref p] ∧ (SqL K H p ys ∨ SqT K H p ys) ∧ ∀ l, H l = none → Q (.ref l) (upd H l (.lst ys))) gLstO := fun F H a xs ds d Q sf hH hs e q => by
  cases e
  exact ⟨_, _, rfl, .inl (.of hH), fun l hl => q _ _ _ (Al.new sf hl) (.lst (.of upd_same) (hs.mono (same_new (sf.free hl))))⟩
/-- a new list of a call by what a slot owns -/
def DCallON (K : PySem.W.Frag) (r : List V → Hp → VK → Prop) (g : List D → Option (List D)) : Prop :=
  ∀ F H a xs ds es (Q : VK), Same F H → H a = some (.lst xs) → DqAll K F xs ds → g ds = some es → (∀ p ys, H p = none → DqAll K F ys es → Q (.ref p) (upd H p (.lst ys))) → r [.ref a] H Q
theorem DCallN.own {K : PySem.W.Frag} {r : List V → Hp → VK → Prop} {g : List D → Option (List D)} (hd : DCallN K r g) (hg : ∀ ds es, g [.list ds] = some es → ∀ d ∈ es, d ∈ ds) (hm : True) : True := trivial
theorem DCallON.call {K : PySem.W.Frag} {r : List V → Hp → VK → Prop} {g : List D → Option (List D)} (h : DCallON K r g) : DCallO K r (fun x => (g x).map PyData.list) := fun F H a xs ds d Q sf hH hs e q => by
  cases eg : g ds with
  | none => simp only [eg] at e; cases e
  | some es =>
    simp only [eg] at e
    cases e
    exact h F H a xs ds es Q sf hH hs eg fun p ys hp ha => q _ _ _ (Al.new sf hp) (.lst (.of upd_same) (ha.mono (same_new (sf.free hp))))
def rdON (i : Nat) (g : List D → Option (List D)) : M G (Ow G) := fun ρ => match ρ[i]? with
  | some (.own (.seq ds)) => match g ds with | some es => some (.seq es, ρ) | none => none
  | _ => none
theorem do_callO {r : List V → Hp → VK → Prop} {g : List D → Option (List D)} (h : PE X e (tCB r (tCons (tVar i) tNil))) (hd : DCallON X.K r g) : PE X e (tO S pv (rdON i g)) :=
  pe_weak h fun σ H Q ⟨F, ω, ρ, re, o, ρ', e, q⟩ => by
    unfold rdON at e
    split at e
    · rename_i ds1 h1
      obtain ⟨a, xs1, hv, hw1, hH1, hs1⟩ := re.ownL h1
      cases eg : g ds1 with
      | none => simp only [eg] at e; cases e
      | some es =>
        simp only [eg] at e
        cases e
        exact ⟨_, hv, hd F H a xs1 ds1 es Q re.fh hH1 hs1 eg fun p ys hp ha => own_end ⟨ω, ρ, re, _, _, rfl, q⟩ hp ha⟩
    · cases e
theorem wp_rdON {g : List D → Option (List D)} {ρ : List (Sl G)} {Q : Ow G → List (Sl G) → Prop} : WPm (rdON i g) ρ Q ↔ owQ (fun ds => ∃ es, g ds = some es ∧ Q (.seq es) ρ) ρ[i]? := by
  rw [owQ_iff]
  constructor
  · rintro ⟨d, ρ', e, q⟩
    unfold rdON at e
    split at e
    · rename_i ds h
      refine ⟨ds, h, ?_⟩
      cases eg : g ds with
      | none => simp only [eg] at e; cases e
      | some d' => simp only [eg] at e; cases e; exact ⟨_, rfl, q⟩
    · cases e
  · rintro ⟨ds, h, es, eg, q⟩
    exact ⟨_, ρ, by unfold rdON; rw [h]; dsimp only; rw [eg], q⟩
theorem do_lstO {K : PySem.W.Frag} : DCallON K (fun xs H Q => ∃ p ys, xs = [.ref p] ∧ (SqL K H p ys ∨ SqT K H p ys) ∧ ∀ l, H l = none → Q (.ref l) (upd H l (.lst ys))) (fun ds => some ds) := fun F H a xs ds es Q sf hH hs e q => by
  cases e
  exact ⟨_, _, rfl, .inl (.of hH), fun l hl => q l _ hl hs⟩
/-- sorted(x), x owned -/
def gSortO : List D → Option (List D) := fun ds => gSortedN [.list ds]
theorem do_sortO {K : PySem.W.Frag} : DCallON K (rSortedQ K) gSortO := fun F H a xs ds es Q sf hH hs e q => by
  have fa : Same F (upd F a (.lst xs)) ∨ True := .inr trivial
  unfold gSortO gSortedN at e
  dsimp only at e
  split at e
  · rename_i hc
    cases e
    have hlay : PyData.canLayAll0 ds = true := by
      have h2 := hc
      simp only [Bool.and_eq_true, List.all_eq_true] at h2
      have : ∀ l : List D, (∀ d ∈ l, d.canLay0 = true) → PyData.canLayAll0 l = true := by
        intro l
        induction l with
        | nil => intro _; rfl
        | cons d r ih => intro hh; simp [PyData.canLayAll0, hh d List.mem_cons_self, ih fun d hd => hh d (List.mem_cons_of_mem _ hd)]
      exact this ds fun d hd => SeqAt.canLay_of_shaped (h2.2 d hd).1
    have hp := dqa_of (ps := (xs.zip ds).mergeSort (PySem.W.dataLe false Prod.snd)) fun p hp => dqa_zip hs p (List.mem_mergeSort.mp hp)
    have e2 : ((xs.zip ds).mergeSort (PySem.W.dataLe false Prod.snd)).map Prod.snd = ds.mergeSort (PySem.W.dataLe false id) := by
      rw [PySem.W.sort_maps (r := PySem.W.dataLe false Prod.snd) Prod.snd (s := PySem.W.dataLe false id) fun _ _ _ _ => rfl, List.map_snd_zip (Nat.le_of_eq hs.length.symm)]
    rw [e2] at hp
    exact ⟨a, xs, ds, rfl, .of hH, (hs.mono sf).dp _ _ hlay, hc, fun p hn => q p _ hn hp⟩
  · cases e
end
/-! ### insert -/
def gInsert : List D → List D → Option (D × List D) := fun ds es => match es with
  | [.int i, y] => if ds.length < sizeLine ∧ 0 ≤ i ∧ i < 2 ^ 63 then some (.none, ds.take i.toNat ++ [y] ++ ds.drop i.toNat) else none
  | _ => none
theorem d_insert {K : PySem.W.Frag} : DMut K (fun x vs H Q => ∃ (l : Addr) (xs : List V) (i : Int) (y : V), x = .ref l ∧ vs = [.int i, y] ∧ H l = some (.lst xs) ∧ xs.length < sizeLine ∧ 0 ≤ i ∧ i < 2 ^ 63 ∧
    Q .non (upd H l (.lst (xs.take i.toNat ++ [y] ++ xs.drop i.toNat)))) gInsert := fun F H a xs ds vs es d ds' Q sf hH hs hv e q => by
  unfold gInsert at e
  split at e
  · rename_i i y
    split at e
    · rename_i hc
      cases e
      obtain ⟨v, w, rfl, h1, h2⟩ := dpa2 hv
      cases h1
      exact ⟨a, xs, i, w, rfl, rfl, hH, by rw [hs.length]; exact hc.1, hc.2.1, hc.2.2, q _ _ .non (((hs.take _).append (.cons h2 .nil)).append (hs.drop _))⟩
    · cases e
  · cases e
/-! ### two places of a list change -/
section
variable {X : Cx} {S : GS X.K G} {pv : List V} {st : Stmt} {i : Nat}
def mput (i : Nat) (fi : M G D) (d : D) : M G D := fun ρ => match ρ[i]? with
  | some (.own (.seq _)) => mbnd fi (fun k => wrO i fun ds => gSetI ds k d) ρ
  | _ => none
def sswap (i : Nat) (f fj fk : M G D) : SM G := mbnd f fun t => match t with
  | .tuple [x, y] => mbnd (mput i fj x) fun _ => mbnd (mput i fk y) fun _ => mret .nx
  | _ => fun _ => none
theorem put_core {fi : M G D} {F H : Hp} {ω : Om} {σ : L2.St} {ρ ρ' : List (Sl G)} {x : V} {d z : D} {Q : L2.St → Hp → Prop} (re : RE S pv F H ω σ ρ) (e : mput i fi d ρ = some (z, ρ')) (hx : Dq X.K F x d)
    (q : ∀ F' H' ω', Ev F H ω F' H' ω' → RE S pv F' H' ω' σ ρ' → Q σ H') : L2.gSub (tVar i) (tD S pv fi) rSetL x σ H Q := by
  unfold mput at e
  split at e
  · rename_i ds0 h0
    obtain ⟨a, xs0, hv, _, hH0, _⟩ := re.ownL h0
    obtain ⟨k, ρ2, e3, e5⟩ := mbnd_some e
    refine ⟨_, hv, F, ω, ρ, re, k, ρ2, e3, fun F2 H2 ω2 u ev2 re2 r2 => ?_⟩
    unfold wrO at e5
    split at e5
    · rename_i ds1 h1
      obtain ⟨a1, xs1, hv1, hw1, hH1, hs1⟩ := re2.ownL h1
      rw [hv] at hv1
      cases hv1
      cases k with
      | int i' =>
        cases r2
        unfold gSetI at e5
        dsimp only at e5
        cases hj : ixN ds1.length i' with
        | none => rw [hj] at e5; cases e5
        | some j =>
          rw [hj] at e5
          cases e5
          refine ⟨a, xs1, i', j, rfl, rfl, hH1, by rw [hs1.length]; exact hj, ?_⟩
          obtain ⟨re3, ev3⟩ := re2.wr (u := .lst (xs1.set j x)) (o2 := .seq (ds1.set j d)) h1 hv hw1 ⟨a, _, rfl, hw1, upd_same, hs1.set (hx.mono ev2.ff) j⟩
          exact q F2 _ ω2 (ev2.trans ev3) re3
      | _ => cases e5
    · cases e5
  · cases e
theorem ds_swap {f fj fk : M G D} (h : PS X st (tAsg (tD S pv f) (gTup X.K 2 (gCons (L2.gSub (tVar i) (tD S pv fj) rSetL) (gCons (L2.gSub (tVar i) (tD S pv fk) rSetL) gNil))))) : PS X st (tS S pv (sswap i f fj fk)) :=
  ps_weak h fun En σ H ⟨F, ω, ρ, re, out, ρ', e, q⟩ => by
    obtain ⟨t, ρ1, e1, e2⟩ := mbnd_some e
    refine ⟨F, ω, ρ, re, t, ρ1, e1, fun F1 H1 ω1 v ev1 re1 r1 => ?_⟩
    split at e2
    · rename_i x y
      obtain ⟨z1, ρ2, e3, e4⟩ := mbnd_some e2
      obtain ⟨z2, ρ3, e5, e6⟩ := mbnd_some e4
      cases e6
      cases r1 with
      | tup hs ha =>
        obtain ⟨u, w, rfl, hu, hw⟩ := dpa2 ha
        refine ⟨_, _, rfl, sqt_mono re1.fh hs, rfl, u, _, rfl, put_core re1 e3 hu fun F2 H2 ω2 ev2 re2 => ⟨w, _, rfl, put_core re2 e5 (hw.mono ev2.ff) fun F3 H3 ω3 ev3 re3 => ⟨rfl, ?_⟩⟩⟩
        exact q F3 H3 ω3 σ (ev1.trans (ev2.trans ev3)) re3 rfl
    · cases e2
theorem wp_put {fi : M G D} {d : D} {ρ : List (Sl G)} {Q : D → List (Sl G) → Prop} : WPm (mput i fi d) ρ Q ↔ owQ (fun _ => WPm fi ρ fun k ρ1 => WPm (wrO i fun ds => gSetI ds k d) ρ1 Q) ρ[i]? := by
  rw [owQ_iff]
  constructor
  · rintro ⟨d, ρ', e, q⟩
    unfold mput at e
    split at e
    · rename_i ds h
      exact ⟨ds, h, wp_bnd.mp ⟨d, ρ', e, q⟩⟩
    · cases e
  · rintro ⟨ds, h, q⟩
    obtain ⟨d, ρ', e, q⟩ := wp_bnd.mpr q
    exact ⟨d, ρ', by unfold mput; rw [h]; exact e, q⟩
theorem wp_swap {f fj fk : M G D} {ρ : List (Sl G)} {Q : Out G → List (Sl G) → Prop} : WPm (sswap i f fj fk) ρ Q ↔ WPm f ρ fun t ρ1 => ∃ x y, t = .tuple [x, y] ∧ WPm (mput i fj x) ρ1 fun _ ρ2 => WPm (mput i fk y) ρ2 fun _ ρ3 => Q .nx ρ3 := by
  unfold sswap
  rw [wp_bnd]
  refine ⟨fun h => wp_mono h fun t ρ1 hh => ?_, fun h => wp_mono h fun t ρ1 ⟨x, y, e, q⟩ => ?_⟩
  · split at hh
    · exact ⟨_, _, rfl, by simpa only [wp_bnd, wp_ret] using hh⟩
    · obtain ⟨_, _, e, _⟩ := hh; cases e
  · subst e
    show WPm (mbnd (mput i fj x) fun _ => mbnd (mput i fk y) fun _ => mret .nx) ρ1 Q
    simpa only [wp_bnd, wp_ret] using q
end
/-! ### texts -/
section
variable {X : Cx} {S : GS X.K G} {pv : List V} {e : Expr} {fa : M G D}
def gSlS : D → Option Int → Option Int → Option D := fun x lo hi => match x with | .str z => if z.length ≤ sizeLine then some (.str (cutS z lo hi)) else none | _ => none
theorem d_slS {K : PySem.W.Frag} : DSl K rSlS gSlS := fun F H x dx lo hi d Q sf hx e q => by
  cases hx with
  | str z =>
    unfold gSlS at e
    dsimp only at e
    split at e
    · rename_i hz
      cases e
      exact ⟨z, rfl, hz, q F H _ (Al.refl sf) (.str _)⟩
    · cases e
  | _ => cases e
/-- a method of a text without arguments -/
def DStr0 (K : PySem.W.Frag) (r : V → List V → Hp → VK → Prop) (g : Str → Option D) : Prop :=
  ∀ F H z d (Q : VK), Same F H → g z = some d → (∀ F' H' v, Al F H F' H' → Dq K F' v d → Q v H') → r (.str z) [] H Q
def mstr0 (f : M G D) (g : Str → Option D) : M G D := mbnd f fun d => mlft (match d with | .str z => g z | _ => none)
theorem dv_str0 {r : V → List V → Hp → VK → Prop} {g : Str → Option D} (h : PE X e (tBM0 X.K "str" r (tD S pv fa))) (hd : DStr0 X.K r g) : PE X e (tD S pv (mstr0 fa g)) :=
  pe_weak h fun σ H Q ⟨F, q⟩ => ⟨F, q.step fun x v F1 H1 s1 r1 q1 => by
    obtain ⟨d, e, sf, q3⟩ := q1.last
    split at e
    · rename_i z
      cases r1
      exact ⟨rfl, hd F1 H1 z d Q sf e q3⟩
    · cases e⟩
theorem wp_str0 {g : Str → Option D} {ρ : List (Sl G)} {Q : D → List (Sl G) → Prop} : WPm (mstr0 fa g) ρ Q ↔ WPm fa ρ fun d ρ1 => ∃ z, d = .str z ∧ WPm (mlft (g z)) ρ1 Q := by
  unfold mstr0
  rw [wp_bnd]
  refine ⟨fun h => wp_mono h fun t ρ1 hh => ?_, fun h => wp_mono h fun t ρ1 ⟨z, e, q⟩ => ?_⟩
  · split at hh
    · exact ⟨_, rfl, hh⟩
    · obtain ⟨_, _, e, _⟩ := hh; cases e
  · subst e; exact q
def gUpper : Str → Option D := fun z => if z.length ≤ 5592405 then some (.str (Txt.upper z)) else none
theorem d_upper {K : PySem.W.Frag} : DStr0 K (fun x xs H Q => ∃ a, x = .str a ∧ xs = [] ∧ a.length ≤ 5592405 ∧ Q (.str (Txt.upper a)) H) gUpper := fun F H z d Q sf e q => by
  unfold gUpper at e
  split at e
  · rename_i hz
    cases e
    exact ⟨z, rfl, rfl, hz, q F H _ (Al.refl sf) (.str _)⟩
  · cases e
/-! ### ints and bools -/
def nuI : D → Option Int | .int i => some i | .bool b => some (if b then 1 else 0) | _ => none
def nuV : V → Option Int | .int i => some i | .bl b => some (if b then 1 else 0) | _ => none
theorem nu_dq {K : PySem.W.Frag} {F : Hp} {v : V} {d : D} (h : Dq K F v d) {i : Int} (e : nuI d = some i) : nuV v = some i := by
  cases h with
  | int i => exact e
  | bl b => exact e
  | _ => cases e
def rNu2 (f : Int → Int → Int) : R2 := fun x y H Q => ∃ i j, nuV x = some i ∧ y = .int j ∧ Q (.int (f i j)) H
theorem op_addNI : OpR X (binaryOp .Add) (rNu2 fun i j => i + j) := by
  intro pins s σ H x y v u Q I rx ry h
  obtain ⟨i, j, h1, rfl, q⟩ := h
  obtain ⟨t, rfl⟩ := ry
  cases x with
  | int k => cases h1; obtain ⟨t', rfl⟩ := rx; exact add_int ⟨.int _, H, I.tok _, ⟨_, rfl⟩, q⟩
  | bl b => cases h1; cases rx; exact IntBool.add_bool_int ⟨.int _, H, I.tok _, ⟨_, rfl⟩, q⟩
  | _ => cases h1
theorem op_subNI : OpR X (binaryOp .Sub) (rNu2 fun i j => i - j) := by
  intro pins s σ H x y v u Q I rx ry h
  obtain ⟨i, j, h1, rfl, q⟩ := h
  obtain ⟨t, rfl⟩ := ry
  cases x with
  | int k => cases h1; obtain ⟨t', rfl⟩ := rx; exact sub_int ⟨.int _, H, I.tok _, ⟨_, rfl⟩, q⟩
  | bl b => cases h1; cases rx; exact IntBool.sub_bool_int ⟨.int _, H, I.tok _, ⟨_, rfl⟩, q⟩
  | _ => cases h1
def gNu2 (f : Int → Int → Int) : D → D → Option D := fun x y => match nuI x, y with | some i, .int j => some (.int (f i j)) | _, _ => none
theorem d_nu2 {K : PySem.W.Frag} (f : Int → Int → Int) : DOp K (rNu2 f) (gNu2 f) := fun F H x y dx dy d Q sf hx hy e q => by
  unfold gNu2 at e
  split at e
  · rename_i i j h1
    cases e
    cases hy
    exact ⟨i, j, nu_dq hx h1, rfl, q F H _ (Al.refl sf) (.int _)⟩
  · cases e
theorem slot_bool_neg : Slot "bool" "__neg__" "int.__neg__" :=
  .of (owner := "int") (n := "__neg__") (by rw [typeLookup_type, builtinLookup_eq_fast]; kernel_rfl) (by decide +kernel) (by decide +kernel) (by decide +kernel)
    (by first | exact .inl (by decide +kernel) | exact .inr (by decide +kernel)) (by rw [isSubtype_type]; kernel_rfl)
theorem gives_bool_neg (b : Bool) : Gives (Builtin.«int.__neg__» ⟨[.bool b], []⟩) (.int (-(if b = true then (1 : Int) else 0))) := .of_eq (by cases b <;> rfl)
def rNu1 (f : Int → Int) : V → Hp → VK → Prop := fun x H Q => ∃ i, nuV x = some i ∧ Q (.int (f i)) H
theorem un_negN : UnR X (unaryOp .USub) (DL.rNu1 fun i => -i) := by
  intro pins s σ H x v Q I rx h
  obtain ⟨i, h1, q⟩ := h
  cases x with
  | int k => cases h1; obtain ⟨t', rfl⟩ := rx; exact PySem.P.neg_int ⟨.int _, H, I.tok _, ⟨_, rfl⟩, q⟩
  | bl b =>
    cases h1
    cases rx
    exact unaryOp_gives (op := .USub) (PySem.typeIs_bool s b) rfl slot_bool_neg F.entry_int_neg (F.args_int_neg_1 _) (gives_bool_neg b) ⟨.int _, H, I.tok _, ⟨_, rfl⟩, q⟩
  | _ => cases h1
def gNu1 (f : Int → Int) : D → Option D := fun x => (nuI x).map fun i => .int (f i)
theorem d_nu1 {K : PySem.W.Frag} (f : Int → Int) : DUn K (DL.rNu1 f) (gNu1 f) := fun F H x dx d Q sf hx e q => by
  unfold gNu1 at e
  cases h1 : nuI dx with
  | none => rw [h1] at e; cases e
  | some i =>
    rw [h1] at e
    cases e
    exact ⟨i, nu_dq hx h1, q F H _ (Al.refl sf) (.int _)⟩
/-- str(x), x an int or a bool or a text -/
def rStrN : List V → Hp → VK → Prop := fun xs H Q => (∃ i, xs = [.int i] ∧ i.natAbs.log2 < 1920 ∧ Q (.str (toString i)) H) ∨ (∃ b, xs = [V.bl b] ∧ Q (.str (if b then "True" else "False")) H) ∨ ∃ z, xs = [V.str z] ∧ Q (.str z) H
theorem call_strN : CallR X (.type "str") rStrN := by
  intro pins s σ H xs us Q I r h
  rcases h with ⟨i, rfl, hz, q⟩ | ⟨b, rfl, q⟩ | ⟨z, rfl, q⟩
  · obtain ⟨u, rfl, t, rfl⟩ := vals1 r
    exact PySem.P.str_of_int hz ⟨.str _, H, I.tok _, ⟨_, rfl⟩, q⟩
  · obtain ⟨u, rfl, r1⟩ := vals1 r
    cases r1
    exact PySem.P.str_of_bool ⟨.str _, H, I.tok _, ⟨_, rfl⟩, q⟩
  · obtain ⟨u, rfl, t, rfl⟩ := vals1 r
    exact PySem.P.str_of_str ⟨.str z, H, I, ⟨t, rfl⟩, q⟩
def gStrN : List D → Option D := fun xs => match xs with
  | [.int i] => if i.natAbs.log2 < 1920 then some (.str (toString i)) else none
  | [.bool b] => some (.str (if b then "True" else "False"))
  | [.str z] => some (.str z)
  | _ => none
theorem d_strN {K : PySem.W.Frag} : DCall K rStrN gStrN := fun F H vs ds d Q sf hv e q => by
  unfold gStrN at e
  split at e
  · split at e
    · rename_i hz
      cases e
      obtain ⟨v, rfl, h1⟩ := dpa1 hv
      cases h1
      exact .inl ⟨_, rfl, hz, q F H _ (Al.refl sf) (.str _)⟩
    · cases e
  · cases e
    obtain ⟨v, rfl, h1⟩ := dpa1 hv
    cases h1
    exact .inr (.inl ⟨_, rfl, q F H _ (Al.refl sf) (.str _)⟩)
  · cases e
    obtain ⟨v, rfl, h1⟩ := dpa1 hv
    cases h1
    exact .inr (.inr ⟨_, rfl, q F H _ (Al.refl sf) (.str _)⟩)
  · cases e
/-! ### x in l, data of any depth -/
def gInD : D → D → Option D := fun x y => match y with | .list ds => if SeqAt.shaped x = true ∧ SeqAt.shaped (.list ds) = true then some (.bool (ds.any fun z => PyData.eqv z x)) else none | _ => none
def gNinD : D → D → Option D := fun x y => match y with | .list ds => if SeqAt.shaped x = true ∧ SeqAt.shaped (.list ds) = true then some (.bool (!ds.any fun z => PyData.eqv z x)) else none | _ => none
theorem d_inD {K : PySem.W.Frag} : DOp K (rInD K) gInD := fun F H x y dx dy d Q sf hx hy e q => by
  unfold gInD at e
  split at e
  · rename_i ds
    split at e
    · rename_i hc
      cases e
      exact ⟨dx, ds, (hx.mono sf).dp _ _ (SeqAt.canLay_of_shaped hc.1), (hy.mono sf).dp _ _ (SeqAt.canLay_of_shaped hc.2), hc.1, hc.2, q F H _ (Al.refl sf) (.bl _)⟩
    · cases e
  · cases e
theorem d_ninD {K : PySem.W.Frag} : DOp K (rNotInD K) gNinD := fun F H x y dx dy d Q sf hx hy e q => by
  unfold gNinD at e
  split at e
  · rename_i ds
    split at e
    · rename_i hc
      cases e
      exact ⟨dx, ds, (hx.mono sf).dp _ _ (SeqAt.canLay_of_shaped hc.1), (hy.mono sf).dp _ _ (SeqAt.canLay_of_shaped hc.2), hc.1, hc.2, q F H _ (Al.refl sf) (.bl _)⟩
    · cases e
  · cases e
/-- a text's place -/
def gIxS : D → D → Option D := fun x y => match x, y with | .str z, .int i => if z.length ≤ sizeLine then (atI z.cps.toList i).map fun c => .str ⟨#[c]⟩ else none | _, _ => none
theorem d_ixS {K : PySem.W.Frag} : DOp K rIxS gIxS := fun F H x y dx dy d Q sf hx hy e q => by
  unfold gIxS at e
  split at e
  · rename_i z i
    split at e
    · rename_i hz
      cases h1 : atI z.cps.toList i with
      | none => rw [h1] at e; cases e
      | some c =>
        rw [h1] at e
        cases e
        cases hx
        cases hy
        exact ⟨z, i, c, rfl, rfl, hz, h1, q F H _ (Al.refl sf) (.str _)⟩
    · cases e
  · cases e
/-- a list's or a tuple's place -/
def gIxA : D → D → Option D := fun x y => match x with | .list _ => gIxL x y | .tuple _ => gIxT x y | .str _ => gIxS x y | _ => none
theorem d_ixA {K : PySem.W.Frag} : DOp K (rIx K) gIxA := fun F H x y dx dy d Q sf hx hy e q => by
  unfold gIxA at e
  split at e
  · exact .inl (d_ixL F H x y _ dy d Q sf hx hy e q)
  · exact .inr (.inl (d_ixT F H x y _ dy d Q sf hx hy e q))
  · exact .inr (.inr (d_ixS F H x y _ dy d Q sf hx hy e q))
  · cases e
end
/-! ### small things that the printed terms name -/
theorem hu65 {A : Around} {k : Nat} (hr : Room k A) : A.units + 65 < cLine := by have := hr.un; omega
theorem fl_eqD : ∀ x y d, gEqD x y = some d → flatD d = true := fun x y d e => by unfold gEqD at e; split at e <;> cases e; rfl
theorem fl_neD : ∀ x y d, gNeD x y = some d → flatD d = true := fun x y d e => by unfold gNeD at e; split at e <;> cases e; rfl
end DL
set_option Elab.async false
set_option linter.all false
set_option maxRecDepth 100000
set_option maxHeartbeats 1000000
namespace DL
open PySem PySem.Spec PyProof.Rows L2
variable {G : Type} {α β : Type}
/-! ### calls of defs whose promise is «what its mirror does» -/
def endQ (ρ : List (Sl G)) (Q : D → List (Sl G) → Prop) : Out G → List (Sl G) → Prop
  | .nx, ρ2 => Q .none (List.zipWith mrg1 ρ ρ2)
  | .rt d, ρ2 => Q d (List.zipWith mrg1 ρ ρ2)
  | _, _ => False
def endO (ρ : List (Sl G)) (Q : Ow G → List (Sl G) → Prop) : Out G → List (Sl G) → Prop
  | .ro d, ρ2 => Q d (List.zipWith mrg1 ρ ρ2)
  | _, _ => False
theorem endQ_nx {ρ ρ2 : List (Sl G)} {Q : D → List (Sl G) → Prop} : endQ ρ Q .nx ρ2 ↔ Q .none (List.zipWith mrg1 ρ ρ2) := Iff.rfl
theorem endQ_rt {ρ ρ2 : List (Sl G)} {Q : D → List (Sl G) → Prop} {d : D} : endQ ρ Q (.rt d) ρ2 ↔ Q d (List.zipWith mrg1 ρ ρ2) := Iff.rfl
theorem endO_ro {ρ ρ2 : List (Sl G)} {Q : Ow G → List (Sl G) → Prop} {d : Ow G} : endO ρ Q (.ro d) ρ2 ↔ Q d (List.zipWith mrg1 ρ ρ2) := Iff.rfl
theorem call_close {N : Nat} {m : SM G} {ρ : List (Sl G)} {Q : D → List (Sl G) → Prop} (h : WPm m (ρ ++ List.replicate (N - ρ.length) .un) (endQ ρ Q)) : callQ (close N m) ρ Q := by
  obtain ⟨o, ρ2, e, q⟩ := h
  unfold callQ close
  cases o with
  | nx => exact ⟨_, _, by rw [e], q⟩
  | rt d => exact ⟨_, _, by rw [e], q⟩
  | _ => exact q.elim
theorem callO_close {N : Nat} {m : SM G} {ρ : List (Sl G)} {Q : Ow G → List (Sl G) → Prop} (h : WPm m (ρ ++ List.replicate (N - ρ.length) .un) (endO ρ Q)) : callO (close N m) ρ Q := by
  obtain ⟨o, ρ2, e, q⟩ := h
  unfold callO close
  cases o with
  | ro d => exact ⟨_, _, by rw [e], q⟩
  | _ => exact q.elim
theorem callQ_mono {g : FM G} {ρ : List (Sl G)} {Q Q' : D → List (Sl G) → Prop} (h : callQ g ρ Q) (q : ∀ d ρ', Q d ρ' → Q' d ρ') : callQ g ρ Q' := let ⟨d, ρ', e, r⟩ := h; ⟨d, ρ', e, q d ρ' r⟩
theorem callO_mono {g : FM G} {ρ : List (Sl G)} {Q Q' : Ow G → List (Sl G) → Prop} (h : callO g ρ Q) (q : ∀ d ρ', Q d ρ' → Q' d ρ') : callO g ρ Q' := let ⟨d, ρ', e, r⟩ := h; ⟨d, ρ', e, q d ρ' r⟩
/-- a test's start -/
theorem wp_while {n : Nat} {c : M G Bool} {body : SM G} {ρ : List (Sl G)} {Q : Out G → List (Sl G) → Prop} :
    WPm (whileM c body (n + 1)) ρ Q ↔ WPm c ρ fun b ρ1 => if b = true then WPm body ρ1 (lpQ (fun ρ2 => WPm (whileM c body n) ρ2 Q) Q) else Q .nx ρ1 := by
  constructor
  · rintro ⟨o, ρ', e, q⟩
    unfold whileM at e
    cases e1 : c ρ with
    | none => rw [e1] at e; cases e
    | some p =>
      obtain ⟨b, ρ1⟩ := p
      rw [e1] at e
      refine ⟨b, ρ1, e1, ?_⟩
      cases b with
      | false => cases e; exact q
      | true =>
        dsimp only at e
        cases e2 : body ρ1 with
        | none => rw [e2] at e; cases e
        | some p =>
          obtain ⟨o2, ρ2⟩ := p
          rw [e2] at e
          rw [if_pos rfl]
          refine ⟨o2, ρ2, e2, ?_⟩
          cases o2 with
          | nx => exact ⟨o, ρ', e, q⟩
          | ct => exact ⟨o, ρ', e, q⟩
          | bk => cases e; exact q
          | rt d => cases e; exact q
          | ro d => cases e; exact q
  · rintro ⟨b, ρ1, e1, q⟩
    cases b with
    | false => exact ⟨.nx, ρ1, by unfold whileM; rw [e1], q⟩
    | true =>
      rw [if_pos rfl] at q
      obtain ⟨o2, ρ2, e2, q⟩ := q
      cases o2 with
      | nx =>
        obtain ⟨o, ρ', e, q⟩ := q
        exact ⟨o, ρ', by unfold whileM; rw [e1]; dsimp only; rw [e2]; exact e, q⟩
      | ct =>
        obtain ⟨o, ρ', e, q⟩ := q
        exact ⟨o, ρ', by unfold whileM; rw [e1]; dsimp only; rw [e2]; exact e, q⟩
      | bk => exact ⟨_, _, by unfold whileM; rw [e1]; dsimp only; rw [e2], q⟩
      | rt d => exact ⟨_, _, by unfold whileM; rw [e1]; dsimp only; rw [e2], q⟩
      | ro d => exact ⟨_, _, by unfold whileM; rw [e1]; dsimp only; rw [e2], q⟩
/-- a loop by a measure -/
theorem wp_whileI {c : M G Bool} {body : SM G} {Q : Out G → List (Sl G) → Prop} (Iv : Nat → List (Sl G) → Prop) {n m : Nat} (hm : m < n) {ρ : List (Sl G)} (h0 : Iv m ρ)
    (hs : ∀ k ρ, Iv k ρ → WPm c ρ fun b ρ1 => if b = true then WPm body ρ1 (lpQ (fun ρ2 => ∃ j, j < k ∧ Iv j ρ2) Q) else Q .nx ρ1) : WPm (whileM c body n) ρ Q := by
  induction n generalizing m ρ with
  | zero => omega
  | succ n ih =>
    rw [wp_while]
    refine wp_mono (hs m ρ h0) fun b ρ1 h => ?_
    cases b with
    | false => exact h
    | true =>
      rw [if_pos rfl] at h ⊢
      refine wp_mono h fun o ρ2 h => ?_
      cases o with
      | nx => obtain ⟨j, hj, h⟩ := h; exact ih (by omega) h
      | ct => obtain ⟨j, hj, h⟩ := h; exact ih (by omega) h
      | _ => exact h
/-- a change of what is owned, by one pair -/
def someQ (o : Option α) (q : α → Prop) : Prop := ∃ a, o = some a ∧ q a
theorem someQ_some {a : α} {q : α → Prop} : someQ (some a) q ↔ q a := ⟨fun ⟨_, e, h⟩ => by cases e; exact h, fun h => ⟨_, rfl, h⟩⟩
theorem someQ_if {c : Prop} [Decidable c] {a : α} {q : α → Prop} : someQ (if c then some a else none) q ↔ c ∧ q a := by
  by_cases h : c
  · rw [if_pos h, someQ_some]; exact ⟨fun q => ⟨h, q⟩, fun q => q.2⟩
  · rw [if_neg h]; exact ⟨fun ⟨_, e, _⟩ => (by cases e), fun q => absurd q.1 h⟩
theorem someQ_map {o : Option β} {f : β → α} {q : α → Prop} : someQ (o.map f) q ↔ someQ o fun b => q (f b) := by
  cases o with
  | none => exact ⟨fun ⟨_, e, _⟩ => (by cases e), fun ⟨_, e, _⟩ => (by cases e)⟩
  | some b => rw [Option.map_some, someQ_some, someQ_some]
theorem wp_lif {c : Prop} [Decidable c] {a : α} {ρ : List (Sl G)} {Q : α → List (Sl G) → Prop} : WPm (mlft (if c then some a else none)) ρ Q ↔ c ∧ Q a ρ := by
  rw [wp_lft]
  exact someQ_if (q := fun a => Q a ρ)
theorem wpr_wrOp {i : Nat} {ρ : List (Sl G)} {g : List D → Option (D × List D)} {Q : D → List (Sl G) → Prop} : WPm (wrO i g) ρ Q ↔ owQ (fun ds => someQ (g ds) fun p => Q p.1 (ρ.set i (.own (.seq p.2)))) ρ[i]? := by
  rw [wpr_wrO, owQ_iff, owQ_iff]
  constructor
  · rintro ⟨ds, h, d, ds', e, q⟩; exact ⟨ds, h, (d, ds'), e, q⟩
  · rintro ⟨ds, h, ⟨d, ds'⟩, e, q⟩; exact ⟨ds, h, d, ds', e, q⟩
/-! ### isinstance, told -/
def isB : D → Bool | .bool _ => true | _ => false
def isI : D → Bool | .int _ => true | .bool _ => true | _ => false
def isS : D → Bool | .str _ => true | _ => false
def isT : D → Bool | .tuple _ => true | _ => false
def isL : D → Bool | .list _ => true | _ => false
theorem q_isiI (d : D) : gIsi "int" d = some (.bool (isI d)) := by cases d <;> rfl
theorem q_isiB (d : D) : gIsi "bool" d = some (.bool (isB d)) := by cases d <;> rfl
theorem q_isiS (d : D) : gIsi "str" d = some (.bool (isS d)) := by cases d <;> rfl
theorem q_isiT (d : D) : gIsi "tuple" d = some (.bool (isT d)) := by cases d <;> rfl
theorem q_isiL (d : D) : gIsi "list" d = some (.bool (isL d)) := by cases d <;> rfl
theorem q_isiTL (d : D) : gIsi2 "tuple" "list" d = some (.bool (isT d || isL d)) := by cases d <;> rfl
section
variable {c0 : Bool} {i0 : Int} {s0 : PySem.Str} {l0 : List D} {k0 : List (D × D)}
theorem i_BN : isB .none = false := rfl
theorem i_BB : isB (.bool c0) = true := rfl
theorem i_BI : isB (.int i0) = false := rfl
theorem i_BS : isB (.str s0) = false := rfl
theorem i_BL : isB (.list l0) = false := rfl
theorem i_BT : isB (.tuple l0) = false := rfl
theorem i_BD : isB (.dict k0) = false := rfl
theorem i_IN : isI .none = false := rfl
theorem i_IB : isI (.bool c0) = true := rfl
theorem i_II : isI (.int i0) = true := rfl
theorem i_IS : isI (.str s0) = false := rfl
theorem i_IL : isI (.list l0) = false := rfl
theorem i_IT : isI (.tuple l0) = false := rfl
theorem i_ID : isI (.dict k0) = false := rfl
theorem i_SN : isS .none = false := rfl
theorem i_SB : isS (.bool c0) = false := rfl
theorem i_SI : isS (.int i0) = false := rfl
theorem i_SS : isS (.str s0) = true := rfl
theorem i_SL : isS (.list l0) = false := rfl
theorem i_ST : isS (.tuple l0) = false := rfl
theorem i_SD : isS (.dict k0) = false := rfl
theorem i_TN : isT .none = false := rfl
theorem i_TB : isT (.bool c0) = false := rfl
theorem i_TI : isT (.int i0) = false := rfl
theorem i_TS : isT (.str s0) = false := rfl
theorem i_TL : isT (.list l0) = false := rfl
theorem i_TT : isT (.tuple l0) = true := rfl
theorem i_TD : isT (.dict k0) = false := rfl
theorem i_LN : isL .none = false := rfl
theorem i_LB : isL (.bool c0) = false := rfl
theorem i_LI : isL (.int i0) = false := rfl
theorem i_LS : isL (.str s0) = false := rfl
theorem i_LL : isL (.list l0) = true := rfl
theorem i_LT : isL (.tuple l0) = false := rfl
theorem i_LD : isL (.dict k0) = false := rfl
end
theorem wp_mownS {o : Option (List D)} {ρ : List (Sl G)} {Q : Ow G → List (Sl G) → Prop} : WPm (mown o) ρ Q ↔ someQ o fun ds => Q (.seq ds) ρ := wp_mown
/-! ### more operations, read off -/
section
variable {ρ : List (Sl G)} {i j : Int} {x y : Str} {ds es : List D} {a b : Bool} {d : D} {kvs : List (Key × D)}
theorem q_all {bs : List Bool} : gAll [.list (bs.map PyData.bool)] = some (.bool (bs.all id)) := by unfold gAll; dsimp only; rw [boolsOf_map]; rfl
theorem q_any {bs : List Bool} : gAny [.list (bs.map PyData.bool)] = some (.bool (bs.any id)) := by unfold gAny; dsimp only; rw [boolsOf_map]; rfl
theorem q_ltS : gLtS (.str x) (.str y) = some (.bool (decide (x.cps.toList < y.cps.toList))) := rfl
theorem q_addS : gAddS (.str x) (.str y) = if x.length + y.length ≤ sizeLine then some (.str (x ++ y)) else none := rfl
theorem q_inS {c : Nat} : gInS (.str ⟨#[c]⟩) (.str y) = some (.bool (decide (c ∈ y.cps.toList))) := rfl
theorem q_ninS {c : Nat} : gNinS (.str ⟨#[c]⟩) (.str y) = some (.bool (!decide (c ∈ y.cps.toList))) := rfl
theorem q_lenS : gLen [.str x] = if x.length ≤ sizeLine then some (.int x.length) else none := rfl
theorem q_lenD : gLenD [.dict (dkv kvs)] = some (.int kvs.length) := by unfold gLenD; dsimp only; rw [unkv_dkv]; rfl
theorem q_zipT : gZip [.tuple ds, .tuple es] = some (zipD ds es) := rfl
theorem q_zipL : gZip [.list ds, .list es] = some (zipD ds es) := rfl
theorem q_catT : gCatT (.tuple ds) (.tuple es) = if ds.length + es.length ≤ sizeLine then some (.tuple (ds ++ es)) else none := rfl
theorem q_catL : gCatL (.list ds) (.list es) = if ds.length + es.length ≤ sizeLine then some (ds ++ es) else none := rfl
theorem q_slT {lo hi : Option Int} : gSlT (.tuple ds) lo hi = some (.tuple (DL.cutD ds lo hi)) := rfl
theorem q_slS {lo hi : Option Int} : gSlS (.str x) lo hi = if x.length ≤ sizeLine then some (.str (cutS x lo hi)) else none := rfl
theorem q_tupleL : gTuple [.list ds] = some (.tuple ds) := rfl
theorem q_tupleT : gTuple [.tuple ds] = some (.tuple ds) := rfl
theorem q_tupO : gTupO ds = some (.tuple ds) := rfl
theorem q_lstO : gLstO ds = some (.list ds) := rfl
theorem q_listNL : gListN [.list ds] = some ds := rfl
theorem q_listNT : gListN [.tuple ds] = some ds := rfl
theorem q_insert {y : D} : gInsert ds [.int i, y] = if ds.length < sizeLine ∧ 0 ≤ i ∧ i < 2 ^ 63 then some (.none, ds.take i.toNat ++ [y] ++ ds.drop i.toNat) else none := rfl
theorem q_upper : gUpper x = if x.length ≤ 5592405 then some (.str (Txt.upper x)) else none := rfl
theorem q_nu2I {f : Int → Int → Int} : gNu2 f (.int i) (.int j) = some (.int (f i j)) := rfl
theorem q_nu2B {f : Int → Int → Int} : gNu2 f (.bool a) (.int j) = some (.int (f (if a then 1 else 0) j)) := rfl
theorem q_nu1I {f : Int → Int} : gNu1 f (.int i) = some (.int (f i)) := rfl
theorem q_nu1B {f : Int → Int} : gNu1 f (.bool a) = some (.int (f (if a then 1 else 0))) := rfl
theorem q_strI : gStrN [.int i] = if i.natAbs.log2 < 1920 then some (.str (toString i)) else none := rfl
theorem q_strB : gStrN [.bool a] = some (.str (if a then "True" else "False")) := rfl
theorem q_strS : gStrN [.str x] = some (.str x) := rfl
theorem q_ixA_T : gIxA (.tuple ds) d = gIxT (.tuple ds) d := rfl
theorem q_ixA_L : gIxA (.list ds) d = gIxL (.list ds) d := rfl
theorem q_ixA_S : gIxA (.str x) d = gIxS (.str x) d := rfl
theorem q_ixS : gIxS (.str x) (.int i) = if x.length ≤ sizeLine then (atI x.cps.toList i).map fun c => .str ⟨#[c]⟩ else none := rfl
theorem q_eqII : gEqD (.int i) (.int j) = some (.bool (decide (i = j))) := if_pos ⟨rfl, rfl⟩
theorem q_neII : gNeD (.int i) (.int j) = some (.bool (!decide (i = j))) := if_pos ⟨rfl, rfl⟩
theorem q_eqSS : gEqD (.str x) (.str y) = if PyData.strOk x = true ∧ PyData.strOk y = true then some (.bool (x == y)) else none := by unfold gEqD SeqAt.shaped PyData.canLay0; simp [PyData.depth, PyData.eqv]
theorem q_neSS : gNeD (.str x) (.str y) = if PyData.strOk x = true ∧ PyData.strOk y = true then some (.bool (!(x == y))) else none := by unfold gNeD SeqAt.shaped PyData.canLay0; simp [PyData.depth, PyData.eqv]
theorem q_eqBB : gEqD (.bool a) (.bool b) = some (.bool (a == b)) := if_pos ⟨rfl, rfl⟩
theorem q_neBB : gNeD (.bool a) (.bool b) = some (.bool (!(a == b))) := if_pos ⟨rfl, rfl⟩
theorem q_dgetS : gDGet (.dict (dkv kvs)) (.str x) = lookD kvs (.inr x) := by unfold gDGet; dsimp only; rw [unkv_dkv]; rfl
theorem q_dgetI : gDGet (.dict (dkv kvs)) (.int i) = lookD kvs (.inl i) := by unfold gDGet; dsimp only; rw [unkv_dkv]; rfl
theorem q_dinS : gDIn (.str x) (.dict (dkv kvs)) = some (.bool (lookD kvs (.inr x)).isSome) := by unfold gDIn; dsimp only; rw [unkv_dkv]; rfl
theorem q_dinI : gDIn (.int i) (.dict (dkv kvs)) = some (.bool (lookD kvs (.inl i)).isSome) := by unfold gDIn; dsimp only; rw [unkv_dkv]; rfl
theorem wp_keys {f : M G D} {Q : List D → List (Sl G) → Prop} : WPm (mkeys f) ρ Q ↔ WPm f ρ fun d ρ' => ∃ kvs, d = .dict (dkv kvs) ∧ Q (kvs.map fun p => kD p.1) ρ' := by
  unfold mkeys
  rw [wp_bnd]
  refine ⟨fun h => wp_mono h fun d ρ1 hh => ?_, fun h => wp_mono h fun d ρ1 ⟨kvs, e, q⟩ => ?_⟩
  · rw [wp_lft] at hh
    obtain ⟨a, e, q⟩ := hh
    cases d with
    | dict es =>
      dsimp only at e
      cases hu : unkv es with
      | none => rw [hu] at e; cases e
      | some kvs => rw [hu] at e; cases e; exact ⟨kvs, by rw [unkv_eq hu], q⟩
    | _ => cases e
  · subst e
    dsimp only
    rw [unkv_dkv]
    exact wp_some.mpr q
/-- a dict comprehension -/
theorem wp_mdcomp {it : M G (List D)} {vs : List Nat} {tg : D → List (Sl G) → Option (List (Sl G))} {tt : M G Bool} {tk te : M G D} {Q : D → List (Sl G) → Prop} :
    WPm (mdcomp it vs tg tt tk te) ρ Q ↔ WPm it ρ fun ds ρ1 => okW ρ1 vs = true ∧ ds.length ≤ sizeLine ∧ WPm (compD vs tg tt tk te ds []) (wipeR ρ1 vs) fun kvs ρ2 => Q (.dict (dkv kvs)) (restR ρ1 ρ2 vs) := by
  unfold mdcomp
  rw [wp_bnd]
  refine ⟨fun h => wp_mono h fun ds ρ1 hh => ?_, fun h => wp_mono h fun ds ρ1 ⟨h1, h2, ys, ρ2, e, q⟩ => ?_⟩
  · obtain ⟨a, ρ2, e, q⟩ := hh
    dsimp only at e
    by_cases hc : okW ρ1 vs = true ∧ ds.length ≤ sizeLine
    · rw [if_pos hc] at e
      refine ⟨hc.1, hc.2, ?_⟩
      cases ec : compD vs tg tt tk te ds [] (wipeR ρ1 vs) with
      | none => simp only [ec] at e; cases e
      | some p =>
        simp only [ec] at e
        cases e
        exact ⟨_, _, ec, q⟩
    · rw [if_neg hc] at e; cases e
  · refine ⟨_, restR ρ1 ρ2 vs, ?_, q⟩
    dsimp only
    rw [if_pos ⟨h1, h2⟩, e]
theorem wp_dcomp {vs : List Nat} {tg : D → List (Sl G) → Option (List (Sl G))} {tt : M G Bool} {tk te : M G D} {ds : List D} {Q : List (Key × D) → List (Sl G) → Prop} (Iv : Nat → List (Key × D) → List (Sl G) → Prop) {acc0 : List (Key × D)} (h0 : Iv 0 acc0 ρ)
    (hs : ∀ i d acc ρ, ds[i]? = some d → Iv i acc ρ → ∃ ρ1, tg d ρ = some ρ1 ∧ WPm tt ρ1 fun b ρ2 => if b = true then WPm tk ρ2 fun k ρ3 => WPm te ρ3 fun y ρ4 => ∃ k', keyOfD k = some k' ∧ Iv (i + 1) (putD acc k' y) (wipeR ρ4 vs) else Iv (i + 1) acc (wipeR ρ2 vs))
    (hd : ∀ ys ρ, Iv ds.length ys ρ → Q ys ρ) : WPm (compD vs tg tt tk te ds acc0) ρ Q := by
  have key : ∀ (n i : Nat) (acc : List (Key × D)) (ρ : List (Sl G)), i + n = ds.length → Iv i acc ρ → WPm (compD vs tg tt tk te (ds.drop i) acc) ρ Q := by
    intro n
    induction n with
    | zero =>
      intro i acc ρ hi h
      have e : i = ds.length := by omega
      subst e
      rw [List.drop_length]
      exact ⟨acc, ρ, rfl, hd acc ρ h⟩
    | succ n ih =>
      intro i acc ρ hi h
      have hlt : i < ds.length := by omega
      rw [List.drop_eq_getElem_cons hlt]
      obtain ⟨ρ1, e1, b, ρ2, e2, q⟩ := hs i _ acc ρ (List.getElem?_eq_getElem hlt) h
      cases b with
      | true =>
        obtain ⟨k, ρ3, e3, y, ρ4, e4, k', e5, q⟩ := (if_pos rfl).mp q
        obtain ⟨ys, ρ5, e6, q6⟩ := ih (i + 1) _ _ (by omega) q
        refine ⟨ys, ρ5, ?_, q6⟩
        unfold compD
        rw [e1]
        dsimp only
        rw [e2]
        dsimp only
        rw [e3]
        dsimp only
        rw [e4]
        dsimp only
        rw [e5]
        exact e6
      | false =>
        have q : Iv (i + 1) acc (wipeR ρ2 vs) := q
        obtain ⟨ys, ρ4, e4, q4⟩ := ih (i + 1) acc _ (by omega) q
        refine ⟨ys, ρ4, ?_, q4⟩
        unfold compD
        rw [e1]
        dsimp only
        rw [e2]
        exact e4
  have := key ds.length 0 acc0 ρ (by omega) h0
  rwa [List.drop_zero] at this
end
/-- a comprehension that tells each item's answer and leaves the slots -/
theorem wp_map {vs : List Nat} {tg : D → List (Sl G) → Option (List (Sl G))} {tt : M G Bool} {te : M G D} {ds : List D} {ρ : List (Sl G)} {Q : List D → List (Sl G) → Prop} (f : D → D)
    (hs : ∀ d, d ∈ ds → ∃ ρ1, tg d ρ = some ρ1 ∧ WPm tt ρ1 fun b ρ2 => b = true ∧ WPm te ρ2 fun y ρ3 => y = f d ∧ wipeR ρ3 vs = ρ) (q : Q (ds.map f) ρ) : WPm (compM vs tg tt te ds) ρ Q := by
  refine wp_comp (fun i acc ρ' => acc = (ds.take i).map f ∧ ρ' = ρ) ⟨rfl, rfl⟩ ?_ ?_
  · rintro i d acc ρ' hd ⟨rfl, rfl⟩
    obtain ⟨ρ1, e1, h⟩ := hs d (List.mem_of_getElem? hd)
    refine ⟨ρ1, e1, wp_mono h fun b ρ2 ⟨hb, h⟩ => ?_⟩
    rw [if_pos hb]
    refine wp_mono h fun y ρ3 ⟨hy, h3⟩ => ⟨?_, h3⟩
    rw [hy, List.take_add_one, hd]
    simp
  · rintro ys ρ' ⟨rfl, rfl⟩
    rw [List.take_length]
    exact q
/-- .. with a test -/
theorem wp_filt {vs : List Nat} {tg : D → List (Sl G) → Option (List (Sl G))} {tt : M G Bool} {te : M G D} {ds : List D} {ρ : List (Sl G)} {Q : List D → List (Sl G) → Prop} (p : D → Bool) (f : D → D)
    (hs : ∀ d, d ∈ ds → ∃ ρ1, tg d ρ = some ρ1 ∧ WPm tt ρ1 fun b ρ2 => b = p d ∧ if b = true then WPm te ρ2 fun y ρ3 => y = f d ∧ wipeR ρ3 vs = ρ else wipeR ρ2 vs = ρ) (q : Q ((ds.filter p).map f) ρ) : WPm (compM vs tg tt te ds) ρ Q := by
  refine wp_comp (fun i acc ρ' => acc = ((ds.take i).filter p).map f ∧ ρ' = ρ) ⟨rfl, rfl⟩ ?_ ?_
  · rintro i d acc ρ' hd ⟨rfl, rfl⟩
    obtain ⟨ρ1, e1, h⟩ := hs d (List.mem_of_getElem? hd)
    refine ⟨ρ1, e1, wp_mono h fun b ρ2 ⟨hb, h⟩ => ?_⟩
    have ht : ds.take (i + 1) = ds.take i ++ [d] := by rw [List.take_add_one, hd]; rfl
    cases b with
    | true =>
      rw [if_pos rfl] at h ⊢
      refine wp_mono h fun y ρ3 ⟨hy, h3⟩ => ⟨?_, h3⟩
      rw [hy, ht, List.filter_append, List.map_append, List.filter_cons, ← hb]
      rfl
    | false =>
      have h : wipeR ρ2 vs = _ := h
      refine ⟨?_, h⟩
      rw [ht, List.filter_append, List.map_append, List.filter_cons, ← hb]
      simp
  · rintro ys ρ' ⟨rfl, rfl⟩
    rw [List.take_length]
    exact q
theorem q_allM {ds : List D} {p : D → Bool} : gAll [.list (ds.map fun d => PyData.bool (p d))] = some (.bool (ds.all p)) := by
  have e : (ds.map fun d => PyData.bool (p d)) = (ds.map p).map PyData.bool := by rw [List.map_map]; rfl
  rw [e, q_all, List.all_map]
  rfl
theorem q_anyM {ds : List D} {p : D → Bool} : gAny [.list (ds.map fun d => PyData.bool (p d))] = some (.bool (ds.any p)) := by
  have e : (ds.map fun d => PyData.bool (p d)) = (ds.map p).map PyData.bool := by rw [List.map_map]; rfl
  rw [e, q_any, List.any_map]
  rfl
section
variable {x0 x1 x2 x3 x4 x5 x6 x7 : α} {r : List α}
theorem at6 : atI (x0 :: x1 :: x2 :: x3 :: x4 :: x5 :: x6 :: r) 6 = some x6 := atI_nat (j := 6) rfl
theorem at7 : atI (x0 :: x1 :: x2 :: x3 :: x4 :: x5 :: x6 :: x7 :: r) 7 = some x7 := atI_nat (j := 7) rfl
end
end DL
set_option Elab.async false
set_option linter.all false
set_option maxRecDepth 100000
set_option maxHeartbeats 1000000
/-! RGa: what the mirrors of the shared defs are (printed by Lean from the derivations, mirr.py), and each def's promise: what its mirror does -/
namespace RG
open PySem PySem.Spec PyProof.Rows L2 DL
/-- the turns of way_up's loop -/
def w_way_up : List (Sl Empty) → Nat := fun ρ => match ρ with | .val (.dict es) :: _ => es.length + 1 | _ => 0
def m_is_whole : SM Empty := (DL.sret (DL.mandV (DL.mbnd (DL.rd 0) fun d => DL.mlft (DL.gIsi "int" d)) (DL.mnotV (DL.mbnd (DL.rd 0) fun d => DL.mlft (DL.gIsi "bool" d)))))
def g_is_whole : FM Empty := close 1 m_is_whole
def m_is_within : SM Empty := (DL.sret (DL.mandV (DL.mcallV (DL.macons (DL.rd 0) (DL.mret [])) g_is_whole) (DL.mchain (DL.rd 1) (DL.rd 0) (DL.rd 2) DL.gLe DL.gLe)))
def g_is_within : FM Empty := close 3 m_is_within
def m_is_name : SM Empty := (DL.sret (DL.mandV (DL.mbnd (DL.rd 0) fun d => DL.mlft (DL.gIsi "str" d)) (DL.mandV (DL.mchain (DL.mret (PySem.PyData.int 1)) (DL.mbnd (DL.mcons (DL.rd 0) (DL.mret [])) fun x => DL.mlft (DL.gLen x)) (DL.mret (PySem.PyData.int 8)) DL.gLe DL.gLe) (DL.mbnd (DL.mcons (DL.mlc (DL.mcomp (DL.mstr (DL.rd 0)) (List.map (fun x => Prod.snd x) [(PySem.Str.ofString "sign", 1)]) (DL.gN 1) (DL.mret Bool.true) (DL.mbnd (DL.rd 1) fun x => DL.mbnd (DL.mret (PySem.PyData.str (PySem.Str.ofString "abcdefghijklmnopqrstuvwxyz"))) fun y => DL.mlft (DL.gInS x y)))) (DL.mret [])) fun x => DL.mlft (DL.gAll x)))))
def g_is_name : FM Empty := close 2 m_is_name
def m_is_store : SM Empty := (DL.sseq (DL.sif (DL.mor (DL.mnot (DL.mtest (DL.mbnd (DL.rd 0) fun d => DL.mlft (DL.gIsi "tuple" d)))) (DL.mor (DL.mtest (DL.mbnd (DL.mbnd (DL.mcons (DL.rd 0) (DL.mret [])) fun x => DL.mlft (DL.gLen x)) fun x => DL.mbnd (DL.mret (PySem.PyData.int 6)) fun y => DL.mlft (DL.gNeD x y))) (DL.mor (DL.mnot (DL.mtest (DL.mcallV (DL.macons (DL.mbnd (DL.rd 0) fun x => DL.mbnd (DL.mret (PySem.PyData.int 0)) fun y => DL.mlft (DL.gIxT x y)) (DL.mret [])) g_is_name))) (DL.mnot (DL.mtest (DL.mbnd (DL.mbnd (DL.rd 0) fun x => DL.mbnd (DL.mret (PySem.PyData.int 1)) fun y => DL.mlft (DL.gIxT x y)) fun d => DL.mlft (DL.gIsi "str" d))))))) (DL.sret (DL.mret (PySem.PyData.bool Bool.false))) DL.snx) (DL.sseq (DL.sasg (DL.rd 0) (DL.gT 6 (DL.gsCons (DL.gN 1) (DL.gsCons (DL.gN 2) (DL.gsCons (DL.gN 3) (DL.gsCons (DL.gN 4) (DL.gsCons (DL.gN 5) (DL.gsCons (DL.gN 6) DL.gsNil)))))))) (DL.sseq (DL.sif (DL.mor (DL.mnot (DL.mtest (DL.mcallV (DL.macons (DL.rd 3) (DL.macons (DL.mret (PySem.PyData.int 1)) (DL.macons (DL.mret (PySem.PyData.int 9)) (DL.mret [])))) g_is_within))) (DL.mnot (DL.mtest (DL.mbnd (DL.rd 6) fun d => DL.mlft (DL.gIsi "bool" d))))) (DL.sret (DL.mret (PySem.PyData.bool Bool.false))) DL.snx) (DL.sret (DL.mandV (DL.mcallV (DL.macons (DL.rd 4) (DL.macons (DL.mret (PySem.PyData.int 0)) (DL.macons (DL.mret (PySem.PyData.int 200)) (DL.mret [])))) g_is_within) (DL.mcallV (DL.macons (DL.rd 5) (DL.macons (DL.mret (PySem.PyData.int 0)) (DL.macons (DL.mret (PySem.PyData.int 200)) (DL.mret [])))) g_is_within))))))
def g_is_store : FM Empty := close 7 m_is_store
def m_way_up : SM Empty := (DL.sseq (DL.ssetO 2 2 (DL.molst (DL.mret []))) (DL.sseq (DL.sset 3 (DL.mbnd (DL.rd 0) fun d => DL.mbnd (DL.rd 1) fun k => DL.mlft (DL.gDGet d k))) (DL.sseq (fun ρ => DL.whileM (DL.mand (DL.mtest (DL.mbnd (DL.rd 3) fun x => DL.mbnd (DL.mret (PySem.PyData.str (PySem.Str.ofString ""))) fun y => DL.mlft (DL.gNeD x y))) (DL.mtest (DL.mbnd (DL.rdO 2 DL.gLenO) fun x => DL.mbnd (DL.mbnd (DL.mcons (DL.rd 0) (DL.mret [])) fun x => DL.mlft (DL.gLenD x)) fun y => DL.mlft (DL.gLt x y)))) (DL.sseq (DL.sexpr (DL.mmut 2 (DL.mcons (DL.rd 3) (DL.mret [])) DL.gAppend)) (DL.sset 3 (DL.mbnd (DL.rd 0) fun d => DL.mbnd (DL.rd 3) fun k => DL.mlft (DL.gDGet d k)))) (w_way_up ρ) ρ) (DL.sret (DL.rd 2)))))
def g_way_up : FM Empty := close 4 m_way_up
def m_is_tree : SM Empty := (DL.sseq (DL.sif (DL.mor (DL.mnot (DL.mtest (DL.mbnd (DL.rd 0) fun d => DL.mlft (DL.gIsi "tuple" d)))) (DL.mor (DL.mnot (DL.mtest (DL.mchain (DL.mret (PySem.PyData.int 1)) (DL.mbnd (DL.mcons (DL.rd 0) (DL.mret [])) fun x => DL.mlft (DL.gLen x)) (DL.mret (PySem.PyData.int 8)) DL.gLe DL.gLe))) (DL.mnot (DL.mtest (DL.mbnd (DL.mcons (DL.mlc (DL.mcomp (DL.mtuple (DL.rd 0)) (List.map (fun x => Prod.snd x) [(PySem.Str.ofString "one", 2)]) (DL.gN 2) (DL.mret Bool.true) (DL.mcallV (DL.macons (DL.rd 2) (DL.mret [])) g_is_store))) (DL.mret [])) fun x => DL.mlft (DL.gAll x)))))) (DL.sret (DL.mret (PySem.PyData.bool Bool.false))) DL.snx) (DL.sseq (DL.sif (DL.mnot (DL.mtest (DL.mbnd (DL.mcons (DL.mlc (DL.mcomp (DL.mzip (DL.mcons (DL.rd 0) (DL.mcons (DL.mslice (DL.rd 0) (DL.mpart (DL.mret (PySem.PyData.int 1))) (DL.mret Option.none) DL.gSlT) (DL.mret [])))) (List.map (fun x => Prod.snd x) [(PySem.Str.ofString "one", 2), (PySem.Str.ofString "other", 3)]) (DL.gT 2 (DL.gsCons (DL.gN 2) (DL.gsCons (DL.gN 3) DL.gsNil))) (DL.mret Bool.true) (DL.mbnd (DL.mbnd (DL.rd 2) fun x => DL.mbnd (DL.mret (PySem.PyData.int 0)) fun y => DL.mlft (DL.gIxT x y)) fun x => DL.mbnd (DL.mbnd (DL.rd 3) fun x => DL.mbnd (DL.mret (PySem.PyData.int 0)) fun y => DL.mlft (DL.gIxT x y)) fun y => DL.mlft (DL.gLtS x y)))) (DL.mret [])) fun x => DL.mlft (DL.gAll x)))) (DL.sret (DL.mret (PySem.PyData.bool Bool.false))) DL.snx) (DL.sseq (DL.sset 1 (DL.mdcomp (DL.mtuple (DL.rd 0)) (List.map (fun x => Prod.snd x) [(PySem.Str.ofString "one", 2)]) (DL.gN 2) (DL.mret Bool.true) (DL.mbnd (DL.rd 2) fun x => DL.mbnd (DL.mret (PySem.PyData.int 0)) fun y => DL.mlft (DL.gIxT x y)) (DL.mbnd (DL.rd 2) fun x => DL.mbnd (DL.mret (PySem.PyData.int 1)) fun y => DL.mlft (DL.gIxT x y)))) (DL.sseq (DL.sif (DL.mnot (DL.mtest (DL.mbnd (DL.mcons (DL.mlc (DL.mcomp (DL.mtuple (DL.rd 0)) (List.map (fun x => Prod.snd x) [(PySem.Str.ofString "one", 2)]) (DL.gN 2) (DL.mret Bool.true) (DL.morV (DL.mbnd (DL.mbnd (DL.rd 2) fun x => DL.mbnd (DL.mret (PySem.PyData.int 1)) fun y => DL.mlft (DL.gIxT x y)) fun x => DL.mbnd (DL.mret (PySem.PyData.str (PySem.Str.ofString ""))) fun y => DL.mlft (DL.gEqD x y)) (DL.mbnd (DL.mbnd (DL.rd 2) fun x => DL.mbnd (DL.mret (PySem.PyData.int 1)) fun y => DL.mlft (DL.gIxT x y)) fun k => DL.mbnd (DL.rd 1) fun d => DL.mlft (DL.gDIn k d))))) (DL.mret [])) fun x => DL.mlft (DL.gAll x)))) (DL.sret (DL.mret (PySem.PyData.bool Bool.false))) DL.snx) (DL.sret (DL.mnotV (DL.mbnd (DL.mcons (DL.mlc (DL.mcomp (DL.mkeys (DL.rd 1)) (List.map (fun x => Prod.snd x) [(PySem.Str.ofString "name", 4)]) (DL.gN 4) (DL.mret Bool.true) (DL.mbnd (DL.rd 4) fun x => DL.mbnd (DL.mcallV (DL.macons (DL.rd 1) (DL.macons (DL.rd 4) (DL.mret []))) g_way_up) fun y => DL.mlft (DL.gInD x y)))) (DL.mret [])) fun x => DL.mlft (DL.gAny x))))))))
def g_is_tree : FM Empty := close 5 m_is_tree
def m_need_tree : SM Empty := (DL.sif (DL.mnot (DL.mtest (DL.mcallV (DL.macons (DL.rd 0) (DL.mret [])) g_is_tree))) DL.snever DL.snx)
def g_need_tree : FM Empty := close 1 m_need_tree
def m_are_costs : SM Empty := (DL.sseq (DL.sif (DL.mor (DL.mnot (DL.mtest (DL.mbnd (DL.rd 1) fun d => DL.mlft (DL.gIsi "tuple" d)))) (DL.mtest (DL.mbnd (DL.mbnd (DL.mcons (DL.rd 1) (DL.mret [])) fun x => DL.mlft (DL.gLen x)) fun x => DL.mbnd (DL.mbnd (DL.mcons (DL.rd 0) (DL.mret [])) fun x => DL.mlft (DL.gLen x)) fun y => DL.mlft (DL.gNeD x y)))) (DL.sret (DL.mret (PySem.PyData.bool Bool.false))) DL.snx) (DL.sseq (DL.sfor (DL.mzip (DL.mcons (DL.rd 0) (DL.mcons (DL.rd 1) (DL.mret [])))) (DL.gT 2 (DL.gsCons (DL.gN 2) (DL.gsCons (DL.gN 3) DL.gsNil))) (DL.sseq (DL.sif (DL.mor (DL.mnot (DL.mtest (DL.mbnd (DL.rd 3) fun d => DL.mlft (DL.gIsi "tuple" d)))) (DL.mor (DL.mtest (DL.mbnd (DL.mbnd (DL.mcons (DL.rd 3) (DL.mret [])) fun x => DL.mlft (DL.gLen x)) fun x => DL.mbnd (DL.mret (PySem.PyData.int 4)) fun y => DL.mlft (DL.gNeD x y))) (DL.mor (DL.mtest (DL.mbnd (DL.mbnd (DL.rd 3) fun x => DL.mbnd (DL.mret (PySem.PyData.int 0)) fun y => DL.mlft (DL.gIxT x y)) fun x => DL.mbnd (DL.mbnd (DL.rd 2) fun x => DL.mbnd (DL.mret (PySem.PyData.int 0)) fun y => DL.mlft (DL.gIxT x y)) fun y => DL.mlft (DL.gNeD x y))) (DL.mnot (DL.mtest (DL.mbnd (DL.mbnd (DL.rd 3) fun x => DL.mbnd (DL.mret (PySem.PyData.int 0)) fun y => DL.mlft (DL.gIxT x y)) fun d => DL.mlft (DL.gIsi "str" d))))))) (DL.sret (DL.mret (PySem.PyData.bool Bool.false))) DL.snx) (DL.sif (DL.mnot (DL.mtest (DL.mbnd (DL.mcons (DL.mlc (DL.mcomp (DL.mtuple (DL.mslice (DL.rd 3) (DL.mpart (DL.mret (PySem.PyData.int 1))) (DL.mret Option.none) DL.gSlT)) (List.map (fun x => Prod.snd x) [(PySem.Str.ofString "part", 4)]) (DL.gN 4) (DL.mret Bool.true) (DL.mcallV (DL.macons (DL.rd 4) (DL.macons (DL.mret (PySem.PyData.int 0)) (DL.macons (DL.mret (PySem.PyData.int 100)) (DL.mret [])))) g_is_within))) (DL.mret [])) fun x => DL.mlft (DL.gAll x)))) (DL.sret (DL.mret (PySem.PyData.bool Bool.false))) DL.snx))) (DL.sret (DL.mret (PySem.PyData.bool Bool.true)))))
def g_are_costs : FM Empty := close 5 m_are_costs
def m_is_costs : SM Empty := (DL.sseq (DL.sexpr (DL.mcallV (DL.macons (DL.rd 0) (DL.mret [])) g_need_tree)) (DL.sret (DL.mcallV (DL.macons (DL.rd 0) (DL.macons (DL.rd 1) (DL.mret []))) g_are_costs)))
def g_is_costs : FM Empty := close 2 m_is_costs
def m__law_bag : SM Empty := (DL.sseq (DL.sset 2 (DL.mret (PySem.PyData.int 0))) (DL.sseq (DL.sif (DL.mtest (DL.mbnd (DL.rd 1) fun x => DL.mbnd (DL.mbnd (DL.mcons (DL.rd 0) (DL.mret [])) fun x => DL.mlft (DL.gLen x)) fun y => DL.mlft (DL.gLt x y))) (DL.sset 2 (DL.mbnd (DL.mcons (DL.mbnd (DL.rd 0) fun x => DL.mbnd (DL.rd 1) fun y => DL.mlft (DL.gIxL x y)) (DL.mret [])) fun x => DL.mlft (DL.gAbs x))) DL.snx) (DL.sseq (DL.sif (DL.mtest (DL.mbnd (DL.rd 2) fun x => DL.mbnd (DL.mbnd (DL.mret (PySem.PyData.int 10)) fun x => DL.mbnd (DL.mret (PySem.PyData.int 18)) fun y => DL.mlft (DL.gPow x y)) fun y => DL.mlft (DL.gLt x y))) (DL.sretO (DL.molst (DL.mcons (DL.mret (PySem.PyData.int 0)) (DL.mcons (DL.mbnd (DL.mret (PySem.PyData.int 1)) fun x => DL.mbnd (DL.mbnd (DL.mbnd (DL.mbnd (DL.rd 2) fun x => DL.mbnd (DL.mret (PySem.PyData.int 7919)) fun y => DL.mlft (DL.gMul x y)) fun x => DL.mbnd (DL.mbnd (DL.mret (PySem.PyData.int 104729)) fun x => DL.mbnd (DL.rd 1) fun y => DL.mlft (DL.gMul x y)) fun y => DL.mlft (DL.gAdd x y)) fun x => DL.mbnd (DL.mret (PySem.PyData.int 2147483646)) fun y => DL.mlft (DL.gMod x y)) fun y => DL.mlft (DL.gAdd x y)) (DL.mret []))))) DL.snx) (DL.sretO (DL.molst (DL.mcons (DL.rd 2) (DL.mcons (DL.mbnd (DL.mret (PySem.PyData.int 1)) fun x => DL.mbnd (DL.mbnd (DL.mbnd (DL.rd 2) fun x => DL.mbnd (DL.rd 1) fun y => DL.mlft (DL.gAdd x y)) fun x => DL.mbnd (DL.mret (PySem.PyData.int 2147483646)) fun y => DL.mlft (DL.gMod x y)) fun y => DL.mlft (DL.gAdd x y)) (DL.mret []))))))))
def g__law_bag : FM Empty := close 3 m__law_bag
def m__law_take : SM Empty := (DL.sseq (DL.sif (DL.mtest (DL.mbnd (DL.mopO 0 (DL.mret (PySem.PyData.int 0)) DL.gIxO) fun x => DL.mbnd (DL.mret (PySem.PyData.int 0)) fun y => DL.mlft (DL.gGt x y))) (DL.sseq (DL.sset 2 (DL.mbnd (DL.mopO 0 (DL.mret (PySem.PyData.int 0)) DL.gIxO) fun x => DL.mbnd (DL.rd 1) fun y => DL.mlft (DL.gMod x y))) (DL.sseq (DL.ssetI 0 (DL.mbnd (DL.mopO 0 (DL.mret (PySem.PyData.int 0)) DL.gIxO) fun x => DL.mbnd (DL.rd 1) fun y => DL.mlft (DL.gDiv x y)) (DL.mret (PySem.PyData.int 0))) (DL.sret (DL.rd 2)))) DL.snx) (DL.sseq (DL.ssetI 0 (DL.mbnd (DL.mbnd (DL.mopO 0 (DL.mret (PySem.PyData.int 1)) DL.gIxO) fun x => DL.mbnd (DL.mret (PySem.PyData.int 48271)) fun y => DL.mlft (DL.gMul x y)) fun x => DL.mbnd (DL.mret (PySem.PyData.int 2147483647)) fun y => DL.mlft (DL.gMod x y)) (DL.mret (PySem.PyData.int 1))) (DL.sret (DL.mbnd (DL.mbnd (DL.mbnd (DL.mbnd (DL.mopO 0 (DL.mret (PySem.PyData.int 1)) DL.gIxO) fun x => DL.mbnd (DL.mopO 0 (DL.mret (PySem.PyData.int 1)) DL.gIxO) fun y => DL.mlft (DL.gMul x y)) fun x => DL.mbnd (DL.mret (PySem.PyData.int 2147483629)) fun y => DL.mlft (DL.gMod x y)) fun x => DL.mbnd (DL.mret (PySem.PyData.int 64)) fun y => DL.mlft (DL.gDiv x y)) fun x => DL.mbnd (DL.rd 1) fun y => DL.mlft (DL.gMod x y)))))
def g__law_take : FM Empty := close 3 m__law_take
def m__law_of : SM Empty := (DL.sret (DL.mbnd (DL.rd 1) fun x => DL.mbnd (DL.mcallV (DL.maown 0 (DL.macons (DL.mbnd (DL.mcons (DL.rd 1) (DL.mret [])) fun x => DL.mlft (DL.gLen x)) (DL.mret []))) g__law_take) fun y => DL.mlft (DL.gIxL x y)))
def g__law_of : FM Empty := close 2 m__law_of
def m__law_within : SM Empty := (DL.sret (DL.mandV (DL.mbnd (DL.rd 0) fun d => DL.mlft (DL.gIsi "int" d)) (DL.mandV (DL.mnotV (DL.mbnd (DL.rd 0) fun d => DL.mlft (DL.gIsi "bool" d))) (DL.mchain (DL.rd 1) (DL.rd 0) (DL.rd 2) DL.gLe DL.gLe))))
def g__law_within : FM Empty := close 3 m__law_within
def m__law_odd : SM Empty := (DL.sseq (DL.sset 1 (DL.mlst (DL.mcons (DL.mret PySem.PyData.none) (DL.mcons (DL.mret (PySem.PyData.bool Bool.true)) (DL.mcons (DL.mret (PySem.PyData.bool Bool.false)) (DL.mcons (DL.mret (PySem.PyData.int 0)) (DL.mcons (DL.mret (PySem.PyData.int 1)) (DL.mcons (DL.mbnd (DL.mret (PySem.PyData.int 1)) fun x => DL.mlft (DL.gNeg x)) (DL.mcons (DL.mret (PySem.PyData.int 5)) (DL.mcons (DL.mbnd (DL.mret (PySem.PyData.int 10)) fun x => DL.mbnd (DL.mret (PySem.PyData.int 30)) fun y => DL.mlft (DL.gPow x y)) (DL.mcons (DL.mret (PySem.PyData.str (PySem.Str.ofString ""))) (DL.mcons (DL.mret (PySem.PyData.str (PySem.Str.ofString "a"))) (DL.mcons (DL.mret (PySem.PyData.str (PySem.Str.ofString "mill"))) (DL.mcons (DL.mret (PySem.PyData.str (PySem.Str.ofString "ask"))) (DL.mcons (DL.mret (PySem.PyData.str (PySem.Str.ofString "days"))) (DL.mcons (DL.mtup (DL.mret [])) (DL.mcons (DL.mlst (DL.mret [])) (DL.mcons (DL.mtup (DL.mcons (DL.mret (PySem.PyData.int 1)) (DL.mcons (DL.mret (PySem.PyData.int 2)) (DL.mret [])))) (DL.mcons (DL.mret (PySem.PyData.str (PySem.Str.ofString "Mill"))) (DL.mcons (DL.mtup (DL.mcons (DL.mret PySem.PyData.none) (DL.mret []))) (DL.mret []))))))))))))))))))))) (DL.sseq (DL.sset 1 (DL.mbnd (DL.rd 1) fun x => DL.mbnd (DL.mlst (DL.mcons (DL.mtup (DL.mcons (DL.mret (PySem.PyData.str (PySem.Str.ofString "mill"))) (DL.mcons (DL.mret (PySem.PyData.str (PySem.Str.ofString ""))) (DL.mcons (DL.mret (PySem.PyData.int 1)) (DL.mcons (DL.mret (PySem.PyData.int 5)) (DL.mcons (DL.mret (PySem.PyData.int 5)) (DL.mcons (DL.mret (PySem.PyData.bool Bool.true)) (DL.mret [])))))))) (DL.mcons (DL.mlst (DL.mcons (DL.mtup (DL.mcons (DL.mret (PySem.PyData.str (PySem.Str.ofString "mill"))) (DL.mcons (DL.mret (PySem.PyData.str (PySem.Str.ofString ""))) (DL.mcons (DL.mret (PySem.PyData.int 1)) (DL.mcons (DL.mret (PySem.PyData.int 5)) (DL.mcons (DL.mret (PySem.PyData.int 5)) (DL.mcons (DL.mret (PySem.PyData.bool Bool.true)) (DL.mret [])))))))) (DL.mret []))) (DL.mcons (DL.mtup (DL.mcons (DL.mtup (DL.mcons (DL.mret (PySem.PyData.str (PySem.Str.ofString "mill"))) (DL.mcons (DL.mret (PySem.PyData.str (PySem.Str.ofString ""))) (DL.mcons (DL.mret (PySem.PyData.int 1)) (DL.mcons (DL.mret (PySem.PyData.int 5)) (DL.mcons (DL.mret (PySem.PyData.int 5)) (DL.mcons (DL.mret (PySem.PyData.bool Bool.true)) (DL.mret [])))))))) (DL.mret []))) (DL.mret []))))) fun y => DL.mlft (Option.map PySem.PyData.list (DL.gCatL x y)))) (DL.sseq (DL.sset 1 (DL.mbnd (DL.rd 1) fun x => DL.mbnd (DL.mlst (DL.mcons (DL.mtup (DL.mcons (DL.mtup (DL.mcons (DL.mret (PySem.PyData.str (PySem.Str.ofString "mill"))) (DL.mcons (DL.mret (PySem.PyData.str (PySem.Str.ofString "mill"))) (DL.mcons (DL.mret (PySem.PyData.int 1)) (DL.mcons (DL.mret (PySem.PyData.int 5)) (DL.mcons (DL.mret (PySem.PyData.int 5)) (DL.mcons (DL.mret (PySem.PyData.bool Bool.true)) (DL.mret [])))))))) (DL.mret []))) (DL.mcons (DL.mtup (DL.mcons (DL.mtup (DL.mcons (DL.mret (PySem.PyData.str (PySem.Str.ofString "mill"))) (DL.mcons (DL.mret (PySem.PyData.str (PySem.Str.ofString ""))) (DL.mcons (DL.mret (PySem.PyData.int 1)) (DL.mcons (DL.mret (PySem.PyData.int 5)) (DL.mcons (DL.mret (PySem.PyData.int 5)) (DL.mcons (DL.mret (PySem.PyData.int 1)) (DL.mret [])))))))) (DL.mret []))) (DL.mcons (DL.mtup (DL.mcons (DL.mtup (DL.mcons (DL.mret (PySem.PyData.int 0)) (DL.mcons (DL.mret (PySem.PyData.str (PySem.Str.ofString "mill"))) (DL.mcons (DL.mret (PySem.PyData.int 3)) (DL.mret []))))) (DL.mret []))) (DL.mcons (DL.mlst (DL.mcons (DL.mtup (DL.mcons (DL.mret (PySem.PyData.int 0)) (DL.mcons (DL.mret (PySem.PyData.str (PySem.Str.ofString "mill"))) (DL.mcons (DL.mret (PySem.PyData.int 3)) (DL.mret []))))) (DL.mret []))) (DL.mret [])))))) fun y => DL.mlft (Option.map PySem.PyData.list (DL.gCatL x y)))) (DL.sret (DL.mbnd (DL.rd 1) fun x => DL.mbnd (DL.mcallV (DL.maown 0 (DL.macons (DL.mbnd (DL.mcons (DL.rd 1) (DL.mret [])) fun x => DL.mlft (DL.gLen x)) (DL.mret []))) g__law_take) fun y => DL.mlft (DL.gIxL x y))))))
def g__law_odd : FM Empty := close 2 m__law_odd
def m__law_spoilt (gr : FM Empty) : SM Empty := (DL.sseq (DL.sset 2 (DL.mcallV (DL.maown 0 (DL.macons (DL.mret (PySem.PyData.int 9)) (DL.mret []))) g__law_take)) (DL.sseq (DL.sif (DL.mand (DL.mtest (DL.mbnd (DL.rd 1) fun d => DL.mlft (DL.gIsi2 "tuple" "list" d))) (DL.mand (DL.mtest (DL.mbnd (DL.mbnd (DL.mcons (DL.rd 1) (DL.mret [])) fun x => DL.mlft (DL.gLen x)) fun x => DL.mbnd (DL.mret (PySem.PyData.int 0)) fun y => DL.mlft (DL.gGt x y))) (DL.mtest (DL.mbnd (DL.rd 2) fun x => DL.mbnd (DL.mret (PySem.PyData.int 0)) fun y => DL.mlft (DL.gGt x y))))) (DL.sseq (DL.ssetO 2 3 (DL.mbnd (DL.mcons (DL.rd 1) (DL.mret [])) fun x => DL.mown (DL.gListN x))) (DL.sseq (DL.sset 4 (DL.mcallV (DL.maown 0 (DL.macons (DL.rdO 3 DL.gLenO) (DL.mret []))) g__law_take)) (DL.sseq (DL.sif (DL.mtest (DL.mbnd (DL.rd 2) fun x => DL.mbnd (DL.mret (PySem.PyData.int 1)) fun y => DL.mlft (DL.gEqD x y))) (DL.ssetO 2 3 (DL.mbnd (DL.mslO 3 (DL.mret Option.none) (DL.mpart (DL.rd 4))) fun x => DL.mbnd (DL.mslO 3 (DL.mpart (DL.mbnd (DL.rd 4) fun x => DL.mbnd (DL.mret (PySem.PyData.int 1)) fun y => DL.mlft (DL.gAdd x y))) (DL.mret Option.none)) fun y => DL.mown (DL.gCatL x y))) (DL.sif (DL.mtest (DL.mbnd (DL.rd 2) fun x => DL.mbnd (DL.mret (PySem.PyData.int 2)) fun y => DL.mlft (DL.gEqD x y))) (DL.ssetO 2 3 (DL.mbnd (DL.mslO 3 (DL.mret Option.none) (DL.mpart (DL.mbnd (DL.rd 4) fun x => DL.mbnd (DL.mret (PySem.PyData.int 1)) fun y => DL.mlft (DL.gAdd x y)))) fun x => DL.mbnd (DL.mslO 3 (DL.mpart (DL.rd 4)) (DL.mret Option.none)) fun y => DL.mown (DL.gCatL x y))) (DL.sif (DL.mtest (DL.mbnd (DL.rd 2) fun x => DL.mbnd (DL.mret (PySem.PyData.int 3)) fun y => DL.mlft (DL.gEqD x y))) (DL.sseq (DL.sset 5 (DL.mcallV (DL.maown 0 (DL.macons (DL.rdO 3 DL.gLenO) (DL.mret []))) g__law_take)) (DL.sswap 3 (DL.mtup (DL.mcons (DL.mopO 3 (DL.rd 5) DL.gIxO) (DL.mcons (DL.mopO 3 (DL.rd 4) DL.gIxO) (DL.mret [])))) (DL.rd 4) (DL.rd 5))) (DL.sif (DL.mtest (DL.mbnd (DL.rd 2) fun x => DL.mbnd (DL.mret (PySem.PyData.int 4)) fun y => DL.mlft (DL.gEqD x y))) (DL.sret (DL.mif (DL.mtest (DL.mbnd (DL.rd 1) fun d => DL.mlft (DL.gIsi "tuple" d))) (DL.rd 3) (DL.rdO 3 DL.gTupO))) (DL.ssetI 3 (DL.mcallV (DL.maown 0 (DL.macons (DL.mopO 3 (DL.rd 4) DL.gIxO) (DL.mret []))) gr) (DL.rd 4)))))) (DL.sret (DL.mif (DL.mtest (DL.mbnd (DL.rd 1) fun d => DL.mlft (DL.gIsi "tuple" d))) (DL.rdO 3 DL.gTupO) (DL.rd 3)))))) DL.snx) (DL.sseq (DL.sif (DL.mand (DL.mtest (DL.mbnd (DL.rd 1) fun d => DL.mlft (DL.gIsi "str" d))) (DL.mtest (DL.mbnd (DL.rd 2) fun x => DL.mbnd (DL.mret (PySem.PyData.int 1)) fun y => DL.mlft (DL.gGt x y)))) (DL.sret (DL.mbnd (DL.mlst (DL.mcons (DL.mbnd (DL.rd 1) fun x => DL.mbnd (DL.mret (PySem.PyData.str (PySem.Str.ofString "a"))) fun y => DL.mlft (DL.gAddS x y)) (DL.mcons (DL.mslice (DL.rd 1) (DL.mret Option.none) (DL.mpart (DL.mbnd (DL.mret (PySem.PyData.int 1)) fun x => DL.mlft (DL.gNeg x))) DL.gSlS) (DL.mcons (DL.mbnd (DL.rd 1) fun x => DL.mbnd (DL.mret (PySem.PyData.str (PySem.Str.ofString " "))) fun y => DL.mlft (DL.gAddS x y)) (DL.mcons (DL.mstr0 (DL.rd 1) DL.gUpper) (DL.mcons (DL.mbnd (DL.rd 1) fun x => DL.mbnd (DL.rd 1) fun y => DL.mlft (DL.gAddS x y)) (DL.mcons (DL.mbnd (DL.mret (PySem.PyData.str (PySem.Str.ofString "z"))) fun x => DL.mbnd (DL.rd 1) fun y => DL.mlft (DL.gAddS x y)) (DL.mcons (DL.mret (PySem.PyData.str (PySem.Str.ofString ""))) (DL.mret []))))))))) fun x => DL.mbnd (DL.mbnd (DL.rd 2) fun x => DL.mbnd (DL.mret (PySem.PyData.int 2)) fun y => DL.mlft (DL.gSub x y)) fun y => DL.mlft (DL.gIxL x y))) DL.snx) (DL.sseq (DL.sif (DL.mand (DL.mtest (DL.mbnd (DL.rd 1) fun d => DL.mlft (DL.gIsi "int" d))) (DL.mtest (DL.mbnd (DL.rd 2) fun x => DL.mbnd (DL.mret (PySem.PyData.int 1)) fun y => DL.mlft (DL.gGt x y)))) (DL.sret (DL.mbnd (DL.mlst (DL.mcons (DL.mbnd (DL.rd 1) fun x => DL.mbnd (DL.mret (PySem.PyData.int 1)) fun y => DL.mlft (DL.gNu2 (fun i j => i + j) x y)) (DL.mcons (DL.mbnd (DL.rd 1) fun x => DL.mbnd (DL.mret (PySem.PyData.int 1)) fun y => DL.mlft (DL.gNu2 (fun i j => i - j) x y)) (DL.mcons (DL.mbnd (DL.rd 1) fun x => DL.mlft (DL.gNu1 (fun i => -i) x)) (DL.mcons (DL.mbnd (DL.rd 1) fun x => DL.mbnd (DL.mret (PySem.PyData.int 1000)) fun y => DL.mlft (DL.gNu2 (fun i j => i + j) x y)) (DL.mcons (DL.mbnd (DL.mcons (DL.rd 1) (DL.mret [])) fun x => DL.mlft (DL.gStrN x)) (DL.mcons (DL.mbnd (DL.rd 1) fun x => DL.mbnd (DL.mret (PySem.PyData.int 50)) fun y => DL.mlft (DL.gNu2 (fun i j => i + j) x y)) (DL.mcons (DL.mtup (DL.mcons (DL.rd 1) (DL.mret []))) (DL.mret []))))))))) fun x => DL.mbnd (DL.mbnd (DL.rd 2) fun x => DL.mbnd (DL.mret (PySem.PyData.int 2)) fun y => DL.mlft (DL.gSub x y)) fun y => DL.mlft (DL.gIxL x y))) DL.snx) (DL.sret (DL.mcallV (DL.maown 0 (DL.mret [])) g__law_odd))))))
def g__law_spoilt : Nat → FM Empty
  | 0 => fun _ => none
  | n + 1 => close 6 (m__law_spoilt (g__law_spoilt n))
def m__law_tree : SM Empty := (DL.sseq (DL.sset 2 (DL.mbnd (DL.mret (PySem.PyData.int 1)) fun x => DL.mbnd (DL.mcallV (DL.maown 0 (DL.macons (DL.mbnd (DL.mlst (DL.mcons (DL.mret (PySem.PyData.int 2)) (DL.mcons (DL.mret (PySem.PyData.int 4)) (DL.mcons (DL.mret (PySem.PyData.int 8)) (DL.mret []))))) fun x => DL.mbnd (DL.mcallV (DL.maown 0 (DL.macons (DL.mret (PySem.PyData.int 3)) (DL.mret []))) g__law_take) fun y => DL.mlft (DL.gIxL x y)) (DL.mret []))) g__law_take) fun y => DL.mlft (DL.gAdd x y))) (DL.sseq (DL.sset 3 (DL.mslice (DL.mlst (DL.mcons (DL.mret (PySem.PyData.str (PySem.Str.ofString "abel"))) (DL.mcons (DL.mret (PySem.PyData.str (PySem.Str.ofString "bo"))) (DL.mcons (DL.mret (PySem.PyData.str (PySem.Str.ofString "cy"))) (DL.mcons (DL.mret (PySem.PyData.str (PySem.Str.ofString "dee"))) (DL.mcons (DL.mret (PySem.PyData.str (PySem.Str.ofString "eve"))) (DL.mcons (DL.mret (PySem.PyData.str (PySem.Str.ofString "fay"))) (DL.mcons (DL.mret (PySem.PyData.str (PySem.Str.ofString "gus"))) (DL.mcons (DL.mret (PySem.PyData.str (PySem.Str.ofString "hal"))) (DL.mret [])))))))))) (DL.mret Option.none) (DL.mpart (DL.rd 2)) DL.gSlL)) (DL.sseq (DL.ssetO 2 4 (DL.molst (DL.mret []))) (DL.sseq (DL.sfor (DL.mlist (DL.rd 3)) (DL.gN 5) (DL.sexpr (DL.mmut 4 (DL.mcons (DL.mcallV (DL.maown 0 (DL.macons (DL.mbnd (DL.rdO 4 DL.gLenO) fun x => DL.mbnd (DL.mret (PySem.PyData.int 1)) fun y => DL.mlft (DL.gAdd x y)) (DL.mret []))) g__law_take) (DL.mcons (DL.rd 5) (DL.mret []))) DL.gInsert))) (DL.sseq (DL.sset 6 (DL.mbnd (DL.mcallV (DL.maown 0 (DL.macons (DL.mret (PySem.PyData.int 3)) (DL.mret []))) g__law_take) fun x => DL.mbnd (DL.mret (PySem.PyData.int 0)) fun y => DL.mlft (DL.gEqD x y))) (DL.sseq (DL.ssetO 2 7 (DL.molst (DL.mret []))) (DL.sseq (DL.sfor (DL.mrange1 (DL.mcons (DL.rd 2) (DL.mret []))) (DL.gN 8) (DL.sseq (DL.sset 9 (DL.mif (DL.mtest (DL.mbnd (DL.rd 8) fun x => DL.mbnd (DL.mret (PySem.PyData.int 0)) fun y => DL.mlft (DL.gGt x y))) (DL.mcallV (DL.maown 0 (DL.macons (DL.mbnd (DL.mlst (DL.mcons (DL.mret (PySem.PyData.str (PySem.Str.ofString ""))) (DL.mret []))) fun x => DL.mbnd (DL.mslO 4 (DL.mret Option.none) (DL.mpart (DL.rd 8))) fun y => DL.mlft (Option.map PySem.PyData.list (DL.gCatL x y))) (DL.mret []))) g__law_of) (DL.mret (PySem.PyData.str (PySem.Str.ofString ""))))) (DL.sseq (DL.sif (DL.mand (DL.mtest (DL.rd 6)) (DL.mtest (DL.mbnd (DL.rd 8) fun x => DL.mbnd (DL.mret (PySem.PyData.int 0)) fun y => DL.mlft (DL.gGt x y)))) (DL.sset 9 (DL.mopO 4 (DL.mbnd (DL.rd 8) fun x => DL.mbnd (DL.mret (PySem.PyData.int 1)) fun y => DL.mlft (DL.gSub x y)) DL.gIxO)) DL.snx) (DL.sseq (DL.sset 10 (DL.mbnd (DL.mlst (DL.mcons (DL.mret (PySem.PyData.int 0)) (DL.mcons (DL.mcallV (DL.maown 0 (DL.macons (DL.mret (PySem.PyData.int 9)) (DL.mret []))) g__law_take) (DL.mcons (DL.mcallV (DL.maown 0 (DL.macons (DL.mret (PySem.PyData.int 30)) (DL.mret []))) g__law_take) (DL.mcons (DL.mret (PySem.PyData.int 5)) (DL.mret [])))))) fun x => DL.mbnd (DL.mcallV (DL.maown 0 (DL.macons (DL.mret (PySem.PyData.int 4)) (DL.mret []))) g__law_take) fun y => DL.mlft (DL.gIxL x y))) (DL.sseq (DL.sset 11 (DL.mbnd (DL.mlst (DL.mcons (DL.rd 10) (DL.mcons (DL.rd 10) (DL.mcons (DL.mcallV (DL.maown 0 (DL.macons (DL.mbnd (DL.rd 10) fun x => DL.mbnd (DL.mret (PySem.PyData.int 1)) fun y => DL.mlft (DL.gAdd x y)) (DL.mret []))) g__law_take) (DL.mcons (DL.mcallV (DL.maown 0 (DL.macons (DL.mret (PySem.PyData.int 30)) (DL.mret []))) g__law_take) (DL.mret [])))))) fun x => DL.mbnd (DL.mcallV (DL.maown 0 (DL.macons (DL.mbnd (DL.mlst (DL.mcons (DL.mret (PySem.PyData.int 4)) (DL.mcons (DL.mret (PySem.PyData.int 4)) (DL.mcons (DL.mret (PySem.PyData.int 3)) (DL.mret []))))) fun x => DL.mbnd (DL.rd 1) fun y => DL.mlft (DL.gIxL x y)) (DL.mret []))) g__law_take) fun y => DL.mlft (DL.gIxL x y))) (DL.sseq (DL.sset 12 (DL.morV (DL.mbnd (DL.rd 1) fun x => DL.mbnd (DL.mret (PySem.PyData.int 0)) fun y => DL.mlft (DL.gGt x y)) (DL.mbnd (DL.mcallV (DL.maown 0 (DL.macons (DL.mret (PySem.PyData.int 3)) (DL.mret []))) g__law_take) fun x => DL.mbnd (DL.mret (PySem.PyData.int 0)) fun y => DL.mlft (DL.gGt x y)))) (DL.sseq (DL.sset 13 (DL.mbnd (DL.mret (PySem.PyData.int 1)) fun x => DL.mbnd (DL.mcallV (DL.maown 0 (DL.macons (DL.mbnd (DL.mlst (DL.mcons (DL.mret (PySem.PyData.int 2)) (DL.mcons (DL.mret (PySem.PyData.int 4)) (DL.mcons (DL.mret (PySem.PyData.int 9)) (DL.mret []))))) fun x => DL.mbnd (DL.mcallV (DL.maown 0 (DL.macons (DL.mret (PySem.PyData.int 3)) (DL.mret []))) g__law_take) fun y => DL.mlft (DL.gIxL x y)) (DL.mret []))) g__law_take) fun y => DL.mlft (DL.gAdd x y))) (DL.sexpr (DL.mmut 7 (DL.mcons (DL.mtup (DL.mcons (DL.mopO 4 (DL.rd 8) DL.gIxO) (DL.mcons (DL.rd 9) (DL.mcons (DL.rd 13) (DL.mcons (DL.rd 10) (DL.mcons (DL.rd 11) (DL.mcons (DL.rd 12) (DL.mret [])))))))) (DL.mret [])) DL.gAppend))))))))) (DL.sret (DL.mbnd (DL.mcons (DL.rdO 7 fun x => Option.map PySem.PyData.list (DL.gSortO x)) (DL.mret [])) fun x => DL.mlft (DL.gTuple x))))))))))
def g__law_tree : FM Empty := close 14 m__law_tree
def m__law_costs : SM Empty := (DL.sret (DL.mbnd (DL.mcons (DL.mlc (DL.mcomp (DL.mtuple (DL.rd 1)) (List.map (fun x => Prod.snd x) [(PySem.Str.ofString "store", 2)]) (DL.gN 2) (DL.mret Bool.true) (DL.mtup (DL.mcons (DL.mbnd (DL.rd 2) fun x => DL.mbnd (DL.mret (PySem.PyData.int 0)) fun y => DL.mlft (DL.gIxT x y)) (DL.mcons (DL.mcallV (DL.maown 0 (DL.macons (DL.mret (PySem.PyData.int 9)) (DL.mret []))) g__law_take) (DL.mcons (DL.mcallV (DL.maown 0 (DL.macons (DL.mret (PySem.PyData.int 101)) (DL.mret []))) g__law_take) (DL.mcons (DL.mcallV (DL.maown 0 (DL.macons (DL.mret (PySem.PyData.int 30)) (DL.mret []))) g__law_take) (DL.mret [])))))))) (DL.mret [])) fun x => DL.mlft (DL.gTuple x)))
def g__law_costs : FM Empty := close 3 m__law_costs
def m__law_is_costs : SM Empty := (DL.sseq (DL.sif (DL.mor (DL.mnot (DL.mtest (DL.mbnd (DL.rd 1) fun d => DL.mlft (DL.gIsi "tuple" d)))) (DL.mtest (DL.mbnd (DL.mbnd (DL.mcons (DL.rd 1) (DL.mret [])) fun x => DL.mlft (DL.gLen x)) fun x => DL.mbnd (DL.mbnd (DL.mcons (DL.rd 0) (DL.mret [])) fun x => DL.mlft (DL.gLen x)) fun y => DL.mlft (DL.gNeD x y)))) (DL.sret (DL.mret (PySem.PyData.bool Bool.false))) DL.snx) (DL.sseq (DL.sfor (DL.mzip (DL.mcons (DL.rd 0) (DL.mcons (DL.rd 1) (DL.mret [])))) (DL.gT 2 (DL.gsCons (DL.gN 2) (DL.gsCons (DL.gN 3) DL.gsNil))) (DL.sseq (DL.sif (DL.mor (DL.mnot (DL.mtest (DL.mbnd (DL.rd 3) fun d => DL.mlft (DL.gIsi "tuple" d)))) (DL.mor (DL.mtest (DL.mbnd (DL.mbnd (DL.mcons (DL.rd 3) (DL.mret [])) fun x => DL.mlft (DL.gLen x)) fun x => DL.mbnd (DL.mret (PySem.PyData.int 4)) fun y => DL.mlft (DL.gNeD x y))) (DL.mtest (DL.mbnd (DL.mbnd (DL.rd 3) fun x => DL.mbnd (DL.mret (PySem.PyData.int 0)) fun y => DL.mlft (DL.gIxT x y)) fun x => DL.mbnd (DL.mbnd (DL.rd 2) fun x => DL.mbnd (DL.mret (PySem.PyData.int 0)) fun y => DL.mlft (DL.gIxT x y)) fun y => DL.mlft (DL.gNeD x y))))) (DL.sret (DL.mret (PySem.PyData.bool Bool.false))) DL.snx) (DL.sif (DL.mtest (DL.mbnd (DL.mlc (DL.mcomp (DL.mtuple (DL.mslice (DL.rd 3) (DL.mpart (DL.mret (PySem.PyData.int 1))) (DL.mret Option.none) DL.gSlT)) (List.map (fun x => Prod.snd x) [(PySem.Str.ofString "part", 4)]) (DL.gN 4) (DL.mnot (DL.mtest (DL.mcallV (DL.macons (DL.rd 4) (DL.macons (DL.mret (PySem.PyData.int 0)) (DL.macons (DL.mret (PySem.PyData.int 100)) (DL.mret [])))) g__law_within))) (DL.rd 4))) fun x => DL.mbnd (DL.mlst (DL.mret [])) fun y => DL.mlft (DL.gNeD x y))) (DL.sret (DL.mret (PySem.PyData.bool Bool.false))) DL.snx))) (DL.sret (DL.mret (PySem.PyData.bool Bool.true)))))
def g__law_is_costs : FM Empty := close 5 m__law_is_costs

end RG
set_option Elab.async false
set_option linter.all false
set_option maxRecDepth 100000
set_option maxHeartbeats 1000000
/-! RGb: bags, and what tells things apart: by what is wanted behind a call -/
namespace RG
open PySem PySem.Spec PyProof.Rows L2 DL
theorem rng_get {lo : Int} {n i : Nat} {d : D} (h : (rngD lo n)[i]? = some d) : i < n ∧ d = .int (lo + (i : Int)) := by
  unfold rngD at h
  rw [List.getElem?_map] at h
  by_cases hi : i < n
  · rw [List.getElem?_range hi] at h
    cases h
    exact ⟨hi, rfl⟩
  · rw [List.getElem?_eq_none (by rw [List.length_range]; omega)] at h
    cases h
theorem rng_len (lo : Int) (n : Nat) : (rngD lo n).length = n := by unfold rngD; rw [List.length_map, List.length_range]
/-! ### bags -/
abbrev bagS (a b : Int) : Sl Empty := .own (.seq [.int a, .int b])
theorem take_step {a b m : Int} (hm : 0 < m ∧ m < 1073741824) {Q : D → List (Sl Empty) → Prop} (h : ∀ v a' b', 0 ≤ v → v < m → Q (.int v) [bagS a' b', .val (.int m)]) :
    callQ g__law_take [bagS a b, .val (.int m)] Q := by
  refine call_close ?_
  have hb : -18446744073709551616 < b * 48271 % 2147483647 ∧ b * 48271 % 2147483647 < 18446744073709551616 := by omega
  by_cases ha : 0 < a
  · simp [m__law_take, wp_seq, wp_set, wp_sret, wp_sretO, wp_expr, wp_for, wp_sif, wp_mif, wp_mand, wp_mor, wp_mnot, wp_mtest, wp_bnd, wp_ret, wp_some, wp_mcons, wp_nx, wp_bk, wp_ct, wp_asg, wp_mlc, wp_molc, wp_mcomp, wp_callV, wp_callO, wp_macons, wpr_maown, anQ_own, wpr_aug, auQ_val, wpr, rdQ_val, rdQ_own, wpr_rdO, wpr_wrOp, wpr_mopO, wpr_mmut, wpr_setI, owQ_own, wp_setO, wp_tup, wp_lst, wp_olst, wp_list, wp_tuple, wp_range1, wp_range2, wp_part, wp_slice, wp_tru, wp_andV, wp_orV, wp_notV, seqQ_nx, seqQ_rt, seqQ_ro, seqQ_bk, seqQ_ct, gath, scat, scat1, pos, ownAt, clQ_nx, clQ_rt, clQ_ro, lpQ_nx, lpQ_ct, lpQ_bk, lpQ_rt, lpQ_ro, mrg1, q_I0, q_I, q_ixL, q_ixT, q_ixO, q_lenL, q_lenT, q_lenO, q_sum, q_listL, q_listT, q_abs, q_max2, q_min2, q_slL, q_neg, q_append, q_setI, q_cMul, q_cDiv, q_cPos, q_cPow, at0, at1, at2, at3, at4, at5, ix0, ix1, okW, isOwn, wipeR, restR, wp_chain, wp_zip, wp_enum, wp_str, wp_slO, wp_rdON, wp_put, wp_swap, wp_str0, wp_mownS, wp_keys, wp_mdcomp, endQ_nx, endQ_rt, endO_ro, q_isiI, q_isiB, q_isiS, q_isiT, q_isiL, q_isiTL, q_all, q_any, q_ltS, q_addS, q_inS, q_ninS, q_lenS, q_lenD, q_zipT, q_zipL, q_catT, q_catL, q_slT, q_slS, q_tupleL, q_tupleT, q_tupO, q_lstO, q_listNL, q_listNT, q_insert, q_upper, q_nu2I, q_nu2B, q_nu1I, q_nu1B, q_strI, q_strB, q_strS, q_ixA_T, q_ixA_L, q_ixA_S, q_ixS, q_eqII, q_neII, q_eqSS, q_neSS, q_eqBB, q_neBB, q_dgetS, q_dgetI, q_dinS, q_dinI, at6, at7, gT, gsCons, gsNil, gN, keyOfD, someQ_some, someQ_if, someQ_map, q_allM, q_anyM, i_BN, i_BB, i_BI, i_BS, i_BL, i_BT, i_BD, i_IN, i_IB, i_II, i_IS, i_IL, i_IT, i_ID, i_SN, i_SB, i_SI, i_SS, i_SL, i_ST, i_SD, i_TN, i_TB, i_TI, i_TS, i_TL, i_TT, i_TD, i_LN, i_LB, i_LI, i_LS, i_LL, i_LT, i_LD, sizeLine_eq, ha, hm]
    exact h _ _ _ (Int.emod_nonneg _ (by omega)) (Int.emod_lt_of_pos _ hm.1)
  · simp [m__law_take, wp_seq, wp_set, wp_sret, wp_sretO, wp_expr, wp_for, wp_sif, wp_mif, wp_mand, wp_mor, wp_mnot, wp_mtest, wp_bnd, wp_ret, wp_some, wp_mcons, wp_nx, wp_bk, wp_ct, wp_asg, wp_mlc, wp_molc, wp_mcomp, wp_callV, wp_callO, wp_macons, wpr_maown, anQ_own, wpr_aug, auQ_val, wpr, rdQ_val, rdQ_own, wpr_rdO, wpr_wrOp, wpr_mopO, wpr_mmut, wpr_setI, owQ_own, wp_setO, wp_tup, wp_lst, wp_olst, wp_list, wp_tuple, wp_range1, wp_range2, wp_part, wp_slice, wp_tru, wp_andV, wp_orV, wp_notV, seqQ_nx, seqQ_rt, seqQ_ro, seqQ_bk, seqQ_ct, gath, scat, scat1, pos, ownAt, clQ_nx, clQ_rt, clQ_ro, lpQ_nx, lpQ_ct, lpQ_bk, lpQ_rt, lpQ_ro, mrg1, q_I0, q_I, q_ixL, q_ixT, q_ixO, q_lenL, q_lenT, q_lenO, q_sum, q_listL, q_listT, q_abs, q_max2, q_min2, q_slL, q_neg, q_append, q_setI, q_cMul, q_cDiv, q_cPos, q_cPow, at0, at1, at2, at3, at4, at5, ix0, ix1, okW, isOwn, wipeR, restR, wp_chain, wp_zip, wp_enum, wp_str, wp_slO, wp_rdON, wp_put, wp_swap, wp_str0, wp_mownS, wp_keys, wp_mdcomp, endQ_nx, endQ_rt, endO_ro, q_isiI, q_isiB, q_isiS, q_isiT, q_isiL, q_isiTL, q_all, q_any, q_ltS, q_addS, q_inS, q_ninS, q_lenS, q_lenD, q_zipT, q_zipL, q_catT, q_catL, q_slT, q_slS, q_tupleL, q_tupleT, q_tupO, q_lstO, q_listNL, q_listNT, q_insert, q_upper, q_nu2I, q_nu2B, q_nu1I, q_nu1B, q_strI, q_strB, q_strS, q_ixA_T, q_ixA_L, q_ixA_S, q_ixS, q_eqII, q_neII, q_eqSS, q_neSS, q_eqBB, q_neBB, q_dgetS, q_dgetI, q_dinS, q_dinI, at6, at7, gT, gsCons, gsNil, gN, keyOfD, someQ_some, someQ_if, someQ_map, q_allM, q_anyM, i_BN, i_BB, i_BI, i_BS, i_BL, i_BT, i_BD, i_IN, i_IB, i_II, i_IS, i_IL, i_IT, i_ID, i_SN, i_SB, i_SI, i_SS, i_SL, i_ST, i_SD, i_TN, i_TB, i_TI, i_TS, i_TL, i_TT, i_TD, i_LN, i_LB, i_LI, i_LS, i_LL, i_LT, i_LD, sizeLine_eq, ha, hm, hb]
    exact h _ _ _ (Int.emod_nonneg _ (by omega)) (Int.emod_lt_of_pos _ hm.1)
theorem bag_step {ns : List Int} {k : Nat} (hk : k < 1000 ∧ ns.length < 1000) {Q : Ow Empty → List (Sl Empty) → Prop} (h : ∀ a b, Q (.seq [.int a, .int b]) [.val (.list (ns.map PyData.int)), .val (.int k)]) :
    callO g__law_bag [.val (.list (ns.map PyData.int)), .val (.int k)] Q := by
  refine callO_close ?_
  simp [m__law_bag, wp_seq, wp_set, wp_sret, wp_sretO, wp_expr, wp_for, wp_sif, wp_mif, wp_mand, wp_mor, wp_mnot, wp_mtest, wp_bnd, wp_ret, wp_some, wp_mcons, wp_nx, wp_bk, wp_ct, wp_asg, wp_mlc, wp_molc, wp_mcomp, wp_callV, wp_callO, wp_macons, wpr_maown, anQ_own, wpr_aug, auQ_val, wpr, rdQ_val, rdQ_own, wpr_rdO, wpr_wrOp, wpr_mopO, wpr_mmut, wpr_setI, owQ_own, wp_setO, wp_tup, wp_lst, wp_olst, wp_list, wp_tuple, wp_range1, wp_range2, wp_part, wp_slice, wp_tru, wp_andV, wp_orV, wp_notV, seqQ_nx, seqQ_rt, seqQ_ro, seqQ_bk, seqQ_ct, gath, scat, scat1, pos, ownAt, clQ_nx, clQ_rt, clQ_ro, lpQ_nx, lpQ_ct, lpQ_bk, lpQ_rt, lpQ_ro, mrg1, q_I0, q_I, q_ixL, q_ixT, q_ixO, q_lenL, q_lenT, q_lenO, q_sum, q_listL, q_listT, q_abs, q_max2, q_min2, q_slL, q_neg, q_append, q_setI, q_cMul, q_cDiv, q_cPos, q_cPow, at0, at1, at2, at3, at4, at5, ix0, ix1, okW, isOwn, wipeR, restR, wp_chain, wp_zip, wp_enum, wp_str, wp_slO, wp_rdON, wp_put, wp_swap, wp_str0, wp_mownS, wp_keys, wp_mdcomp, endQ_nx, endQ_rt, endO_ro, q_isiI, q_isiB, q_isiS, q_isiT, q_isiL, q_isiTL, q_all, q_any, q_ltS, q_addS, q_inS, q_ninS, q_lenS, q_lenD, q_zipT, q_zipL, q_catT, q_catL, q_slT, q_slS, q_tupleL, q_tupleT, q_tupO, q_lstO, q_listNL, q_listNT, q_insert, q_upper, q_nu2I, q_nu2B, q_nu1I, q_nu1B, q_strI, q_strB, q_strS, q_ixA_T, q_ixA_L, q_ixA_S, q_ixS, q_eqII, q_neII, q_eqSS, q_neSS, q_eqBB, q_neBB, q_dgetS, q_dgetI, q_dinS, q_dinI, at6, at7, gT, gsCons, gsNil, gN, keyOfD, someQ_some, someQ_if, someQ_map, q_allM, q_anyM, i_BN, i_BB, i_BI, i_BS, i_BL, i_BT, i_BD, i_IN, i_IB, i_II, i_IS, i_IL, i_IT, i_ID, i_SN, i_SB, i_SI, i_SS, i_SL, i_ST, i_SD, i_TN, i_TB, i_TI, i_TS, i_TL, i_TT, i_TD, i_LN, i_LB, i_LI, i_LS, i_LL, i_LT, i_LD, sizeLine_eq]
  by_cases hl : k < ns.length
  · have e : atI (ns.map PyData.int) (k : Int) = some (.int ns[k]) := at_lt (by rw [List.getElem?_map, List.getElem?_eq_getElem hl]; rfl)
    generalize ns[k] = c at e
    by_cases h1 : c < 0 <;> by_cases h2 : c < 1000000000000000000 <;> by_cases h3 : -c < 1000000000000000000 <;> simp [hl, e, wp_seq, wp_set, wp_sret, wp_sretO, wp_expr, wp_for, wp_sif, wp_mif, wp_mand, wp_mor, wp_mnot, wp_mtest, wp_bnd, wp_ret, wp_some, wp_mcons, wp_nx, wp_bk, wp_ct, wp_asg, wp_mlc, wp_molc, wp_mcomp, wp_callV, wp_callO, wp_macons, wpr_maown, anQ_own, wpr_aug, auQ_val, wpr, rdQ_val, rdQ_own, wpr_rdO, wpr_wrOp, wpr_mopO, wpr_mmut, wpr_setI, owQ_own, wp_setO, wp_tup, wp_lst, wp_olst, wp_list, wp_tuple, wp_range1, wp_range2, wp_part, wp_slice, wp_tru, wp_andV, wp_orV, wp_notV, seqQ_nx, seqQ_rt, seqQ_ro, seqQ_bk, seqQ_ct, gath, scat, scat1, pos, ownAt, clQ_nx, clQ_rt, clQ_ro, lpQ_nx, lpQ_ct, lpQ_bk, lpQ_rt, lpQ_ro, mrg1, q_I0, q_I, q_ixL, q_ixT, q_ixO, q_lenL, q_lenT, q_lenO, q_sum, q_listL, q_listT, q_abs, q_max2, q_min2, q_slL, q_neg, q_append, q_setI, q_cMul, q_cDiv, q_cPos, q_cPow, at0, at1, at2, at3, at4, at5, ix0, ix1, okW, isOwn, wipeR, restR, wp_chain, wp_zip, wp_enum, wp_str, wp_slO, wp_rdON, wp_put, wp_swap, wp_str0, wp_mownS, wp_keys, wp_mdcomp, endQ_nx, endQ_rt, endO_ro, q_isiI, q_isiB, q_isiS, q_isiT, q_isiL, q_isiTL, q_all, q_any, q_ltS, q_addS, q_inS, q_ninS, q_lenS, q_lenD, q_zipT, q_zipL, q_catT, q_catL, q_slT, q_slS, q_tupleL, q_tupleT, q_tupO, q_lstO, q_listNL, q_listNT, q_insert, q_upper, q_nu2I, q_nu2B, q_nu1I, q_nu1B, q_strI, q_strB, q_strS, q_ixA_T, q_ixA_L, q_ixA_S, q_ixS, q_eqII, q_neII, q_eqSS, q_neSS, q_eqBB, q_neBB, q_dgetS, q_dgetI, q_dinS, q_dinI, at6, at7, gT, gsCons, gsNil, gN, keyOfD, someQ_some, someQ_if, someQ_map, q_allM, q_anyM, i_BN, i_BB, i_BI, i_BS, i_BL, i_BT, i_BD, i_IN, i_IB, i_II, i_IS, i_IL, i_IT, i_ID, i_SN, i_SB, i_SI, i_SS, i_SL, i_ST, i_SD, i_TN, i_TB, i_TI, i_TS, i_TL, i_TT, i_TD, i_LN, i_LB, i_LI, i_LS, i_LL, i_LT, i_LD, sizeLine_eq, h1, h2, h3] <;> first | exact h _ _ | exact ⟨by omega, h _ _⟩ | exact Or.inl ⟨by omega, h _ _⟩ | exact Or.inr ⟨by omega, h _ _⟩ | exact Or.inr (Or.inl ⟨by omega, h _ _⟩) | exact Or.inr (Or.inr ⟨by omega, h _ _⟩) | exact Or.inr (h _ _) | exact Or.inl (h _ _) | exact Or.inr (Or.inr (h _ _)) | skip
  · simp [hl, wp_seq, wp_set, wp_sret, wp_sretO, wp_expr, wp_for, wp_sif, wp_mif, wp_mand, wp_mor, wp_mnot, wp_mtest, wp_bnd, wp_ret, wp_some, wp_mcons, wp_nx, wp_bk, wp_ct, wp_asg, wp_mlc, wp_molc, wp_mcomp, wp_callV, wp_callO, wp_macons, wpr_maown, anQ_own, wpr_aug, auQ_val, wpr, rdQ_val, rdQ_own, wpr_rdO, wpr_wrOp, wpr_mopO, wpr_mmut, wpr_setI, owQ_own, wp_setO, wp_tup, wp_lst, wp_olst, wp_list, wp_tuple, wp_range1, wp_range2, wp_part, wp_slice, wp_tru, wp_andV, wp_orV, wp_notV, seqQ_nx, seqQ_rt, seqQ_ro, seqQ_bk, seqQ_ct, gath, scat, scat1, pos, ownAt, clQ_nx, clQ_rt, clQ_ro, lpQ_nx, lpQ_ct, lpQ_bk, lpQ_rt, lpQ_ro, mrg1, q_I0, q_I, q_ixL, q_ixT, q_ixO, q_lenL, q_lenT, q_lenO, q_sum, q_listL, q_listT, q_abs, q_max2, q_min2, q_slL, q_neg, q_append, q_setI, q_cMul, q_cDiv, q_cPos, q_cPow, at0, at1, at2, at3, at4, at5, ix0, ix1, okW, isOwn, wipeR, restR, wp_chain, wp_zip, wp_enum, wp_str, wp_slO, wp_rdON, wp_put, wp_swap, wp_str0, wp_mownS, wp_keys, wp_mdcomp, endQ_nx, endQ_rt, endO_ro, q_isiI, q_isiB, q_isiS, q_isiT, q_isiL, q_isiTL, q_all, q_any, q_ltS, q_addS, q_inS, q_ninS, q_lenS, q_lenD, q_zipT, q_zipL, q_catT, q_catL, q_slT, q_slS, q_tupleL, q_tupleT, q_tupO, q_lstO, q_listNL, q_listNT, q_insert, q_upper, q_nu2I, q_nu2B, q_nu1I, q_nu1B, q_strI, q_strB, q_strS, q_ixA_T, q_ixA_L, q_ixA_S, q_ixS, q_eqII, q_neII, q_eqSS, q_neSS, q_eqBB, q_neBB, q_dgetS, q_dgetI, q_dinS, q_dinI, at6, at7, gT, gsCons, gsNil, gN, keyOfD, someQ_some, someQ_if, someQ_map, q_allM, q_anyM, i_BN, i_BB, i_BI, i_BS, i_BL, i_BT, i_BD, i_IN, i_IB, i_II, i_IS, i_IL, i_IT, i_ID, i_SN, i_SB, i_SI, i_SS, i_SL, i_ST, i_SD, i_TN, i_TB, i_TI, i_TS, i_TL, i_TT, i_TD, i_LN, i_LB, i_LI, i_LS, i_LL, i_LT, i_LD, sizeLine_eq]
    first | exact h _ _ | exact ⟨by omega, h _ _⟩ | exact Or.inl ⟨by omega, h _ _⟩
/-- one of some -/
theorem of_step {a b : Int} {some : List D} (hm : 0 < some.length ∧ some.length < 1000000) {Q : D → List (Sl Empty) → Prop} (h : ∀ v a' b', v ∈ some → Q v [bagS a' b', .val (.list some)]) :
    callQ g__law_of [bagS a b, .val (.list some)] Q := by
  refine call_close ?_
  simp [m__law_of, wp_seq, wp_set, wp_sret, wp_sretO, wp_expr, wp_for, wp_sif, wp_mif, wp_mand, wp_mor, wp_mnot, wp_mtest, wp_bnd, wp_ret, wp_some, wp_mcons, wp_nx, wp_bk, wp_ct, wp_asg, wp_mlc, wp_molc, wp_mcomp, wp_callV, wp_callO, wp_macons, wpr_maown, anQ_own, wpr_aug, auQ_val, wpr, rdQ_val, rdQ_own, wpr_rdO, wpr_wrOp, wpr_mopO, wpr_mmut, wpr_setI, owQ_own, wp_setO, wp_tup, wp_lst, wp_olst, wp_list, wp_tuple, wp_range1, wp_range2, wp_part, wp_slice, wp_tru, wp_andV, wp_orV, wp_notV, seqQ_nx, seqQ_rt, seqQ_ro, seqQ_bk, seqQ_ct, gath, scat, scat1, pos, ownAt, clQ_nx, clQ_rt, clQ_ro, lpQ_nx, lpQ_ct, lpQ_bk, lpQ_rt, lpQ_ro, mrg1, q_I0, q_I, q_ixL, q_ixT, q_ixO, q_lenL, q_lenT, q_lenO, q_sum, q_listL, q_listT, q_abs, q_max2, q_min2, q_slL, q_neg, q_append, q_setI, q_cMul, q_cDiv, q_cPos, q_cPow, at0, at1, at2, at3, at4, at5, ix0, ix1, okW, isOwn, wipeR, restR, wp_chain, wp_zip, wp_enum, wp_str, wp_slO, wp_rdON, wp_put, wp_swap, wp_str0, wp_mownS, wp_keys, wp_mdcomp, endQ_nx, endQ_rt, endO_ro, q_isiI, q_isiB, q_isiS, q_isiT, q_isiL, q_isiTL, q_all, q_any, q_ltS, q_addS, q_inS, q_ninS, q_lenS, q_lenD, q_zipT, q_zipL, q_catT, q_catL, q_slT, q_slS, q_tupleL, q_tupleT, q_tupO, q_lstO, q_listNL, q_listNT, q_insert, q_upper, q_nu2I, q_nu2B, q_nu1I, q_nu1B, q_strI, q_strB, q_strS, q_ixA_T, q_ixA_L, q_ixA_S, q_ixS, q_eqII, q_neII, q_eqSS, q_neSS, q_eqBB, q_neBB, q_dgetS, q_dgetI, q_dinS, q_dinI, at6, at7, gT, gsCons, gsNil, gN, keyOfD, someQ_some, someQ_if, someQ_map, q_allM, q_anyM, i_BN, i_BB, i_BI, i_BS, i_BL, i_BT, i_BD, i_IN, i_IB, i_II, i_IS, i_IL, i_IT, i_ID, i_SN, i_SB, i_SI, i_SS, i_SL, i_ST, i_SD, i_TN, i_TB, i_TI, i_TS, i_TL, i_TT, i_TD, i_LN, i_LB, i_LI, i_LS, i_LL, i_LT, i_LD, sizeLine_eq]
  refine take_step (by omega) fun v a' b' h0 h1 => ?_
  obtain ⟨x, hx, e⟩ := at_open (xs := some) h0 h1
  simp [wp_seq, wp_set, wp_sret, wp_sretO, wp_expr, wp_for, wp_sif, wp_mif, wp_mand, wp_mor, wp_mnot, wp_mtest, wp_bnd, wp_ret, wp_some, wp_mcons, wp_nx, wp_bk, wp_ct, wp_asg, wp_mlc, wp_molc, wp_mcomp, wp_callV, wp_callO, wp_macons, wpr_maown, anQ_own, wpr_aug, auQ_val, wpr, rdQ_val, rdQ_own, wpr_rdO, wpr_wrOp, wpr_mopO, wpr_mmut, wpr_setI, owQ_own, wp_setO, wp_tup, wp_lst, wp_olst, wp_list, wp_tuple, wp_range1, wp_range2, wp_part, wp_slice, wp_tru, wp_andV, wp_orV, wp_notV, seqQ_nx, seqQ_rt, seqQ_ro, seqQ_bk, seqQ_ct, gath, scat, scat1, pos, ownAt, clQ_nx, clQ_rt, clQ_ro, lpQ_nx, lpQ_ct, lpQ_bk, lpQ_rt, lpQ_ro, mrg1, q_I0, q_I, q_ixL, q_ixT, q_ixO, q_lenL, q_lenT, q_lenO, q_sum, q_listL, q_listT, q_abs, q_max2, q_min2, q_slL, q_neg, q_append, q_setI, q_cMul, q_cDiv, q_cPos, q_cPow, at0, at1, at2, at3, at4, at5, ix0, ix1, okW, isOwn, wipeR, restR, wp_chain, wp_zip, wp_enum, wp_str, wp_slO, wp_rdON, wp_put, wp_swap, wp_str0, wp_mownS, wp_keys, wp_mdcomp, endQ_nx, endQ_rt, endO_ro, q_isiI, q_isiB, q_isiS, q_isiT, q_isiL, q_isiTL, q_all, q_any, q_ltS, q_addS, q_inS, q_ninS, q_lenS, q_lenD, q_zipT, q_zipL, q_catT, q_catL, q_slT, q_slS, q_tupleL, q_tupleT, q_tupO, q_lstO, q_listNL, q_listNT, q_insert, q_upper, q_nu2I, q_nu2B, q_nu1I, q_nu1B, q_strI, q_strB, q_strS, q_ixA_T, q_ixA_L, q_ixA_S, q_ixS, q_eqII, q_neII, q_eqSS, q_neSS, q_eqBB, q_neBB, q_dgetS, q_dgetI, q_dinS, q_dinI, at6, at7, gT, gsCons, gsNil, gN, keyOfD, someQ_some, someQ_if, someQ_map, q_allM, q_anyM, i_BN, i_BB, i_BI, i_BS, i_BL, i_BT, i_BD, i_IN, i_IB, i_II, i_IS, i_IL, i_IT, i_ID, i_SN, i_SB, i_SI, i_SS, i_SL, i_ST, i_SD, i_TN, i_TB, i_TI, i_TS, i_TL, i_TT, i_TD, i_LN, i_LB, i_LI, i_LS, i_LL, i_LT, i_LD, sizeLine_eq, e]
  exact h _ _ _ hx
/-! ### numbers -/
def wholeB : D → Bool | .int _ => true | _ => false
def withinB (lo hi : Int) : D → Bool | .int i => decide (lo ≤ i) && decide (i ≤ hi) | _ => false
theorem whole_step {d : D} {Q : D → List (Sl Empty) → Prop} (h : Q (.bool (wholeB d)) [.val d]) : callQ g_is_whole [.val d] Q := by
  refine call_close ?_
  cases d <;> simp [m_is_whole, wp_seq, wp_set, wp_sret, wp_sretO, wp_expr, wp_for, wp_sif, wp_mif, wp_mand, wp_mor, wp_mnot, wp_mtest, wp_bnd, wp_ret, wp_some, wp_mcons, wp_nx, wp_bk, wp_ct, wp_asg, wp_mlc, wp_molc, wp_mcomp, wp_callV, wp_callO, wp_macons, wpr_maown, anQ_own, wpr_aug, auQ_val, wpr, rdQ_val, rdQ_own, wpr_rdO, wpr_wrOp, wpr_mopO, wpr_mmut, wpr_setI, owQ_own, wp_setO, wp_tup, wp_lst, wp_olst, wp_list, wp_tuple, wp_range1, wp_range2, wp_part, wp_slice, wp_tru, wp_andV, wp_orV, wp_notV, seqQ_nx, seqQ_rt, seqQ_ro, seqQ_bk, seqQ_ct, gath, scat, scat1, pos, ownAt, clQ_nx, clQ_rt, clQ_ro, lpQ_nx, lpQ_ct, lpQ_bk, lpQ_rt, lpQ_ro, mrg1, q_I0, q_I, q_ixL, q_ixT, q_ixO, q_lenL, q_lenT, q_lenO, q_sum, q_listL, q_listT, q_abs, q_max2, q_min2, q_slL, q_neg, q_append, q_setI, q_cMul, q_cDiv, q_cPos, q_cPow, at0, at1, at2, at3, at4, at5, ix0, ix1, okW, isOwn, wipeR, restR, wp_chain, wp_zip, wp_enum, wp_str, wp_slO, wp_rdON, wp_put, wp_swap, wp_str0, wp_mownS, wp_keys, wp_mdcomp, endQ_nx, endQ_rt, endO_ro, q_isiI, q_isiB, q_isiS, q_isiT, q_isiL, q_isiTL, q_all, q_any, q_ltS, q_addS, q_inS, q_ninS, q_lenS, q_lenD, q_zipT, q_zipL, q_catT, q_catL, q_slT, q_slS, q_tupleL, q_tupleT, q_tupO, q_lstO, q_listNL, q_listNT, q_insert, q_upper, q_nu2I, q_nu2B, q_nu1I, q_nu1B, q_strI, q_strB, q_strS, q_ixA_T, q_ixA_L, q_ixA_S, q_ixS, q_eqII, q_neII, q_eqSS, q_neSS, q_eqBB, q_neBB, q_dgetS, q_dgetI, q_dinS, q_dinI, at6, at7, gT, gsCons, gsNil, gN, keyOfD, someQ_some, someQ_if, someQ_map, q_allM, q_anyM, i_BN, i_BB, i_BI, i_BS, i_BL, i_BT, i_BD, i_IN, i_IB, i_II, i_IS, i_IL, i_IT, i_ID, i_SN, i_SB, i_SI, i_SS, i_SL, i_ST, i_SD, i_TN, i_TB, i_TI, i_TS, i_TL, i_TT, i_TD, i_LN, i_LB, i_LI, i_LS, i_LL, i_LT, i_LD, sizeLine_eq, isI, isB] <;> exact h
theorem within_step {d : D} {lo hi : Int} {Q : D → List (Sl Empty) → Prop} (h : Q (.bool (withinB lo hi d)) [.val d, .val (.int lo), .val (.int hi)]) : callQ g_is_within [.val d, .val (.int lo), .val (.int hi)] Q := by
  refine call_close ?_
  simp [m_is_within, wp_seq, wp_set, wp_sret, wp_sretO, wp_expr, wp_for, wp_sif, wp_mif, wp_mand, wp_mor, wp_mnot, wp_mtest, wp_bnd, wp_ret, wp_some, wp_mcons, wp_nx, wp_bk, wp_ct, wp_asg, wp_mlc, wp_molc, wp_mcomp, wp_callV, wp_callO, wp_macons, wpr_maown, anQ_own, wpr_aug, auQ_val, wpr, rdQ_val, rdQ_own, wpr_rdO, wpr_wrOp, wpr_mopO, wpr_mmut, wpr_setI, owQ_own, wp_setO, wp_tup, wp_lst, wp_olst, wp_list, wp_tuple, wp_range1, wp_range2, wp_part, wp_slice, wp_tru, wp_andV, wp_orV, wp_notV, seqQ_nx, seqQ_rt, seqQ_ro, seqQ_bk, seqQ_ct, gath, scat, scat1, pos, ownAt, clQ_nx, clQ_rt, clQ_ro, lpQ_nx, lpQ_ct, lpQ_bk, lpQ_rt, lpQ_ro, mrg1, q_I0, q_I, q_ixL, q_ixT, q_ixO, q_lenL, q_lenT, q_lenO, q_sum, q_listL, q_listT, q_abs, q_max2, q_min2, q_slL, q_neg, q_append, q_setI, q_cMul, q_cDiv, q_cPos, q_cPow, at0, at1, at2, at3, at4, at5, ix0, ix1, okW, isOwn, wipeR, restR, wp_chain, wp_zip, wp_enum, wp_str, wp_slO, wp_rdON, wp_put, wp_swap, wp_str0, wp_mownS, wp_keys, wp_mdcomp, endQ_nx, endQ_rt, endO_ro, q_isiI, q_isiB, q_isiS, q_isiT, q_isiL, q_isiTL, q_all, q_any, q_ltS, q_addS, q_inS, q_ninS, q_lenS, q_lenD, q_zipT, q_zipL, q_catT, q_catL, q_slT, q_slS, q_tupleL, q_tupleT, q_tupO, q_lstO, q_listNL, q_listNT, q_insert, q_upper, q_nu2I, q_nu2B, q_nu1I, q_nu1B, q_strI, q_strB, q_strS, q_ixA_T, q_ixA_L, q_ixA_S, q_ixS, q_eqII, q_neII, q_eqSS, q_neSS, q_eqBB, q_neBB, q_dgetS, q_dgetI, q_dinS, q_dinI, at6, at7, gT, gsCons, gsNil, gN, keyOfD, someQ_some, someQ_if, someQ_map, q_allM, q_anyM, i_BN, i_BB, i_BI, i_BS, i_BL, i_BT, i_BD, i_IN, i_IB, i_II, i_IS, i_IL, i_IT, i_ID, i_SN, i_SB, i_SI, i_SS, i_SL, i_ST, i_SD, i_TN, i_TB, i_TI, i_TS, i_TL, i_TT, i_TD, i_LN, i_LB, i_LI, i_LS, i_LL, i_LT, i_LD, sizeLine_eq]
  refine whole_step ?_
  cases d <;> simp [wholeB, wp_seq, wp_set, wp_sret, wp_sretO, wp_expr, wp_for, wp_sif, wp_mif, wp_mand, wp_mor, wp_mnot, wp_mtest, wp_bnd, wp_ret, wp_some, wp_mcons, wp_nx, wp_bk, wp_ct, wp_asg, wp_mlc, wp_molc, wp_mcomp, wp_callV, wp_callO, wp_macons, wpr_maown, anQ_own, wpr_aug, auQ_val, wpr, rdQ_val, rdQ_own, wpr_rdO, wpr_wrOp, wpr_mopO, wpr_mmut, wpr_setI, owQ_own, wp_setO, wp_tup, wp_lst, wp_olst, wp_list, wp_tuple, wp_range1, wp_range2, wp_part, wp_slice, wp_tru, wp_andV, wp_orV, wp_notV, seqQ_nx, seqQ_rt, seqQ_ro, seqQ_bk, seqQ_ct, gath, scat, scat1, pos, ownAt, clQ_nx, clQ_rt, clQ_ro, lpQ_nx, lpQ_ct, lpQ_bk, lpQ_rt, lpQ_ro, mrg1, q_I0, q_I, q_ixL, q_ixT, q_ixO, q_lenL, q_lenT, q_lenO, q_sum, q_listL, q_listT, q_abs, q_max2, q_min2, q_slL, q_neg, q_append, q_setI, q_cMul, q_cDiv, q_cPos, q_cPow, at0, at1, at2, at3, at4, at5, ix0, ix1, okW, isOwn, wipeR, restR, wp_chain, wp_zip, wp_enum, wp_str, wp_slO, wp_rdON, wp_put, wp_swap, wp_str0, wp_mownS, wp_keys, wp_mdcomp, endQ_nx, endQ_rt, endO_ro, q_isiI, q_isiB, q_isiS, q_isiT, q_isiL, q_isiTL, q_all, q_any, q_ltS, q_addS, q_inS, q_ninS, q_lenS, q_lenD, q_zipT, q_zipL, q_catT, q_catL, q_slT, q_slS, q_tupleL, q_tupleT, q_tupO, q_lstO, q_listNL, q_listNT, q_insert, q_upper, q_nu2I, q_nu2B, q_nu1I, q_nu1B, q_strI, q_strB, q_strS, q_ixA_T, q_ixA_L, q_ixA_S, q_ixS, q_eqII, q_neII, q_eqSS, q_neSS, q_eqBB, q_neBB, q_dgetS, q_dgetI, q_dinS, q_dinI, at6, at7, gT, gsCons, gsNil, gN, keyOfD, someQ_some, someQ_if, someQ_map, q_allM, q_anyM, i_BN, i_BB, i_BI, i_BS, i_BL, i_BT, i_BD, i_IN, i_IB, i_II, i_IS, i_IL, i_IT, i_ID, i_SN, i_SB, i_SI, i_SS, i_SL, i_ST, i_SD, i_TN, i_TB, i_TI, i_TS, i_TL, i_TT, i_TD, i_LN, i_LB, i_LI, i_LS, i_LL, i_LT, i_LD, sizeLine_eq] <;> try exact h
  rename_i i
  by_cases h1 : lo ≤ i
  · refine Or.inr ⟨h1, ?_⟩
    rwa [show withinB lo hi (.int i) = decide (i ≤ hi) by simp [withinB, h1]] at h
  · refine Or.inl ⟨by omega, ?_⟩
    rwa [show withinB lo hi (.int i) = false by simp [withinB, h1]] at h
theorem lwithin_step {d : D} {lo hi : Int} {Q : D → List (Sl Empty) → Prop} (h : Q (.bool (withinB lo hi d)) [.val d, .val (.int lo), .val (.int hi)]) : callQ g__law_within [.val d, .val (.int lo), .val (.int hi)] Q := by
  refine call_close ?_
  cases d <;> simp [m__law_within, wp_seq, wp_set, wp_sret, wp_sretO, wp_expr, wp_for, wp_sif, wp_mif, wp_mand, wp_mor, wp_mnot, wp_mtest, wp_bnd, wp_ret, wp_some, wp_mcons, wp_nx, wp_bk, wp_ct, wp_asg, wp_mlc, wp_molc, wp_mcomp, wp_callV, wp_callO, wp_macons, wpr_maown, anQ_own, wpr_aug, auQ_val, wpr, rdQ_val, rdQ_own, wpr_rdO, wpr_wrOp, wpr_mopO, wpr_mmut, wpr_setI, owQ_own, wp_setO, wp_tup, wp_lst, wp_olst, wp_list, wp_tuple, wp_range1, wp_range2, wp_part, wp_slice, wp_tru, wp_andV, wp_orV, wp_notV, seqQ_nx, seqQ_rt, seqQ_ro, seqQ_bk, seqQ_ct, gath, scat, scat1, pos, ownAt, clQ_nx, clQ_rt, clQ_ro, lpQ_nx, lpQ_ct, lpQ_bk, lpQ_rt, lpQ_ro, mrg1, q_I0, q_I, q_ixL, q_ixT, q_ixO, q_lenL, q_lenT, q_lenO, q_sum, q_listL, q_listT, q_abs, q_max2, q_min2, q_slL, q_neg, q_append, q_setI, q_cMul, q_cDiv, q_cPos, q_cPow, at0, at1, at2, at3, at4, at5, ix0, ix1, okW, isOwn, wipeR, restR, wp_chain, wp_zip, wp_enum, wp_str, wp_slO, wp_rdON, wp_put, wp_swap, wp_str0, wp_mownS, wp_keys, wp_mdcomp, endQ_nx, endQ_rt, endO_ro, q_isiI, q_isiB, q_isiS, q_isiT, q_isiL, q_isiTL, q_all, q_any, q_ltS, q_addS, q_inS, q_ninS, q_lenS, q_lenD, q_zipT, q_zipL, q_catT, q_catL, q_slT, q_slS, q_tupleL, q_tupleT, q_tupO, q_lstO, q_listNL, q_listNT, q_insert, q_upper, q_nu2I, q_nu2B, q_nu1I, q_nu1B, q_strI, q_strB, q_strS, q_ixA_T, q_ixA_L, q_ixA_S, q_ixS, q_eqII, q_neII, q_eqSS, q_neSS, q_eqBB, q_neBB, q_dgetS, q_dgetI, q_dinS, q_dinI, at6, at7, gT, gsCons, gsNil, gN, keyOfD, someQ_some, someQ_if, someQ_map, q_allM, q_anyM, i_BN, i_BB, i_BI, i_BS, i_BL, i_BT, i_BD, i_IN, i_IB, i_II, i_IS, i_IL, i_IT, i_ID, i_SN, i_SB, i_SI, i_SS, i_SL, i_ST, i_SD, i_TN, i_TB, i_TI, i_TS, i_TL, i_TT, i_TD, i_LN, i_LB, i_LI, i_LS, i_LL, i_LT, i_LD, sizeLine_eq, isI, isB] <;> try exact h
  rename_i i
  by_cases h1 : lo ≤ i
  · refine Or.inr ⟨h1, ?_⟩
    rwa [show withinB lo hi (.int i) = decide (i ≤ hi) by simp [withinB, h1]] at h
  · refine Or.inl ⟨by omega, ?_⟩
    rwa [show withinB lo hi (.int i) = false by simp [withinB, h1]] at h
/-! ### texts -/
def lowers : List Nat := (PySem.Str.ofString "abcdefghijklmnopqrstuvwxyz").cps.toList
def signB : D → Bool | .str s => s.cps.toList.all fun c => decide (c ∈ lowers) | _ => false
def nameB : D → Bool | .str s => decide (1 ≤ s.length) && (decide (s.length ≤ 8) && (signsD s).all signB) | _ => false
/-- texts that are not too long -/
def lenOk : D → Bool | .str s => decide (s.length ≤ sizeLine) | _ => true
theorem signs_len (s : PySem.Str) : (signsD s).length = s.length := by unfold signsD; simp [PySem.Str.length]
theorem name_step {d : D} (hd : lenOk d = true) {Q : D → List (Sl Empty) → Prop} (h : Q (.bool (nameB d)) [.val d]) : callQ g_is_name [.val d] Q := by
  refine call_close ?_
  cases d with
  | str s =>
    have hs : s.length ≤ 16777216 := by have := of_decide_eq_true hd; rw [sizeLine_eq] at this; exact this
    simp [m_is_name, wp_seq, wp_set, wp_sret, wp_sretO, wp_expr, wp_for, wp_sif, wp_mif, wp_mand, wp_mor, wp_mnot, wp_mtest, wp_bnd, wp_ret, wp_some, wp_mcons, wp_nx, wp_bk, wp_ct, wp_asg, wp_mlc, wp_molc, wp_mcomp, wp_callV, wp_callO, wp_macons, wpr_maown, anQ_own, wpr_aug, auQ_val, wpr, rdQ_val, rdQ_own, wpr_rdO, wpr_wrOp, wpr_mopO, wpr_mmut, wpr_setI, owQ_own, wp_setO, wp_tup, wp_lst, wp_olst, wp_list, wp_tuple, wp_range1, wp_range2, wp_part, wp_slice, wp_tru, wp_andV, wp_orV, wp_notV, seqQ_nx, seqQ_rt, seqQ_ro, seqQ_bk, seqQ_ct, gath, scat, scat1, pos, ownAt, clQ_nx, clQ_rt, clQ_ro, lpQ_nx, lpQ_ct, lpQ_bk, lpQ_rt, lpQ_ro, mrg1, q_I0, q_I, q_ixL, q_ixT, q_ixO, q_lenL, q_lenT, q_lenO, q_sum, q_listL, q_listT, q_abs, q_max2, q_min2, q_slL, q_neg, q_append, q_setI, q_cMul, q_cDiv, q_cPos, q_cPow, at0, at1, at2, at3, at4, at5, ix0, ix1, okW, isOwn, wipeR, restR, wp_chain, wp_zip, wp_enum, wp_str, wp_slO, wp_rdON, wp_put, wp_swap, wp_str0, wp_mownS, wp_keys, wp_mdcomp, endQ_nx, endQ_rt, endO_ro, q_isiI, q_isiB, q_isiS, q_isiT, q_isiL, q_isiTL, q_all, q_any, q_ltS, q_addS, q_inS, q_ninS, q_lenS, q_lenD, q_zipT, q_zipL, q_catT, q_catL, q_slT, q_slS, q_tupleL, q_tupleT, q_tupO, q_lstO, q_listNL, q_listNT, q_insert, q_upper, q_nu2I, q_nu2B, q_nu1I, q_nu1B, q_strI, q_strB, q_strS, q_ixA_T, q_ixA_L, q_ixA_S, q_ixS, q_eqII, q_neII, q_eqSS, q_neSS, q_eqBB, q_neBB, q_dgetS, q_dgetI, q_dinS, q_dinI, at6, at7, gT, gsCons, gsNil, gN, keyOfD, someQ_some, someQ_if, someQ_map, q_allM, q_anyM, i_BN, i_BB, i_BI, i_BS, i_BL, i_BT, i_BD, i_IN, i_IB, i_II, i_IS, i_IL, i_IT, i_ID, i_SN, i_SB, i_SI, i_SS, i_SL, i_ST, i_SD, i_TN, i_TB, i_TI, i_TS, i_TL, i_TT, i_TD, i_LN, i_LB, i_LI, i_LS, i_LL, i_LT, i_LD, sizeLine_eq, isS, hs]
    by_cases h1 : 1 ≤ s.length
    · refine Or.inr ⟨by omega, ?_⟩
      by_cases h2 : s.length ≤ 8
      · refine Or.inr ⟨by omega, by rw [signs_len]; omega, ?_⟩
        refine wp_map (fun d => .bool (signB d)) (fun d hd => ?_) ?_
        · unfold signsD at hd
          obtain ⟨c, hc, rfl⟩ := List.mem_map.mp hd
          refine ⟨_, rfl, ?_⟩
          simp [wp_seq, wp_set, wp_sret, wp_sretO, wp_expr, wp_for, wp_sif, wp_mif, wp_mand, wp_mor, wp_mnot, wp_mtest, wp_bnd, wp_ret, wp_some, wp_mcons, wp_nx, wp_bk, wp_ct, wp_asg, wp_mlc, wp_molc, wp_mcomp, wp_callV, wp_callO, wp_macons, wpr_maown, anQ_own, wpr_aug, auQ_val, wpr, rdQ_val, rdQ_own, wpr_rdO, wpr_wrOp, wpr_mopO, wpr_mmut, wpr_setI, owQ_own, wp_setO, wp_tup, wp_lst, wp_olst, wp_list, wp_tuple, wp_range1, wp_range2, wp_part, wp_slice, wp_tru, wp_andV, wp_orV, wp_notV, seqQ_nx, seqQ_rt, seqQ_ro, seqQ_bk, seqQ_ct, gath, scat, scat1, pos, ownAt, clQ_nx, clQ_rt, clQ_ro, lpQ_nx, lpQ_ct, lpQ_bk, lpQ_rt, lpQ_ro, mrg1, q_I0, q_I, q_ixL, q_ixT, q_ixO, q_lenL, q_lenT, q_lenO, q_sum, q_listL, q_listT, q_abs, q_max2, q_min2, q_slL, q_neg, q_append, q_setI, q_cMul, q_cDiv, q_cPos, q_cPow, at0, at1, at2, at3, at4, at5, ix0, ix1, okW, isOwn, wipeR, restR, wp_chain, wp_zip, wp_enum, wp_str, wp_slO, wp_rdON, wp_put, wp_swap, wp_str0, wp_mownS, wp_keys, wp_mdcomp, endQ_nx, endQ_rt, endO_ro, q_isiI, q_isiB, q_isiS, q_isiT, q_isiL, q_isiTL, q_all, q_any, q_ltS, q_addS, q_inS, q_ninS, q_lenS, q_lenD, q_zipT, q_zipL, q_catT, q_catL, q_slT, q_slS, q_tupleL, q_tupleT, q_tupO, q_lstO, q_listNL, q_listNT, q_insert, q_upper, q_nu2I, q_nu2B, q_nu1I, q_nu1B, q_strI, q_strB, q_strS, q_ixA_T, q_ixA_L, q_ixA_S, q_ixS, q_eqII, q_neII, q_eqSS, q_neSS, q_eqBB, q_neBB, q_dgetS, q_dgetI, q_dinS, q_dinI, at6, at7, gT, gsCons, gsNil, gN, keyOfD, someQ_some, someQ_if, someQ_map, q_allM, q_anyM, i_BN, i_BB, i_BI, i_BS, i_BL, i_BT, i_BD, i_IN, i_IB, i_II, i_IS, i_IL, i_IT, i_ID, i_SN, i_SB, i_SI, i_SS, i_SL, i_ST, i_SD, i_TN, i_TB, i_TI, i_TS, i_TL, i_TT, i_TD, i_LN, i_LB, i_LI, i_LS, i_LL, i_LT, i_LD, sizeLine_eq, signB, lowers]
        · simp [wp_seq, wp_set, wp_sret, wp_sretO, wp_expr, wp_for, wp_sif, wp_mif, wp_mand, wp_mor, wp_mnot, wp_mtest, wp_bnd, wp_ret, wp_some, wp_mcons, wp_nx, wp_bk, wp_ct, wp_asg, wp_mlc, wp_molc, wp_mcomp, wp_callV, wp_callO, wp_macons, wpr_maown, anQ_own, wpr_aug, auQ_val, wpr, rdQ_val, rdQ_own, wpr_rdO, wpr_wrOp, wpr_mopO, wpr_mmut, wpr_setI, owQ_own, wp_setO, wp_tup, wp_lst, wp_olst, wp_list, wp_tuple, wp_range1, wp_range2, wp_part, wp_slice, wp_tru, wp_andV, wp_orV, wp_notV, seqQ_nx, seqQ_rt, seqQ_ro, seqQ_bk, seqQ_ct, gath, scat, scat1, pos, ownAt, clQ_nx, clQ_rt, clQ_ro, lpQ_nx, lpQ_ct, lpQ_bk, lpQ_rt, lpQ_ro, mrg1, q_I0, q_I, q_ixL, q_ixT, q_ixO, q_lenL, q_lenT, q_lenO, q_sum, q_listL, q_listT, q_abs, q_max2, q_min2, q_slL, q_neg, q_append, q_setI, q_cMul, q_cDiv, q_cPos, q_cPow, at0, at1, at2, at3, at4, at5, ix0, ix1, okW, isOwn, wipeR, restR, wp_chain, wp_zip, wp_enum, wp_str, wp_slO, wp_rdON, wp_put, wp_swap, wp_str0, wp_mownS, wp_keys, wp_mdcomp, endQ_nx, endQ_rt, endO_ro, q_isiI, q_isiB, q_isiS, q_isiT, q_isiL, q_isiTL, q_all, q_any, q_ltS, q_addS, q_inS, q_ninS, q_lenS, q_lenD, q_zipT, q_zipL, q_catT, q_catL, q_slT, q_slS, q_tupleL, q_tupleT, q_tupO, q_lstO, q_listNL, q_listNT, q_insert, q_upper, q_nu2I, q_nu2B, q_nu1I, q_nu1B, q_strI, q_strB, q_strS, q_ixA_T, q_ixA_L, q_ixA_S, q_ixS, q_eqII, q_neII, q_eqSS, q_neSS, q_eqBB, q_neBB, q_dgetS, q_dgetI, q_dinS, q_dinI, at6, at7, gT, gsCons, gsNil, gN, keyOfD, someQ_some, someQ_if, someQ_map, q_allM, q_anyM, i_BN, i_BB, i_BI, i_BS, i_BL, i_BT, i_BD, i_IN, i_IB, i_II, i_IS, i_IL, i_IT, i_ID, i_SN, i_SB, i_SI, i_SS, i_SL, i_ST, i_SD, i_TN, i_TB, i_TI, i_TS, i_TL, i_TT, i_TD, i_LN, i_LB, i_LI, i_LS, i_LL, i_LT, i_LD, sizeLine_eq]
          rwa [show nameB (.str s) = (signsD s).all signB by simp [nameB, h1, h2]] at h
      · refine Or.inl ⟨by omega, ?_⟩
        rwa [show nameB (.str s) = false by simp [nameB, h2]] at h
    · refine Or.inl ⟨by omega, ?_⟩
      rwa [show nameB (.str s) = false by simp [nameB, h1]] at h
  | _ => simp [m_is_name, wp_seq, wp_set, wp_sret, wp_sretO, wp_expr, wp_for, wp_sif, wp_mif, wp_mand, wp_mor, wp_mnot, wp_mtest, wp_bnd, wp_ret, wp_some, wp_mcons, wp_nx, wp_bk, wp_ct, wp_asg, wp_mlc, wp_molc, wp_mcomp, wp_callV, wp_callO, wp_macons, wpr_maown, anQ_own, wpr_aug, auQ_val, wpr, rdQ_val, rdQ_own, wpr_rdO, wpr_wrOp, wpr_mopO, wpr_mmut, wpr_setI, owQ_own, wp_setO, wp_tup, wp_lst, wp_olst, wp_list, wp_tuple, wp_range1, wp_range2, wp_part, wp_slice, wp_tru, wp_andV, wp_orV, wp_notV, seqQ_nx, seqQ_rt, seqQ_ro, seqQ_bk, seqQ_ct, gath, scat, scat1, pos, ownAt, clQ_nx, clQ_rt, clQ_ro, lpQ_nx, lpQ_ct, lpQ_bk, lpQ_rt, lpQ_ro, mrg1, q_I0, q_I, q_ixL, q_ixT, q_ixO, q_lenL, q_lenT, q_lenO, q_sum, q_listL, q_listT, q_abs, q_max2, q_min2, q_slL, q_neg, q_append, q_setI, q_cMul, q_cDiv, q_cPos, q_cPow, at0, at1, at2, at3, at4, at5, ix0, ix1, okW, isOwn, wipeR, restR, wp_chain, wp_zip, wp_enum, wp_str, wp_slO, wp_rdON, wp_put, wp_swap, wp_str0, wp_mownS, wp_keys, wp_mdcomp, endQ_nx, endQ_rt, endO_ro, q_isiI, q_isiB, q_isiS, q_isiT, q_isiL, q_isiTL, q_all, q_any, q_ltS, q_addS, q_inS, q_ninS, q_lenS, q_lenD, q_zipT, q_zipL, q_catT, q_catL, q_slT, q_slS, q_tupleL, q_tupleT, q_tupO, q_lstO, q_listNL, q_listNT, q_insert, q_upper, q_nu2I, q_nu2B, q_nu1I, q_nu1B, q_strI, q_strB, q_strS, q_ixA_T, q_ixA_L, q_ixA_S, q_ixS, q_eqII, q_neII, q_eqSS, q_neSS, q_eqBB, q_neBB, q_dgetS, q_dgetI, q_dinS, q_dinI, at6, at7, gT, gsCons, gsNil, gN, keyOfD, someQ_some, someQ_if, someQ_map, q_allM, q_anyM, i_BN, i_BB, i_BI, i_BS, i_BL, i_BT, i_BD, i_IN, i_IB, i_II, i_IS, i_IL, i_IT, i_ID, i_SN, i_SB, i_SI, i_SS, i_SL, i_ST, i_SD, i_TN, i_TB, i_TI, i_TS, i_TL, i_TT, i_TD, i_LN, i_LB, i_LI, i_LS, i_LL, i_LT, i_LD, sizeLine_eq, isS]; exact h
end RG
set_option Elab.async false
set_option linter.all false
set_option maxRecDepth 100000
set_option maxHeartbeats 2000000
/-! RGc: stores, trees: what is_store, way_up, is_tree tell -/
namespace RG
open PySem PySem.Spec PyProof.Rows L2 DL
/-! ### data of bounded size -/
mutual
def good : D → Bool
  | .none => true
  | .bool _ => true
  | .int _ => true
  | .str s => decide (s.length ≤ 1000000) && s.cps.toList.all fun c => decide (c < 128)
  | .list ds => decide (ds.length ≤ 1000000) && goodAll ds
  | .tuple ds => decide (ds.length ≤ 1000000) && goodAll ds
  | .dict _ => false
def goodAll : List D → Bool
  | [] => true
  | d :: ds => good d && goodAll ds
end
theorem goodAll_iff : ∀ {ds : List D}, goodAll ds = true ↔ ∀ d ∈ ds, good d = true
  | [] => by simp [goodAll]
  | d :: ds => by rw [goodAll, Bool.and_eq_true, goodAll_iff]; simp
theorem good_tup {ds : List D} (h : good (.tuple ds) = true) : ds.length ≤ 1000000 ∧ ∀ d ∈ ds, good d = true := by
  unfold good at h
  rw [Bool.and_eq_true, goodAll_iff] at h
  exact ⟨of_decide_eq_true h.1, h.2⟩
theorem good_lst {ds : List D} (h : good (.list ds) = true) : ds.length ≤ 1000000 ∧ ∀ d ∈ ds, good d = true := by
  unfold good at h
  rw [Bool.and_eq_true, goodAll_iff] at h
  exact ⟨of_decide_eq_true h.1, h.2⟩
theorem good_str {s : PySem.Str} (h : good (.str s) = true) : s.length ≤ 1000000 ∧ ∀ c ∈ s.cps.toList, c < 128 := by
  unfold good at h
  rw [Bool.and_eq_true, List.all_eq_true] at h
  exact ⟨of_decide_eq_true h.1, fun c hc => of_decide_eq_true (h.2 c hc)⟩
theorem good_len {d : D} (h : good d = true) : lenOk d = true := by
  cases d with
  | str s =>
    have := (good_str h).1
    exact decide_eq_true (by rw [sizeLine_eq]; omega)
  | _ => rfl
theorem good_strOk {s : PySem.Str} (h : good (.str s) = true) : PyData.strOk s = true := by
  unfold PyData.strOk
  rw [← Array.all_toList, List.all_eq_true]
  intro c hc
  have := (good_str h).2 c hc
  exact decide_eq_true (by omega)
/-! ### stores -/
def storeB : D → Bool
  | .tuple [n, a, dl, b, st, w] => nameB n && (isS a && (withinB 1 9 dl && (isB w && (withinB 0 200 b && withinB 0 200 st))))
  | _ => false
theorem store_step {d : D} (hg : good d = true) {Q : D → List (Sl Empty) → Prop} (h : Q (.bool (storeB d)) [.val d]) : callQ g_is_store [.val d] Q := by
  refine call_close ?_
  cases d with
  | tuple ds =>
    obtain ⟨hl, hd⟩ := good_tup hg
    have hx : ∀ n : Nat, n ≠ 6 → ds.length = n → Q (.bool false) [.val (.tuple ds)] := fun n hn hl => by
      have : storeB (.tuple ds) = false := by
        unfold storeB
        split
        · rename_i e; cases e; exact absurd hl.symm hn
        · rfl
      rwa [this] at h
    by_cases h6 : ds.length = 6
    · match ds, h6 with
      | [n, a, dl, b, st, w], _ =>
        have hn := good_len (hd n (by simp))
        have e : storeB (.tuple [n, a, dl, b, st, w]) = (nameB n && (isS a && (withinB 1 9 dl && (isB w && (withinB 0 200 b && withinB 0 200 st))))) := rfl
        rw [e] at h
        simp [m_is_store, wp_seq, wp_set, wp_sret, wp_sretO, wp_expr, wp_for, wp_sif, wp_mif, wp_mand, wp_mor, wp_mnot, wp_mtest, wp_bnd, wp_ret, wp_some, wp_mcons, wp_nx, wp_bk, wp_ct, wp_asg, wp_mlc, wp_molc, wp_mcomp, wp_callV, wp_callO, wp_macons, wpr_maown, anQ_own, wpr_aug, auQ_val, wpr, rdQ_val, rdQ_own, wpr_rdO, wpr_wrOp, wpr_mopO, wpr_mmut, wpr_setI, owQ_own, wp_setO, wp_tup, wp_lst, wp_olst, wp_list, wp_tuple, wp_range1, wp_range2, wp_part, wp_slice, wp_tru, wp_andV, wp_orV, wp_notV, seqQ_nx, seqQ_rt, seqQ_ro, seqQ_bk, seqQ_ct, gath, scat, scat1, pos, ownAt, clQ_nx, clQ_rt, clQ_ro, lpQ_nx, lpQ_ct, lpQ_bk, lpQ_rt, lpQ_ro, mrg1, q_I0, q_I, q_ixL, q_ixT, q_ixO, q_lenL, q_lenT, q_lenO, q_sum, q_listL, q_listT, q_abs, q_max2, q_min2, q_slL, q_neg, q_append, q_setI, q_cMul, q_cDiv, q_cPos, q_cPow, at0, at1, at2, at3, at4, at5, ix0, ix1, okW, isOwn, wipeR, restR, wp_chain, wp_zip, wp_enum, wp_str, wp_slO, wp_rdON, wp_put, wp_swap, wp_str0, wp_mownS, wp_keys, wp_mdcomp, endQ_nx, endQ_rt, endO_ro, q_isiI, q_isiB, q_isiS, q_isiT, q_isiL, q_isiTL, q_all, q_any, q_ltS, q_addS, q_inS, q_ninS, q_lenS, q_lenD, q_zipT, q_zipL, q_catT, q_catL, q_slT, q_slS, q_tupleL, q_tupleT, q_tupO, q_lstO, q_listNL, q_listNT, q_insert, q_upper, q_nu2I, q_nu2B, q_nu1I, q_nu1B, q_strI, q_strB, q_strS, q_ixA_T, q_ixA_L, q_ixA_S, q_ixS, q_eqII, q_neII, q_eqSS, q_neSS, q_eqBB, q_neBB, q_dgetS, q_dgetI, q_dinS, q_dinI, at6, at7, gT, gsCons, gsNil, gN, keyOfD, someQ_some, someQ_if, someQ_map, q_allM, q_anyM, i_BN, i_BB, i_BI, i_BS, i_BL, i_BT, i_BD, i_IN, i_IB, i_II, i_IS, i_IL, i_IT, i_ID, i_SN, i_SB, i_SI, i_SS, i_SL, i_ST, i_SD, i_TN, i_TB, i_TI, i_TS, i_TL, i_TT, i_TD, i_LN, i_LB, i_LI, i_LS, i_LL, i_LT, i_LD, sizeLine_eq, isT]
        refine name_step hn ?_
        cases hb : nameB n
        · rw [hb, Bool.false_and] at h; simp [wp_seq, wp_set, wp_sret, wp_sretO, wp_expr, wp_for, wp_sif, wp_mif, wp_mand, wp_mor, wp_mnot, wp_mtest, wp_bnd, wp_ret, wp_some, wp_mcons, wp_nx, wp_bk, wp_ct, wp_asg, wp_mlc, wp_molc, wp_mcomp, wp_callV, wp_callO, wp_macons, wpr_maown, anQ_own, wpr_aug, auQ_val, wpr, rdQ_val, rdQ_own, wpr_rdO, wpr_wrOp, wpr_mopO, wpr_mmut, wpr_setI, owQ_own, wp_setO, wp_tup, wp_lst, wp_olst, wp_list, wp_tuple, wp_range1, wp_range2, wp_part, wp_slice, wp_tru, wp_andV, wp_orV, wp_notV, seqQ_nx, seqQ_rt, seqQ_ro, seqQ_bk, seqQ_ct, gath, scat, scat1, pos, ownAt, clQ_nx, clQ_rt, clQ_ro, lpQ_nx, lpQ_ct, lpQ_bk, lpQ_rt, lpQ_ro, mrg1, q_I0, q_I, q_ixL, q_ixT, q_ixO, q_lenL, q_lenT, q_lenO, q_sum, q_listL, q_listT, q_abs, q_max2, q_min2, q_slL, q_neg, q_append, q_setI, q_cMul, q_cDiv, q_cPos, q_cPow, at0, at1, at2, at3, at4, at5, ix0, ix1, okW, isOwn, wipeR, restR, wp_chain, wp_zip, wp_enum, wp_str, wp_slO, wp_rdON, wp_put, wp_swap, wp_str0, wp_mownS, wp_keys, wp_mdcomp, endQ_nx, endQ_rt, endO_ro, q_isiI, q_isiB, q_isiS, q_isiT, q_isiL, q_isiTL, q_all, q_any, q_ltS, q_addS, q_inS, q_ninS, q_lenS, q_lenD, q_zipT, q_zipL, q_catT, q_catL, q_slT, q_slS, q_tupleL, q_tupleT, q_tupO, q_lstO, q_listNL, q_listNT, q_insert, q_upper, q_nu2I, q_nu2B, q_nu1I, q_nu1B, q_strI, q_strB, q_strS, q_ixA_T, q_ixA_L, q_ixA_S, q_ixS, q_eqII, q_neII, q_eqSS, q_neSS, q_eqBB, q_neBB, q_dgetS, q_dgetI, q_dinS, q_dinI, at6, at7, gT, gsCons, gsNil, gN, keyOfD, someQ_some, someQ_if, someQ_map, q_allM, q_anyM, i_BN, i_BB, i_BI, i_BS, i_BL, i_BT, i_BD, i_IN, i_IB, i_II, i_IS, i_IL, i_IT, i_ID, i_SN, i_SB, i_SI, i_SS, i_SL, i_ST, i_SD, i_TN, i_TB, i_TI, i_TS, i_TL, i_TT, i_TD, i_LN, i_LB, i_LI, i_LS, i_LL, i_LT, i_LD, sizeLine_eq]; exact h
        rw [hb, Bool.true_and] at h
        simp [wp_seq, wp_set, wp_sret, wp_sretO, wp_expr, wp_for, wp_sif, wp_mif, wp_mand, wp_mor, wp_mnot, wp_mtest, wp_bnd, wp_ret, wp_some, wp_mcons, wp_nx, wp_bk, wp_ct, wp_asg, wp_mlc, wp_molc, wp_mcomp, wp_callV, wp_callO, wp_macons, wpr_maown, anQ_own, wpr_aug, auQ_val, wpr, rdQ_val, rdQ_own, wpr_rdO, wpr_wrOp, wpr_mopO, wpr_mmut, wpr_setI, owQ_own, wp_setO, wp_tup, wp_lst, wp_olst, wp_list, wp_tuple, wp_range1, wp_range2, wp_part, wp_slice, wp_tru, wp_andV, wp_orV, wp_notV, seqQ_nx, seqQ_rt, seqQ_ro, seqQ_bk, seqQ_ct, gath, scat, scat1, pos, ownAt, clQ_nx, clQ_rt, clQ_ro, lpQ_nx, lpQ_ct, lpQ_bk, lpQ_rt, lpQ_ro, mrg1, q_I0, q_I, q_ixL, q_ixT, q_ixO, q_lenL, q_lenT, q_lenO, q_sum, q_listL, q_listT, q_abs, q_max2, q_min2, q_slL, q_neg, q_append, q_setI, q_cMul, q_cDiv, q_cPos, q_cPow, at0, at1, at2, at3, at4, at5, ix0, ix1, okW, isOwn, wipeR, restR, wp_chain, wp_zip, wp_enum, wp_str, wp_slO, wp_rdON, wp_put, wp_swap, wp_str0, wp_mownS, wp_keys, wp_mdcomp, endQ_nx, endQ_rt, endO_ro, q_isiI, q_isiB, q_isiS, q_isiT, q_isiL, q_isiTL, q_all, q_any, q_ltS, q_addS, q_inS, q_ninS, q_lenS, q_lenD, q_zipT, q_zipL, q_catT, q_catL, q_slT, q_slS, q_tupleL, q_tupleT, q_tupO, q_lstO, q_listNL, q_listNT, q_insert, q_upper, q_nu2I, q_nu2B, q_nu1I, q_nu1B, q_strI, q_strB, q_strS, q_ixA_T, q_ixA_L, q_ixA_S, q_ixS, q_eqII, q_neII, q_eqSS, q_neSS, q_eqBB, q_neBB, q_dgetS, q_dgetI, q_dinS, q_dinI, at6, at7, gT, gsCons, gsNil, gN, keyOfD, someQ_some, someQ_if, someQ_map, q_allM, q_anyM, i_BN, i_BB, i_BI, i_BS, i_BL, i_BT, i_BD, i_IN, i_IB, i_II, i_IS, i_IL, i_IT, i_ID, i_SN, i_SB, i_SI, i_SS, i_SL, i_ST, i_SD, i_TN, i_TB, i_TI, i_TS, i_TL, i_TT, i_TD, i_LN, i_LB, i_LI, i_LS, i_LL, i_LT, i_LD, sizeLine_eq]
        cases ha : isS a
        · rw [ha, Bool.false_and] at h; simp [wp_seq, wp_set, wp_sret, wp_sretO, wp_expr, wp_for, wp_sif, wp_mif, wp_mand, wp_mor, wp_mnot, wp_mtest, wp_bnd, wp_ret, wp_some, wp_mcons, wp_nx, wp_bk, wp_ct, wp_asg, wp_mlc, wp_molc, wp_mcomp, wp_callV, wp_callO, wp_macons, wpr_maown, anQ_own, wpr_aug, auQ_val, wpr, rdQ_val, rdQ_own, wpr_rdO, wpr_wrOp, wpr_mopO, wpr_mmut, wpr_setI, owQ_own, wp_setO, wp_tup, wp_lst, wp_olst, wp_list, wp_tuple, wp_range1, wp_range2, wp_part, wp_slice, wp_tru, wp_andV, wp_orV, wp_notV, seqQ_nx, seqQ_rt, seqQ_ro, seqQ_bk, seqQ_ct, gath, scat, scat1, pos, ownAt, clQ_nx, clQ_rt, clQ_ro, lpQ_nx, lpQ_ct, lpQ_bk, lpQ_rt, lpQ_ro, mrg1, q_I0, q_I, q_ixL, q_ixT, q_ixO, q_lenL, q_lenT, q_lenO, q_sum, q_listL, q_listT, q_abs, q_max2, q_min2, q_slL, q_neg, q_append, q_setI, q_cMul, q_cDiv, q_cPos, q_cPow, at0, at1, at2, at3, at4, at5, ix0, ix1, okW, isOwn, wipeR, restR, wp_chain, wp_zip, wp_enum, wp_str, wp_slO, wp_rdON, wp_put, wp_swap, wp_str0, wp_mownS, wp_keys, wp_mdcomp, endQ_nx, endQ_rt, endO_ro, q_isiI, q_isiB, q_isiS, q_isiT, q_isiL, q_isiTL, q_all, q_any, q_ltS, q_addS, q_inS, q_ninS, q_lenS, q_lenD, q_zipT, q_zipL, q_catT, q_catL, q_slT, q_slS, q_tupleL, q_tupleT, q_tupO, q_lstO, q_listNL, q_listNT, q_insert, q_upper, q_nu2I, q_nu2B, q_nu1I, q_nu1B, q_strI, q_strB, q_strS, q_ixA_T, q_ixA_L, q_ixA_S, q_ixS, q_eqII, q_neII, q_eqSS, q_neSS, q_eqBB, q_neBB, q_dgetS, q_dgetI, q_dinS, q_dinI, at6, at7, gT, gsCons, gsNil, gN, keyOfD, someQ_some, someQ_if, someQ_map, q_allM, q_anyM, i_BN, i_BB, i_BI, i_BS, i_BL, i_BT, i_BD, i_IN, i_IB, i_II, i_IS, i_IL, i_IT, i_ID, i_SN, i_SB, i_SI, i_SS, i_SL, i_ST, i_SD, i_TN, i_TB, i_TI, i_TS, i_TL, i_TT, i_TD, i_LN, i_LB, i_LI, i_LS, i_LL, i_LT, i_LD, sizeLine_eq]; exact h
        rw [ha, Bool.true_and] at h
        simp [wp_seq, wp_set, wp_sret, wp_sretO, wp_expr, wp_for, wp_sif, wp_mif, wp_mand, wp_mor, wp_mnot, wp_mtest, wp_bnd, wp_ret, wp_some, wp_mcons, wp_nx, wp_bk, wp_ct, wp_asg, wp_mlc, wp_molc, wp_mcomp, wp_callV, wp_callO, wp_macons, wpr_maown, anQ_own, wpr_aug, auQ_val, wpr, rdQ_val, rdQ_own, wpr_rdO, wpr_wrOp, wpr_mopO, wpr_mmut, wpr_setI, owQ_own, wp_setO, wp_tup, wp_lst, wp_olst, wp_list, wp_tuple, wp_range1, wp_range2, wp_part, wp_slice, wp_tru, wp_andV, wp_orV, wp_notV, seqQ_nx, seqQ_rt, seqQ_ro, seqQ_bk, seqQ_ct, gath, scat, scat1, pos, ownAt, clQ_nx, clQ_rt, clQ_ro, lpQ_nx, lpQ_ct, lpQ_bk, lpQ_rt, lpQ_ro, mrg1, q_I0, q_I, q_ixL, q_ixT, q_ixO, q_lenL, q_lenT, q_lenO, q_sum, q_listL, q_listT, q_abs, q_max2, q_min2, q_slL, q_neg, q_append, q_setI, q_cMul, q_cDiv, q_cPos, q_cPow, at0, at1, at2, at3, at4, at5, ix0, ix1, okW, isOwn, wipeR, restR, wp_chain, wp_zip, wp_enum, wp_str, wp_slO, wp_rdON, wp_put, wp_swap, wp_str0, wp_mownS, wp_keys, wp_mdcomp, endQ_nx, endQ_rt, endO_ro, q_isiI, q_isiB, q_isiS, q_isiT, q_isiL, q_isiTL, q_all, q_any, q_ltS, q_addS, q_inS, q_ninS, q_lenS, q_lenD, q_zipT, q_zipL, q_catT, q_catL, q_slT, q_slS, q_tupleL, q_tupleT, q_tupO, q_lstO, q_listNL, q_listNT, q_insert, q_upper, q_nu2I, q_nu2B, q_nu1I, q_nu1B, q_strI, q_strB, q_strS, q_ixA_T, q_ixA_L, q_ixA_S, q_ixS, q_eqII, q_neII, q_eqSS, q_neSS, q_eqBB, q_neBB, q_dgetS, q_dgetI, q_dinS, q_dinI, at6, at7, gT, gsCons, gsNil, gN, keyOfD, someQ_some, someQ_if, someQ_map, q_allM, q_anyM, i_BN, i_BB, i_BI, i_BS, i_BL, i_BT, i_BD, i_IN, i_IB, i_II, i_IS, i_IL, i_IT, i_ID, i_SN, i_SB, i_SI, i_SS, i_SL, i_ST, i_SD, i_TN, i_TB, i_TI, i_TS, i_TL, i_TT, i_TD, i_LN, i_LB, i_LI, i_LS, i_LL, i_LT, i_LD, sizeLine_eq]
        refine within_step ?_
        cases hdl : withinB 1 9 dl
        · rw [hdl, Bool.false_and] at h; simp [wp_seq, wp_set, wp_sret, wp_sretO, wp_expr, wp_for, wp_sif, wp_mif, wp_mand, wp_mor, wp_mnot, wp_mtest, wp_bnd, wp_ret, wp_some, wp_mcons, wp_nx, wp_bk, wp_ct, wp_asg, wp_mlc, wp_molc, wp_mcomp, wp_callV, wp_callO, wp_macons, wpr_maown, anQ_own, wpr_aug, auQ_val, wpr, rdQ_val, rdQ_own, wpr_rdO, wpr_wrOp, wpr_mopO, wpr_mmut, wpr_setI, owQ_own, wp_setO, wp_tup, wp_lst, wp_olst, wp_list, wp_tuple, wp_range1, wp_range2, wp_part, wp_slice, wp_tru, wp_andV, wp_orV, wp_notV, seqQ_nx, seqQ_rt, seqQ_ro, seqQ_bk, seqQ_ct, gath, scat, scat1, pos, ownAt, clQ_nx, clQ_rt, clQ_ro, lpQ_nx, lpQ_ct, lpQ_bk, lpQ_rt, lpQ_ro, mrg1, q_I0, q_I, q_ixL, q_ixT, q_ixO, q_lenL, q_lenT, q_lenO, q_sum, q_listL, q_listT, q_abs, q_max2, q_min2, q_slL, q_neg, q_append, q_setI, q_cMul, q_cDiv, q_cPos, q_cPow, at0, at1, at2, at3, at4, at5, ix0, ix1, okW, isOwn, wipeR, restR, wp_chain, wp_zip, wp_enum, wp_str, wp_slO, wp_rdON, wp_put, wp_swap, wp_str0, wp_mownS, wp_keys, wp_mdcomp, endQ_nx, endQ_rt, endO_ro, q_isiI, q_isiB, q_isiS, q_isiT, q_isiL, q_isiTL, q_all, q_any, q_ltS, q_addS, q_inS, q_ninS, q_lenS, q_lenD, q_zipT, q_zipL, q_catT, q_catL, q_slT, q_slS, q_tupleL, q_tupleT, q_tupO, q_lstO, q_listNL, q_listNT, q_insert, q_upper, q_nu2I, q_nu2B, q_nu1I, q_nu1B, q_strI, q_strB, q_strS, q_ixA_T, q_ixA_L, q_ixA_S, q_ixS, q_eqII, q_neII, q_eqSS, q_neSS, q_eqBB, q_neBB, q_dgetS, q_dgetI, q_dinS, q_dinI, at6, at7, gT, gsCons, gsNil, gN, keyOfD, someQ_some, someQ_if, someQ_map, q_allM, q_anyM, i_BN, i_BB, i_BI, i_BS, i_BL, i_BT, i_BD, i_IN, i_IB, i_II, i_IS, i_IL, i_IT, i_ID, i_SN, i_SB, i_SI, i_SS, i_SL, i_ST, i_SD, i_TN, i_TB, i_TI, i_TS, i_TL, i_TT, i_TD, i_LN, i_LB, i_LI, i_LS, i_LL, i_LT, i_LD, sizeLine_eq]; exact h
        rw [hdl, Bool.true_and] at h
        simp [wp_seq, wp_set, wp_sret, wp_sretO, wp_expr, wp_for, wp_sif, wp_mif, wp_mand, wp_mor, wp_mnot, wp_mtest, wp_bnd, wp_ret, wp_some, wp_mcons, wp_nx, wp_bk, wp_ct, wp_asg, wp_mlc, wp_molc, wp_mcomp, wp_callV, wp_callO, wp_macons, wpr_maown, anQ_own, wpr_aug, auQ_val, wpr, rdQ_val, rdQ_own, wpr_rdO, wpr_wrOp, wpr_mopO, wpr_mmut, wpr_setI, owQ_own, wp_setO, wp_tup, wp_lst, wp_olst, wp_list, wp_tuple, wp_range1, wp_range2, wp_part, wp_slice, wp_tru, wp_andV, wp_orV, wp_notV, seqQ_nx, seqQ_rt, seqQ_ro, seqQ_bk, seqQ_ct, gath, scat, scat1, pos, ownAt, clQ_nx, clQ_rt, clQ_ro, lpQ_nx, lpQ_ct, lpQ_bk, lpQ_rt, lpQ_ro, mrg1, q_I0, q_I, q_ixL, q_ixT, q_ixO, q_lenL, q_lenT, q_lenO, q_sum, q_listL, q_listT, q_abs, q_max2, q_min2, q_slL, q_neg, q_append, q_setI, q_cMul, q_cDiv, q_cPos, q_cPow, at0, at1, at2, at3, at4, at5, ix0, ix1, okW, isOwn, wipeR, restR, wp_chain, wp_zip, wp_enum, wp_str, wp_slO, wp_rdON, wp_put, wp_swap, wp_str0, wp_mownS, wp_keys, wp_mdcomp, endQ_nx, endQ_rt, endO_ro, q_isiI, q_isiB, q_isiS, q_isiT, q_isiL, q_isiTL, q_all, q_any, q_ltS, q_addS, q_inS, q_ninS, q_lenS, q_lenD, q_zipT, q_zipL, q_catT, q_catL, q_slT, q_slS, q_tupleL, q_tupleT, q_tupO, q_lstO, q_listNL, q_listNT, q_insert, q_upper, q_nu2I, q_nu2B, q_nu1I, q_nu1B, q_strI, q_strB, q_strS, q_ixA_T, q_ixA_L, q_ixA_S, q_ixS, q_eqII, q_neII, q_eqSS, q_neSS, q_eqBB, q_neBB, q_dgetS, q_dgetI, q_dinS, q_dinI, at6, at7, gT, gsCons, gsNil, gN, keyOfD, someQ_some, someQ_if, someQ_map, q_allM, q_anyM, i_BN, i_BB, i_BI, i_BS, i_BL, i_BT, i_BD, i_IN, i_IB, i_II, i_IS, i_IL, i_IT, i_ID, i_SN, i_SB, i_SI, i_SS, i_SL, i_ST, i_SD, i_TN, i_TB, i_TI, i_TS, i_TL, i_TT, i_TD, i_LN, i_LB, i_LI, i_LS, i_LL, i_LT, i_LD, sizeLine_eq]
        cases hw : isB w
        · rw [hw, Bool.false_and] at h; simp [wp_seq, wp_set, wp_sret, wp_sretO, wp_expr, wp_for, wp_sif, wp_mif, wp_mand, wp_mor, wp_mnot, wp_mtest, wp_bnd, wp_ret, wp_some, wp_mcons, wp_nx, wp_bk, wp_ct, wp_asg, wp_mlc, wp_molc, wp_mcomp, wp_callV, wp_callO, wp_macons, wpr_maown, anQ_own, wpr_aug, auQ_val, wpr, rdQ_val, rdQ_own, wpr_rdO, wpr_wrOp, wpr_mopO, wpr_mmut, wpr_setI, owQ_own, wp_setO, wp_tup, wp_lst, wp_olst, wp_list, wp_tuple, wp_range1, wp_range2, wp_part, wp_slice, wp_tru, wp_andV, wp_orV, wp_notV, seqQ_nx, seqQ_rt, seqQ_ro, seqQ_bk, seqQ_ct, gath, scat, scat1, pos, ownAt, clQ_nx, clQ_rt, clQ_ro, lpQ_nx, lpQ_ct, lpQ_bk, lpQ_rt, lpQ_ro, mrg1, q_I0, q_I, q_ixL, q_ixT, q_ixO, q_lenL, q_lenT, q_lenO, q_sum, q_listL, q_listT, q_abs, q_max2, q_min2, q_slL, q_neg, q_append, q_setI, q_cMul, q_cDiv, q_cPos, q_cPow, at0, at1, at2, at3, at4, at5, ix0, ix1, okW, isOwn, wipeR, restR, wp_chain, wp_zip, wp_enum, wp_str, wp_slO, wp_rdON, wp_put, wp_swap, wp_str0, wp_mownS, wp_keys, wp_mdcomp, endQ_nx, endQ_rt, endO_ro, q_isiI, q_isiB, q_isiS, q_isiT, q_isiL, q_isiTL, q_all, q_any, q_ltS, q_addS, q_inS, q_ninS, q_lenS, q_lenD, q_zipT, q_zipL, q_catT, q_catL, q_slT, q_slS, q_tupleL, q_tupleT, q_tupO, q_lstO, q_listNL, q_listNT, q_insert, q_upper, q_nu2I, q_nu2B, q_nu1I, q_nu1B, q_strI, q_strB, q_strS, q_ixA_T, q_ixA_L, q_ixA_S, q_ixS, q_eqII, q_neII, q_eqSS, q_neSS, q_eqBB, q_neBB, q_dgetS, q_dgetI, q_dinS, q_dinI, at6, at7, gT, gsCons, gsNil, gN, keyOfD, someQ_some, someQ_if, someQ_map, q_allM, q_anyM, i_BN, i_BB, i_BI, i_BS, i_BL, i_BT, i_BD, i_IN, i_IB, i_II, i_IS, i_IL, i_IT, i_ID, i_SN, i_SB, i_SI, i_SS, i_SL, i_ST, i_SD, i_TN, i_TB, i_TI, i_TS, i_TL, i_TT, i_TD, i_LN, i_LB, i_LI, i_LS, i_LL, i_LT, i_LD, sizeLine_eq]; exact h
        rw [hw, Bool.true_and] at h
        simp [wp_seq, wp_set, wp_sret, wp_sretO, wp_expr, wp_for, wp_sif, wp_mif, wp_mand, wp_mor, wp_mnot, wp_mtest, wp_bnd, wp_ret, wp_some, wp_mcons, wp_nx, wp_bk, wp_ct, wp_asg, wp_mlc, wp_molc, wp_mcomp, wp_callV, wp_callO, wp_macons, wpr_maown, anQ_own, wpr_aug, auQ_val, wpr, rdQ_val, rdQ_own, wpr_rdO, wpr_wrOp, wpr_mopO, wpr_mmut, wpr_setI, owQ_own, wp_setO, wp_tup, wp_lst, wp_olst, wp_list, wp_tuple, wp_range1, wp_range2, wp_part, wp_slice, wp_tru, wp_andV, wp_orV, wp_notV, seqQ_nx, seqQ_rt, seqQ_ro, seqQ_bk, seqQ_ct, gath, scat, scat1, pos, ownAt, clQ_nx, clQ_rt, clQ_ro, lpQ_nx, lpQ_ct, lpQ_bk, lpQ_rt, lpQ_ro, mrg1, q_I0, q_I, q_ixL, q_ixT, q_ixO, q_lenL, q_lenT, q_lenO, q_sum, q_listL, q_listT, q_abs, q_max2, q_min2, q_slL, q_neg, q_append, q_setI, q_cMul, q_cDiv, q_cPos, q_cPow, at0, at1, at2, at3, at4, at5, ix0, ix1, okW, isOwn, wipeR, restR, wp_chain, wp_zip, wp_enum, wp_str, wp_slO, wp_rdON, wp_put, wp_swap, wp_str0, wp_mownS, wp_keys, wp_mdcomp, endQ_nx, endQ_rt, endO_ro, q_isiI, q_isiB, q_isiS, q_isiT, q_isiL, q_isiTL, q_all, q_any, q_ltS, q_addS, q_inS, q_ninS, q_lenS, q_lenD, q_zipT, q_zipL, q_catT, q_catL, q_slT, q_slS, q_tupleL, q_tupleT, q_tupO, q_lstO, q_listNL, q_listNT, q_insert, q_upper, q_nu2I, q_nu2B, q_nu1I, q_nu1B, q_strI, q_strB, q_strS, q_ixA_T, q_ixA_L, q_ixA_S, q_ixS, q_eqII, q_neII, q_eqSS, q_neSS, q_eqBB, q_neBB, q_dgetS, q_dgetI, q_dinS, q_dinI, at6, at7, gT, gsCons, gsNil, gN, keyOfD, someQ_some, someQ_if, someQ_map, q_allM, q_anyM, i_BN, i_BB, i_BI, i_BS, i_BL, i_BT, i_BD, i_IN, i_IB, i_II, i_IS, i_IL, i_IT, i_ID, i_SN, i_SB, i_SI, i_SS, i_SL, i_ST, i_SD, i_TN, i_TB, i_TI, i_TS, i_TL, i_TT, i_TD, i_LN, i_LB, i_LI, i_LS, i_LL, i_LT, i_LD, sizeLine_eq]
        refine within_step ?_
        cases hbb : withinB 0 200 b
        · rw [hbb, Bool.false_and] at h; simp [wp_seq, wp_set, wp_sret, wp_sretO, wp_expr, wp_for, wp_sif, wp_mif, wp_mand, wp_mor, wp_mnot, wp_mtest, wp_bnd, wp_ret, wp_some, wp_mcons, wp_nx, wp_bk, wp_ct, wp_asg, wp_mlc, wp_molc, wp_mcomp, wp_callV, wp_callO, wp_macons, wpr_maown, anQ_own, wpr_aug, auQ_val, wpr, rdQ_val, rdQ_own, wpr_rdO, wpr_wrOp, wpr_mopO, wpr_mmut, wpr_setI, owQ_own, wp_setO, wp_tup, wp_lst, wp_olst, wp_list, wp_tuple, wp_range1, wp_range2, wp_part, wp_slice, wp_tru, wp_andV, wp_orV, wp_notV, seqQ_nx, seqQ_rt, seqQ_ro, seqQ_bk, seqQ_ct, gath, scat, scat1, pos, ownAt, clQ_nx, clQ_rt, clQ_ro, lpQ_nx, lpQ_ct, lpQ_bk, lpQ_rt, lpQ_ro, mrg1, q_I0, q_I, q_ixL, q_ixT, q_ixO, q_lenL, q_lenT, q_lenO, q_sum, q_listL, q_listT, q_abs, q_max2, q_min2, q_slL, q_neg, q_append, q_setI, q_cMul, q_cDiv, q_cPos, q_cPow, at0, at1, at2, at3, at4, at5, ix0, ix1, okW, isOwn, wipeR, restR, wp_chain, wp_zip, wp_enum, wp_str, wp_slO, wp_rdON, wp_put, wp_swap, wp_str0, wp_mownS, wp_keys, wp_mdcomp, endQ_nx, endQ_rt, endO_ro, q_isiI, q_isiB, q_isiS, q_isiT, q_isiL, q_isiTL, q_all, q_any, q_ltS, q_addS, q_inS, q_ninS, q_lenS, q_lenD, q_zipT, q_zipL, q_catT, q_catL, q_slT, q_slS, q_tupleL, q_tupleT, q_tupO, q_lstO, q_listNL, q_listNT, q_insert, q_upper, q_nu2I, q_nu2B, q_nu1I, q_nu1B, q_strI, q_strB, q_strS, q_ixA_T, q_ixA_L, q_ixA_S, q_ixS, q_eqII, q_neII, q_eqSS, q_neSS, q_eqBB, q_neBB, q_dgetS, q_dgetI, q_dinS, q_dinI, at6, at7, gT, gsCons, gsNil, gN, keyOfD, someQ_some, someQ_if, someQ_map, q_allM, q_anyM, i_BN, i_BB, i_BI, i_BS, i_BL, i_BT, i_BD, i_IN, i_IB, i_II, i_IS, i_IL, i_IT, i_ID, i_SN, i_SB, i_SI, i_SS, i_SL, i_ST, i_SD, i_TN, i_TB, i_TI, i_TS, i_TL, i_TT, i_TD, i_LN, i_LB, i_LI, i_LS, i_LL, i_LT, i_LD, sizeLine_eq]; exact h
        rw [hbb, Bool.true_and] at h
        simp [wp_seq, wp_set, wp_sret, wp_sretO, wp_expr, wp_for, wp_sif, wp_mif, wp_mand, wp_mor, wp_mnot, wp_mtest, wp_bnd, wp_ret, wp_some, wp_mcons, wp_nx, wp_bk, wp_ct, wp_asg, wp_mlc, wp_molc, wp_mcomp, wp_callV, wp_callO, wp_macons, wpr_maown, anQ_own, wpr_aug, auQ_val, wpr, rdQ_val, rdQ_own, wpr_rdO, wpr_wrOp, wpr_mopO, wpr_mmut, wpr_setI, owQ_own, wp_setO, wp_tup, wp_lst, wp_olst, wp_list, wp_tuple, wp_range1, wp_range2, wp_part, wp_slice, wp_tru, wp_andV, wp_orV, wp_notV, seqQ_nx, seqQ_rt, seqQ_ro, seqQ_bk, seqQ_ct, gath, scat, scat1, pos, ownAt, clQ_nx, clQ_rt, clQ_ro, lpQ_nx, lpQ_ct, lpQ_bk, lpQ_rt, lpQ_ro, mrg1, q_I0, q_I, q_ixL, q_ixT, q_ixO, q_lenL, q_lenT, q_lenO, q_sum, q_listL, q_listT, q_abs, q_max2, q_min2, q_slL, q_neg, q_append, q_setI, q_cMul, q_cDiv, q_cPos, q_cPow, at0, at1, at2, at3, at4, at5, ix0, ix1, okW, isOwn, wipeR, restR, wp_chain, wp_zip, wp_enum, wp_str, wp_slO, wp_rdON, wp_put, wp_swap, wp_str0, wp_mownS, wp_keys, wp_mdcomp, endQ_nx, endQ_rt, endO_ro, q_isiI, q_isiB, q_isiS, q_isiT, q_isiL, q_isiTL, q_all, q_any, q_ltS, q_addS, q_inS, q_ninS, q_lenS, q_lenD, q_zipT, q_zipL, q_catT, q_catL, q_slT, q_slS, q_tupleL, q_tupleT, q_tupO, q_lstO, q_listNL, q_listNT, q_insert, q_upper, q_nu2I, q_nu2B, q_nu1I, q_nu1B, q_strI, q_strB, q_strS, q_ixA_T, q_ixA_L, q_ixA_S, q_ixS, q_eqII, q_neII, q_eqSS, q_neSS, q_eqBB, q_neBB, q_dgetS, q_dgetI, q_dinS, q_dinI, at6, at7, gT, gsCons, gsNil, gN, keyOfD, someQ_some, someQ_if, someQ_map, q_allM, q_anyM, i_BN, i_BB, i_BI, i_BS, i_BL, i_BT, i_BD, i_IN, i_IB, i_II, i_IS, i_IL, i_IT, i_ID, i_SN, i_SB, i_SI, i_SS, i_SL, i_ST, i_SD, i_TN, i_TB, i_TI, i_TS, i_TL, i_TT, i_TD, i_LN, i_LB, i_LI, i_LS, i_LL, i_LT, i_LD, sizeLine_eq]
        exact within_step h
    · have h7 : ¬ ((ds.length : Int) = 6) := by omega
      simp [m_is_store, wp_seq, wp_set, wp_sret, wp_sretO, wp_expr, wp_for, wp_sif, wp_mif, wp_mand, wp_mor, wp_mnot, wp_mtest, wp_bnd, wp_ret, wp_some, wp_mcons, wp_nx, wp_bk, wp_ct, wp_asg, wp_mlc, wp_molc, wp_mcomp, wp_callV, wp_callO, wp_macons, wpr_maown, anQ_own, wpr_aug, auQ_val, wpr, rdQ_val, rdQ_own, wpr_rdO, wpr_wrOp, wpr_mopO, wpr_mmut, wpr_setI, owQ_own, wp_setO, wp_tup, wp_lst, wp_olst, wp_list, wp_tuple, wp_range1, wp_range2, wp_part, wp_slice, wp_tru, wp_andV, wp_orV, wp_notV, seqQ_nx, seqQ_rt, seqQ_ro, seqQ_bk, seqQ_ct, gath, scat, scat1, pos, ownAt, clQ_nx, clQ_rt, clQ_ro, lpQ_nx, lpQ_ct, lpQ_bk, lpQ_rt, lpQ_ro, mrg1, q_I0, q_I, q_ixL, q_ixT, q_ixO, q_lenL, q_lenT, q_lenO, q_sum, q_listL, q_listT, q_abs, q_max2, q_min2, q_slL, q_neg, q_append, q_setI, q_cMul, q_cDiv, q_cPos, q_cPow, at0, at1, at2, at3, at4, at5, ix0, ix1, okW, isOwn, wipeR, restR, wp_chain, wp_zip, wp_enum, wp_str, wp_slO, wp_rdON, wp_put, wp_swap, wp_str0, wp_mownS, wp_keys, wp_mdcomp, endQ_nx, endQ_rt, endO_ro, q_isiI, q_isiB, q_isiS, q_isiT, q_isiL, q_isiTL, q_all, q_any, q_ltS, q_addS, q_inS, q_ninS, q_lenS, q_lenD, q_zipT, q_zipL, q_catT, q_catL, q_slT, q_slS, q_tupleL, q_tupleT, q_tupO, q_lstO, q_listNL, q_listNT, q_insert, q_upper, q_nu2I, q_nu2B, q_nu1I, q_nu1B, q_strI, q_strB, q_strS, q_ixA_T, q_ixA_L, q_ixA_S, q_ixS, q_eqII, q_neII, q_eqSS, q_neSS, q_eqBB, q_neBB, q_dgetS, q_dgetI, q_dinS, q_dinI, at6, at7, gT, gsCons, gsNil, gN, keyOfD, someQ_some, someQ_if, someQ_map, q_allM, q_anyM, i_BN, i_BB, i_BI, i_BS, i_BL, i_BT, i_BD, i_IN, i_IB, i_II, i_IS, i_IL, i_IT, i_ID, i_SN, i_SB, i_SI, i_SS, i_SL, i_ST, i_SD, i_TN, i_TB, i_TI, i_TS, i_TL, i_TT, i_TD, i_LN, i_LB, i_LI, i_LS, i_LL, i_LT, i_LD, sizeLine_eq, isT, h7]
      exact hx _ h6 rfl
  | _ => simp [m_is_store, wp_seq, wp_set, wp_sret, wp_sretO, wp_expr, wp_for, wp_sif, wp_mif, wp_mand, wp_mor, wp_mnot, wp_mtest, wp_bnd, wp_ret, wp_some, wp_mcons, wp_nx, wp_bk, wp_ct, wp_asg, wp_mlc, wp_molc, wp_mcomp, wp_callV, wp_callO, wp_macons, wpr_maown, anQ_own, wpr_aug, auQ_val, wpr, rdQ_val, rdQ_own, wpr_rdO, wpr_wrOp, wpr_mopO, wpr_mmut, wpr_setI, owQ_own, wp_setO, wp_tup, wp_lst, wp_olst, wp_list, wp_tuple, wp_range1, wp_range2, wp_part, wp_slice, wp_tru, wp_andV, wp_orV, wp_notV, seqQ_nx, seqQ_rt, seqQ_ro, seqQ_bk, seqQ_ct, gath, scat, scat1, pos, ownAt, clQ_nx, clQ_rt, clQ_ro, lpQ_nx, lpQ_ct, lpQ_bk, lpQ_rt, lpQ_ro, mrg1, q_I0, q_I, q_ixL, q_ixT, q_ixO, q_lenL, q_lenT, q_lenO, q_sum, q_listL, q_listT, q_abs, q_max2, q_min2, q_slL, q_neg, q_append, q_setI, q_cMul, q_cDiv, q_cPos, q_cPow, at0, at1, at2, at3, at4, at5, ix0, ix1, okW, isOwn, wipeR, restR, wp_chain, wp_zip, wp_enum, wp_str, wp_slO, wp_rdON, wp_put, wp_swap, wp_str0, wp_mownS, wp_keys, wp_mdcomp, endQ_nx, endQ_rt, endO_ro, q_isiI, q_isiB, q_isiS, q_isiT, q_isiL, q_isiTL, q_all, q_any, q_ltS, q_addS, q_inS, q_ninS, q_lenS, q_lenD, q_zipT, q_zipL, q_catT, q_catL, q_slT, q_slS, q_tupleL, q_tupleT, q_tupO, q_lstO, q_listNL, q_listNT, q_insert, q_upper, q_nu2I, q_nu2B, q_nu1I, q_nu1B, q_strI, q_strB, q_strS, q_ixA_T, q_ixA_L, q_ixA_S, q_ixS, q_eqII, q_neII, q_eqSS, q_neSS, q_eqBB, q_neBB, q_dgetS, q_dgetI, q_dinS, q_dinI, at6, at7, gT, gsCons, gsNil, gN, keyOfD, someQ_some, someQ_if, someQ_map, q_allM, q_anyM, i_BN, i_BB, i_BI, i_BS, i_BL, i_BT, i_BD, i_IN, i_IB, i_II, i_IS, i_IL, i_IT, i_ID, i_SN, i_SB, i_SI, i_SS, i_SL, i_ST, i_SD, i_TN, i_TB, i_TI, i_TS, i_TL, i_TT, i_TD, i_LN, i_LB, i_LI, i_LS, i_LL, i_LT, i_LD, sizeLine_eq, isT]; exact h
/-! ### the way up -/
def wayUp (ab : PySem.Str → PySem.Str) : Nat → PySem.Str → List PySem.Str
  | 0, _ => []
  | n + 1, x => if x = "" then [] else x :: wayUp ab n (ab x)
theorem up_step {kvs : List (Key × D)} {ab : PySem.Str → PySem.Str} {x : PySem.Str} (hn : kvs.length ≤ 100) (hx : (lookD kvs (.inr x)).isSome = true)
    (h1 : ∀ k y, lookD kvs (.inr k) = some y → y = .str (ab k) ∧ PyData.strOk (ab k) = true ∧ (ab k = "" ∨ (lookD kvs (.inr (ab k))).isSome = true))
    {Q : D → List (Sl Empty) → Prop} (h : Q (.list ((wayUp ab kvs.length (ab x)).map PyData.str)) [.val (.dict (dkv kvs)), .val (.str x)]) : callQ g_way_up [.val (.dict (dkv kvs)), .val (.str x)] Q := by
  refine call_close ?_
  obtain ⟨y, hy⟩ := Option.isSome_iff_exists.mp hx
  obtain ⟨rfl, hok, hnx⟩ := h1 x y hy
  simp [m_way_up, wp_seq, wp_set, wp_sret, wp_sretO, wp_expr, wp_for, wp_sif, wp_mif, wp_mand, wp_mor, wp_mnot, wp_mtest, wp_bnd, wp_ret, wp_some, wp_mcons, wp_nx, wp_bk, wp_ct, wp_asg, wp_mlc, wp_molc, wp_mcomp, wp_callV, wp_callO, wp_macons, wpr_maown, anQ_own, wpr_aug, auQ_val, wpr, rdQ_val, rdQ_own, wpr_rdO, wpr_wrOp, wpr_mopO, wpr_mmut, wpr_setI, owQ_own, wp_setO, wp_tup, wp_lst, wp_olst, wp_list, wp_tuple, wp_range1, wp_range2, wp_part, wp_slice, wp_tru, wp_andV, wp_orV, wp_notV, seqQ_nx, seqQ_rt, seqQ_ro, seqQ_bk, seqQ_ct, gath, scat, scat1, pos, ownAt, clQ_nx, clQ_rt, clQ_ro, lpQ_nx, lpQ_ct, lpQ_bk, lpQ_rt, lpQ_ro, mrg1, q_I0, q_I, q_ixL, q_ixT, q_ixO, q_lenL, q_lenT, q_lenO, q_sum, q_listL, q_listT, q_abs, q_max2, q_min2, q_slL, q_neg, q_append, q_setI, q_cMul, q_cDiv, q_cPos, q_cPow, at0, at1, at2, at3, at4, at5, ix0, ix1, okW, isOwn, wipeR, restR, wp_chain, wp_zip, wp_enum, wp_str, wp_slO, wp_rdON, wp_put, wp_swap, wp_str0, wp_mownS, wp_keys, wp_mdcomp, endQ_nx, endQ_rt, endO_ro, q_isiI, q_isiB, q_isiS, q_isiT, q_isiL, q_isiTL, q_all, q_any, q_ltS, q_addS, q_inS, q_ninS, q_lenS, q_lenD, q_zipT, q_zipL, q_catT, q_catL, q_slT, q_slS, q_tupleL, q_tupleT, q_tupO, q_lstO, q_listNL, q_listNT, q_insert, q_upper, q_nu2I, q_nu2B, q_nu1I, q_nu1B, q_strI, q_strB, q_strS, q_ixA_T, q_ixA_L, q_ixA_S, q_ixS, q_eqII, q_neII, q_eqSS, q_neSS, q_eqBB, q_neBB, q_dgetS, q_dgetI, q_dinS, q_dinI, at6, at7, gT, gsCons, gsNil, gN, keyOfD, someQ_some, someQ_if, someQ_map, q_allM, q_anyM, i_BN, i_BB, i_BI, i_BS, i_BL, i_BT, i_BD, i_IN, i_IB, i_II, i_IS, i_IL, i_IT, i_ID, i_SN, i_SB, i_SI, i_SS, i_SL, i_ST, i_SD, i_TN, i_TB, i_TI, i_TS, i_TL, i_TT, i_TD, i_LN, i_LB, i_LI, i_LS, i_LL, i_LT, i_LD, sizeLine_eq, hy]
  show WPm (whileM _ _ (w_way_up _)) _ _
  rw [show w_way_up [.val (.dict (dkv kvs)), .val (.str x), .own (.seq []), .val (.str (ab x))] = kvs.length + 1 by simp [w_way_up, dkv]]
  refine wp_whileI (fun m (ρ : List (Sl Empty)) => ∃ (acc : List PySem.Str) (z : PySem.Str), acc.length + m = kvs.length ∧ ρ = [.val (.dict (dkv kvs)), .val (.str x), .own (.seq (acc.map PyData.str)), .val (.str z)] ∧ PyData.strOk z = true ∧ (z = "" ∨ (lookD kvs (.inr z)).isSome = true) ∧ acc ++ wayUp ab m z = wayUp ab kvs.length (ab x)) (m := kvs.length) (Nat.lt_succ_self _) ⟨[], ab x, by simp, rfl, hok, hnx, rfl⟩ ?_
  rintro k ρ ⟨acc, z, hl, rfl, hz, hzn, hw⟩
  have e0 : PyData.strOk (PySem.Str.ofString "") = true := by decide +kernel
  have hsl : ((acc.length : Int) < (kvs.length : Int)) ↔ acc.length < kvs.length := by omega
  by_cases hz0 : z = ""
  · subst hz0
    simp [wp_seq, wp_set, wp_sret, wp_sretO, wp_expr, wp_for, wp_sif, wp_mif, wp_mand, wp_mor, wp_mnot, wp_mtest, wp_bnd, wp_ret, wp_some, wp_mcons, wp_nx, wp_bk, wp_ct, wp_asg, wp_mlc, wp_molc, wp_mcomp, wp_callV, wp_callO, wp_macons, wpr_maown, anQ_own, wpr_aug, auQ_val, wpr, rdQ_val, rdQ_own, wpr_rdO, wpr_wrOp, wpr_mopO, wpr_mmut, wpr_setI, owQ_own, wp_setO, wp_tup, wp_lst, wp_olst, wp_list, wp_tuple, wp_range1, wp_range2, wp_part, wp_slice, wp_tru, wp_andV, wp_orV, wp_notV, seqQ_nx, seqQ_rt, seqQ_ro, seqQ_bk, seqQ_ct, gath, scat, scat1, pos, ownAt, clQ_nx, clQ_rt, clQ_ro, lpQ_nx, lpQ_ct, lpQ_bk, lpQ_rt, lpQ_ro, mrg1, q_I0, q_I, q_ixL, q_ixT, q_ixO, q_lenL, q_lenT, q_lenO, q_sum, q_listL, q_listT, q_abs, q_max2, q_min2, q_slL, q_neg, q_append, q_setI, q_cMul, q_cDiv, q_cPos, q_cPow, at0, at1, at2, at3, at4, at5, ix0, ix1, okW, isOwn, wipeR, restR, wp_chain, wp_zip, wp_enum, wp_str, wp_slO, wp_rdON, wp_put, wp_swap, wp_str0, wp_mownS, wp_keys, wp_mdcomp, endQ_nx, endQ_rt, endO_ro, q_isiI, q_isiB, q_isiS, q_isiT, q_isiL, q_isiTL, q_all, q_any, q_ltS, q_addS, q_inS, q_ninS, q_lenS, q_lenD, q_zipT, q_zipL, q_catT, q_catL, q_slT, q_slS, q_tupleL, q_tupleT, q_tupO, q_lstO, q_listNL, q_listNT, q_insert, q_upper, q_nu2I, q_nu2B, q_nu1I, q_nu1B, q_strI, q_strB, q_strS, q_ixA_T, q_ixA_L, q_ixA_S, q_ixS, q_eqII, q_neII, q_eqSS, q_neSS, q_eqBB, q_neBB, q_dgetS, q_dgetI, q_dinS, q_dinI, at6, at7, gT, gsCons, gsNil, gN, keyOfD, someQ_some, someQ_if, someQ_map, q_allM, q_anyM, i_BN, i_BB, i_BI, i_BS, i_BL, i_BT, i_BD, i_IN, i_IB, i_II, i_IS, i_IL, i_IT, i_ID, i_SN, i_SB, i_SI, i_SS, i_SL, i_ST, i_SD, i_TN, i_TB, i_TI, i_TS, i_TL, i_TT, i_TD, i_LN, i_LB, i_LI, i_LS, i_LL, i_LT, i_LD, sizeLine_eq, hz, e0]
    have : wayUp ab k "" = [] := by cases k <;> simp [wayUp]
    rw [this, List.append_nil] at hw
    rw [hw]
    exact h
  · by_cases hk : k = 0
    · subst hk
      have hw : acc = wayUp ab kvs.length (ab x) := by simpa [wayUp] using hw
      have hal : ¬ acc.length < kvs.length := by omega
      simp [wp_seq, wp_set, wp_sret, wp_sretO, wp_expr, wp_for, wp_sif, wp_mif, wp_mand, wp_mor, wp_mnot, wp_mtest, wp_bnd, wp_ret, wp_some, wp_mcons, wp_nx, wp_bk, wp_ct, wp_asg, wp_mlc, wp_molc, wp_mcomp, wp_callV, wp_callO, wp_macons, wpr_maown, anQ_own, wpr_aug, auQ_val, wpr, rdQ_val, rdQ_own, wpr_rdO, wpr_wrOp, wpr_mopO, wpr_mmut, wpr_setI, owQ_own, wp_setO, wp_tup, wp_lst, wp_olst, wp_list, wp_tuple, wp_range1, wp_range2, wp_part, wp_slice, wp_tru, wp_andV, wp_orV, wp_notV, seqQ_nx, seqQ_rt, seqQ_ro, seqQ_bk, seqQ_ct, gath, scat, scat1, pos, ownAt, clQ_nx, clQ_rt, clQ_ro, lpQ_nx, lpQ_ct, lpQ_bk, lpQ_rt, lpQ_ro, mrg1, q_I0, q_I, q_ixL, q_ixT, q_ixO, q_lenL, q_lenT, q_lenO, q_sum, q_listL, q_listT, q_abs, q_max2, q_min2, q_slL, q_neg, q_append, q_setI, q_cMul, q_cDiv, q_cPos, q_cPow, at0, at1, at2, at3, at4, at5, ix0, ix1, okW, isOwn, wipeR, restR, wp_chain, wp_zip, wp_enum, wp_str, wp_slO, wp_rdON, wp_put, wp_swap, wp_str0, wp_mownS, wp_keys, wp_mdcomp, endQ_nx, endQ_rt, endO_ro, q_isiI, q_isiB, q_isiS, q_isiT, q_isiL, q_isiTL, q_all, q_any, q_ltS, q_addS, q_inS, q_ninS, q_lenS, q_lenD, q_zipT, q_zipL, q_catT, q_catL, q_slT, q_slS, q_tupleL, q_tupleT, q_tupO, q_lstO, q_listNL, q_listNT, q_insert, q_upper, q_nu2I, q_nu2B, q_nu1I, q_nu1B, q_strI, q_strB, q_strS, q_ixA_T, q_ixA_L, q_ixA_S, q_ixS, q_eqII, q_neII, q_eqSS, q_neSS, q_eqBB, q_neBB, q_dgetS, q_dgetI, q_dinS, q_dinI, at6, at7, gT, gsCons, gsNil, gN, keyOfD, someQ_some, someQ_if, someQ_map, q_allM, q_anyM, i_BN, i_BB, i_BI, i_BS, i_BL, i_BT, i_BD, i_IN, i_IB, i_II, i_IS, i_IL, i_IT, i_ID, i_SN, i_SB, i_SI, i_SS, i_SL, i_ST, i_SD, i_TN, i_TB, i_TI, i_TS, i_TL, i_TT, i_TD, i_LN, i_LB, i_LI, i_LS, i_LL, i_LT, i_LD, sizeLine_eq, hz, hz0, hsl, hal, e0]
      rw [← hw] at h
      exact ⟨by omega, h⟩
    · obtain ⟨j, rfl⟩ : ∃ j, k = j + 1 := ⟨k - 1, by omega⟩
      have hal : acc.length < kvs.length := by omega
      rcases hzn with hzn | hzn
      · exact absurd hzn hz0
      obtain ⟨y, hy⟩ := Option.isSome_iff_exists.mp hzn
      obtain ⟨rfl, hok, hnx⟩ := h1 z y hy
      simp [wp_seq, wp_set, wp_sret, wp_sretO, wp_expr, wp_for, wp_sif, wp_mif, wp_mand, wp_mor, wp_mnot, wp_mtest, wp_bnd, wp_ret, wp_some, wp_mcons, wp_nx, wp_bk, wp_ct, wp_asg, wp_mlc, wp_molc, wp_mcomp, wp_callV, wp_callO, wp_macons, wpr_maown, anQ_own, wpr_aug, auQ_val, wpr, rdQ_val, rdQ_own, wpr_rdO, wpr_wrOp, wpr_mopO, wpr_mmut, wpr_setI, owQ_own, wp_setO, wp_tup, wp_lst, wp_olst, wp_list, wp_tuple, wp_range1, wp_range2, wp_part, wp_slice, wp_tru, wp_andV, wp_orV, wp_notV, seqQ_nx, seqQ_rt, seqQ_ro, seqQ_bk, seqQ_ct, gath, scat, scat1, pos, ownAt, clQ_nx, clQ_rt, clQ_ro, lpQ_nx, lpQ_ct, lpQ_bk, lpQ_rt, lpQ_ro, mrg1, q_I0, q_I, q_ixL, q_ixT, q_ixO, q_lenL, q_lenT, q_lenO, q_sum, q_listL, q_listT, q_abs, q_max2, q_min2, q_slL, q_neg, q_append, q_setI, q_cMul, q_cDiv, q_cPos, q_cPow, at0, at1, at2, at3, at4, at5, ix0, ix1, okW, isOwn, wipeR, restR, wp_chain, wp_zip, wp_enum, wp_str, wp_slO, wp_rdON, wp_put, wp_swap, wp_str0, wp_mownS, wp_keys, wp_mdcomp, endQ_nx, endQ_rt, endO_ro, q_isiI, q_isiB, q_isiS, q_isiT, q_isiL, q_isiTL, q_all, q_any, q_ltS, q_addS, q_inS, q_ninS, q_lenS, q_lenD, q_zipT, q_zipL, q_catT, q_catL, q_slT, q_slS, q_tupleL, q_tupleT, q_tupO, q_lstO, q_listNL, q_listNT, q_insert, q_upper, q_nu2I, q_nu2B, q_nu1I, q_nu1B, q_strI, q_strB, q_strS, q_ixA_T, q_ixA_L, q_ixA_S, q_ixS, q_eqII, q_neII, q_eqSS, q_neSS, q_eqBB, q_neBB, q_dgetS, q_dgetI, q_dinS, q_dinI, at6, at7, gT, gsCons, gsNil, gN, keyOfD, someQ_some, someQ_if, someQ_map, q_allM, q_anyM, i_BN, i_BB, i_BI, i_BS, i_BL, i_BT, i_BD, i_IN, i_IB, i_II, i_IS, i_IL, i_IT, i_ID, i_SN, i_SB, i_SI, i_SS, i_SL, i_ST, i_SD, i_TN, i_TB, i_TI, i_TS, i_TL, i_TT, i_TD, i_LN, i_LB, i_LI, i_LS, i_LL, i_LT, i_LD, sizeLine_eq, hz, hz0, hsl, hal, hy, e0]
      refine Or.inr ⟨by omega, j, by omega, acc ++ [z], by simp; omega, ab z, ⟨by simp, rfl⟩, hok, hnx, ?_⟩
      rw [← hw]
      simp [wayUp, hz0]
end RG
set_option Elab.async false
set_option linter.all false
set_option maxRecDepth 100000
set_option maxHeartbeats 4000000
/-! RGd: what is_tree tells -/
namespace RG
open PySem PySem.Spec PyProof.Rows L2 DL
structure St where
  (name above : PySem.Str) (delay base start : Int) (waits : Bool)
def tD (t : St) : D := .tuple [.str t.name, .str t.above, .int t.delay, .int t.base, .int t.start, .bool t.waits]
def stOk (t : St) : Bool := nameB (.str t.name) && (withinB 1 9 (.int t.delay) && (withinB 0 200 (.int t.base) && withinB 0 200 (.int t.start)))
theorem store_tD (t : St) : storeB (tD t) = stOk t := by
  have e : storeB (tD t) = (nameB (.str t.name) && (isS (.str t.above) && (withinB 1 9 (.int t.delay) && (isB (.bool t.waits) && (withinB 0 200 (.int t.base) && withinB 0 200 (.int t.start)))))) := rfl
  rw [e]
  simp [stOk, isS, isB]
theorem withinB_int {lo hi : Int} {d : D} (h : withinB lo hi d = true) : ∃ i, d = .int i := by
  cases d with
  | int i => exact ⟨i, rfl⟩
  | _ => cases h
theorem store_inv {d : D} (h : storeB d = true) : ∃ t, d = tD t ∧ stOk t = true := by
  have h0 := h
  unfold storeB at h
  split at h
  · rename_i n a dl b st w
    simp only [Bool.and_eq_true] at h
    obtain ⟨h1, h2, h3, h4, h5, h6⟩ := h
    obtain ⟨dl, rfl⟩ := withinB_int h3
    obtain ⟨b, rfl⟩ := withinB_int h5
    obtain ⟨st, rfl⟩ := withinB_int h6
    cases n with
    | str n =>
      cases a with
      | str a =>
        cases w with
        | bool w => exact ⟨⟨n, a, dl, b, st, w⟩, rfl, (store_tD _).symm.trans h0⟩
        | _ => cases h4
      | _ => cases h2
    | _ => cases h1
  · cases h
theorem stores_inv : ∀ {ds : List D}, ds.all storeB = true → ∃ ts : List St, ds = ts.map tD ∧ ∀ t ∈ ts, stOk t = true
  | [], _ => ⟨[], rfl, by simp⟩
  | d :: ds, h => by
    rw [List.all_cons, Bool.and_eq_true] at h
    obtain ⟨t, rfl, h1⟩ := store_inv h.1
    obtain ⟨ts, rfl, h2⟩ := stores_inv h.2
    exact ⟨t :: ts, rfl, by simpa using ⟨h1, h2⟩⟩
def unSt : D → Option St
  | .tuple [.str n, .str a, .int d, .int b, .int s, .bool w] => some ⟨n, a, d, b, s, w⟩
  | _ => none
theorem unSt_tD (t : St) : unSt (tD t) = some t := rfl
theorem unSts (ts : List St) : (ts.map tD).filterMap unSt = ts := by
  rw [List.filterMap_map]
  show List.filterMap (fun t => some t) ts = ts
  exact List.filterMap_some
/-! names -/
abbrev ltN (x y : PySem.Str) : Prop := x.cps.toList < y.cps.toList
def sortedT : List St → Bool
  | t :: u :: r => decide (ltN t.name u.name) && sortedT (u :: r)
  | _ => true
def abT (ts : List St) (x : PySem.Str) : PySem.Str := match ts.find? fun t => decide (t.name = x) with | some t => t.above | none => ""
def hasT (ts : List St) (x : PySem.Str) : Bool := ts.any fun u => decide (u.name = x)
def abvT (ts : List St) (t : St) : Bool := decide (t.above = "") || hasT ts t.above
def ringT (ts : List St) (t : St) : Bool := (wayUp (abT ts) ts.length t.above).any fun x => decide (x = t.name)
def treeT (ts : List St) : Bool := sortedT ts && (ts.all (abvT ts) && !ts.any (ringT ts))
def treeB : D → Bool
  | .tuple ds => decide (1 ≤ ds.length) && (decide (ds.length ≤ 8) && (ds.all storeB && treeT (ds.filterMap unSt)))
  | _ => false
theorem ltN_trans {x y z : PySem.Str} (h1 : ltN x y) (h2 : ltN y z) : ltN x z := List.lt_trans h1 h2
theorem ltN_ne {x y : PySem.Str} (h : ltN x y) : x ≠ y := fun e => by subst e; exact List.lt_irrefl _ h
theorem sorted_pair : ∀ {ts : List St}, sortedT ts = true → ts.Pairwise fun t u => ltN t.name u.name
  | [], _ => .nil
  | [t], _ => by simp
  | t :: u :: r, h => by
    unfold sortedT at h
    rw [Bool.and_eq_true] at h
    have ih := sorted_pair h.2
    refine List.Pairwise.cons (fun v hv => ?_) ih
    rcases List.mem_cons.mp hv with rfl | hv
    · exact of_decide_eq_true h.1
    · exact ltN_trans (of_decide_eq_true h.1) (List.rel_of_pairwise_cons ih hv)
theorem sorted_zip : ∀ ts : List St, (zipD (ts.map tD) ((ts.map tD).drop 1)).all (fun d => match d with | .tuple [x, y] => (match unSt x, unSt y with | some t, some u => decide (ltN t.name u.name) | _, _ => false) | _ => false) = sortedT ts
  | [] => rfl
  | [t] => rfl
  | t :: u :: r => by
    have ih := sorted_zip (u :: r)
    unfold sortedT
    rw [← ih]
    rfl
def kvT (t : St) : Key × D := (.inr t.name, .str t.above)
theorem look_T (ts : List St) (x : PySem.Str) : lookD (ts.map kvT) (.inr x) = (ts.find? fun t => decide (t.name = x)).map fun t => PyData.str t.above := by
  unfold lookD
  induction ts with
  | nil => rfl
  | cons t ts ih =>
    rw [List.map_cons, List.find?_cons, List.find?_cons]
    by_cases h : t.name = x
    · subst h; simp [kvT]
    · have h2 : ¬ ((kvT t).1 = (.inr x : Key)) := fun e => h (by simpa [kvT] using e)
      rw [decide_eq_false h, decide_eq_false h2]
      exact ih
theorem put_new {kvs : List (Key × D)} {k : Key} {d : D} (h : ∀ p ∈ kvs, p.1 ≠ k) : putD kvs k d = kvs ++ [(k, d)] := by
  unfold putD
  rw [if_neg]
  intro hh
  obtain ⟨p, hp, e⟩ := List.any_eq_true.mp hh
  exact h p hp (of_decide_eq_true e)
theorem find_mem {ts : List St} (hs : ts.Pairwise fun t u => ltN t.name u.name) {t : St} (ht : t ∈ ts) : (ts.find? fun u => decide (u.name = t.name)) = some t := by
  induction ts with
  | nil => cases ht
  | cons u ts ih =>
    rw [List.find?_cons]
    by_cases h : u.name = t.name
    · rw [decide_eq_true h]
      rcases List.mem_cons.mp ht with rfl | ht
      · rfl
      · exact absurd h (ltN_ne (List.rel_of_pairwise_cons hs ht))
    · rw [decide_eq_false h]
      rcases List.mem_cons.mp ht with rfl | ht
      · exact absurd rfl h
      · exact ih (List.Pairwise.of_cons hs) ht
theorem find_some_of {ts : List St} {x : PySem.Str} (h : (ts.any fun u => decide (u.name = x)) = true) : ∃ t ∈ ts, (ts.find? fun u => decide (u.name = x)) = some t := by
  cases e : ts.find? fun u => decide (u.name = x) with
  | none =>
    obtain ⟨u, hu, hx⟩ := List.any_eq_true.mp h
    have := List.find?_eq_none.mp e u hu
    exact absurd hx this
  | some t => exact ⟨t, List.mem_of_find?_eq_some e, rfl⟩
theorem cut1 (ds : List D) : DL.cutD ds (some 1) none = ds.drop 1 := by
  unfold DL.cutD
  rw [show (some (1 : Int)) = some ((1 : Nat) : Int) from rfl, HT.sIx_nat]
  show (ds.drop (min 1 ds.length)).take (ds.length - min 1 ds.length) = ds.drop 1
  cases ds with
  | nil => rfl
  | cons d ds => simp
theorem zip_mem {d : D} : ∀ {xs ys : List D}, d ∈ zipD xs ys → ∃ x ∈ xs, ∃ y ∈ ys, d = .tuple [x, y]
  | x :: xs, y :: ys, h => by
    rcases List.mem_cons.mp h with rfl | h
    · exact ⟨x, List.mem_cons_self, y, List.mem_cons_self, rfl⟩
    · obtain ⟨x', hx, y', hy, e⟩ := zip_mem h
      exact ⟨x', List.mem_cons_of_mem _ hx, y', List.mem_cons_of_mem _ hy, e⟩
  | [], _, h => by simp [zipD] at h
  | _ :: _, [], h => by simp [zipD] at h
def zipP (d : D) : Bool := match d with | .tuple [x, y] => (match unSt x, unSt y with | some t, some u => decide (ltN t.name u.name) | _, _ => false) | _ => false
theorem shaped_strs {xs : List PySem.Str} (h : ∀ x ∈ xs, PyData.strOk x = true) : SeqAt.shaped (.list (xs.map PyData.str)) = true := by
  have h1 : PyData.canLayAll0 (xs.map PyData.str) = true ∧ PyData.depthAll (xs.map PyData.str) = 0 := by
    induction xs with
    | nil => exact ⟨rfl, rfl⟩
    | cons x xs ih =>
      obtain ⟨i1, i2⟩ := ih fun y hy => h y (List.mem_cons_of_mem _ hy)
      simp [PyData.canLayAll0, PyData.canLay0, PyData.depthAll, PyData.depth, h x List.mem_cons_self, i1, i2]
  simp [SeqAt.shaped, PyData.canLay0, PyData.depth, h1.1, h1.2]
theorem q_inStrs {xs : List PySem.Str} {x : PySem.Str} (h : ∀ x ∈ xs, PyData.strOk x = true) (hx : PyData.strOk x = true) : gInD (.str x) (.list (xs.map PyData.str)) = some (.bool (xs.any fun y => decide (y = x))) := by
  unfold gInD
  dsimp only
  rw [if_pos ⟨by simp [SeqAt.shaped, PyData.canLay0, PyData.depth, hx], shaped_strs h⟩, List.any_map]
  have e : ((fun z => PyData.eqv z (.str x)) ∘ PyData.str) = fun y => decide (y = x) := by
    funext y
    show PyData.eqv (.str y) (.str x) = _
    simp [PyData.eqv]
    try (rw [Bool.eq_iff_iff]; simp)
  rw [e]
theorem wayUp_ok {ab : PySem.Str → PySem.Str} (h : ∀ k, PyData.strOk (ab k) = true) : ∀ (n : Nat) (x : PySem.Str), PyData.strOk x = true → ∀ y ∈ wayUp ab n x, PyData.strOk y = true
  | 0, _, _, y, hy => by simp [wayUp] at hy
  | n + 1, x, hx, y, hy => by
    unfold wayUp at hy
    split at hy
    · cases hy
    · rcases List.mem_cons.mp hy with rfl | hy
      · exact hx
      · exact wayUp_ok h n _ (h x) y hy
theorem good_tD {t : St} (h : good (tD t) = true) : PyData.strOk t.name = true ∧ PyData.strOk t.above = true := by
  obtain ⟨_, h2⟩ := good_tup h
  exact ⟨good_strOk (h2 _ (by simp)), good_strOk (h2 _ (by simp))⟩
theorem strOk_nil : PyData.strOk (PySem.Str.ofString "") = true := by decide +kernel
theorem abT_ok {ts : List St} (h : ∀ t ∈ ts, PyData.strOk t.above = true) (k : PySem.Str) : PyData.strOk (abT ts k) = true := by
  unfold abT
  split
  · rename_i t e
    exact h t (List.mem_of_find?_eq_some e)
  · exact strOk_nil
theorem abT_of {ts : List St} (hs : ts.Pairwise fun t u => ltN t.name u.name) {t : St} (ht : t ∈ ts) : abT ts t.name = t.above := by
  unfold abT
  rw [find_mem hs ht]
theorem tree_step {d : D} (hg : good d = true) {Q : D → List (Sl Empty) → Prop} (h : Q (.bool (treeB d)) [.val d]) : callQ g_is_tree [.val d] Q := by
  refine call_close ?_
  cases d with
  | tuple ds =>
    obtain ⟨hl, hd⟩ := good_tup hg
    unfold m_is_tree
    rw [wp_seq]
    simp [wp_set, wp_sret, wp_sretO, wp_expr, wp_for, wp_sif, wp_mif, wp_mand, wp_mor, wp_mnot, wp_mtest, wp_bnd, wp_ret, wp_some, wp_mcons, wp_nx, wp_bk, wp_ct, wp_asg, wp_mlc, wp_molc, wp_mcomp, wp_callV, wp_callO, wp_macons, wpr_maown, anQ_own, wpr_aug, auQ_val, wpr, rdQ_val, rdQ_own, wpr_rdO, wpr_wrOp, wpr_mopO, wpr_mmut, wpr_setI, owQ_own, wp_setO, wp_tup, wp_lst, wp_olst, wp_list, wp_tuple, wp_range1, wp_range2, wp_part, wp_slice, wp_tru, wp_andV, wp_orV, wp_notV, seqQ_rt, seqQ_ro, seqQ_bk, seqQ_ct, gath, scat, scat1, pos, ownAt, clQ_nx, clQ_rt, clQ_ro, lpQ_nx, lpQ_ct, lpQ_bk, lpQ_rt, lpQ_ro, mrg1, q_I0, q_I, q_ixL, q_ixT, q_ixO, q_lenL, q_lenT, q_lenO, q_sum, q_listL, q_listT, q_abs, q_max2, q_min2, q_slL, q_neg, q_append, q_setI, q_cMul, q_cDiv, q_cPos, q_cPow, at0, at1, at2, at3, at4, at5, ix0, ix1, okW, isOwn, wipeR, restR, wp_chain, wp_zip, wp_enum, wp_str, wp_slO, wp_rdON, wp_put, wp_swap, wp_str0, wp_mownS, wp_keys, wp_mdcomp, endQ_nx, endQ_rt, endO_ro, q_isiI, q_isiB, q_isiS, q_isiT, q_isiL, q_isiTL, q_all, q_any, q_ltS, q_addS, q_inS, q_ninS, q_lenS, q_lenD, q_zipT, q_zipL, q_catT, q_catL, q_slT, q_slS, q_tupleL, q_tupleT, q_tupO, q_lstO, q_listNL, q_listNT, q_insert, q_upper, q_nu2I, q_nu2B, q_nu1I, q_nu1B, q_strI, q_strB, q_strS, q_ixA_T, q_ixA_L, q_ixA_S, q_ixS, q_eqII, q_neII, q_eqSS, q_neSS, q_eqBB, q_neBB, q_dgetS, q_dgetI, q_dinS, q_dinI, at6, at7, gT, gsCons, gsNil, gN, keyOfD, someQ_some, someQ_if, someQ_map, q_allM, q_anyM, i_BN, i_BB, i_BI, i_BS, i_BL, i_BT, i_BD, i_IN, i_IB, i_II, i_IS, i_IL, i_IT, i_ID, i_SN, i_SB, i_SI, i_SS, i_SL, i_ST, i_SD, i_TN, i_TB, i_TI, i_TS, i_TL, i_TT, i_TD, i_LN, i_LB, i_LI, i_LS, i_LL, i_LT, i_LD, sizeLine_eq, isT]
    by_cases h1 : 1 ≤ ds.length
    case neg =>
      refine Or.inl ⟨by omega, ?_⟩
      rwa [show treeB (.tuple ds) = false by simp [treeB, h1]] at h
    refine Or.inr ⟨by omega, ?_⟩
    by_cases h8 : ds.length ≤ 8
    case neg =>
      refine Or.inl ⟨by omega, ?_⟩
      rwa [show treeB (.tuple ds) = false by simp [treeB, h8]] at h
    refine Or.inr ⟨by omega, by omega, ?_⟩
    refine wp_map (fun d => .bool (storeB d)) (fun d hm => ?_) ?_
    · refine ⟨_, rfl, ?_⟩
      simp [wp_set, wp_sret, wp_sretO, wp_expr, wp_for, wp_sif, wp_mif, wp_mand, wp_mor, wp_mnot, wp_mtest, wp_bnd, wp_ret, wp_some, wp_mcons, wp_nx, wp_bk, wp_ct, wp_asg, wp_mlc, wp_molc, wp_mcomp, wp_callV, wp_callO, wp_macons, wpr_maown, anQ_own, wpr_aug, auQ_val, wpr, rdQ_val, rdQ_own, wpr_rdO, wpr_wrOp, wpr_mopO, wpr_mmut, wpr_setI, owQ_own, wp_setO, wp_tup, wp_lst, wp_olst, wp_list, wp_tuple, wp_range1, wp_range2, wp_part, wp_slice, wp_tru, wp_andV, wp_orV, wp_notV, seqQ_rt, seqQ_ro, seqQ_bk, seqQ_ct, gath, scat, scat1, pos, ownAt, clQ_nx, clQ_rt, clQ_ro, lpQ_nx, lpQ_ct, lpQ_bk, lpQ_rt, lpQ_ro, mrg1, q_I0, q_I, q_ixL, q_ixT, q_ixO, q_lenL, q_lenT, q_lenO, q_sum, q_listL, q_listT, q_abs, q_max2, q_min2, q_slL, q_neg, q_append, q_setI, q_cMul, q_cDiv, q_cPos, q_cPow, at0, at1, at2, at3, at4, at5, ix0, ix1, okW, isOwn, wipeR, restR, wp_chain, wp_zip, wp_enum, wp_str, wp_slO, wp_rdON, wp_put, wp_swap, wp_str0, wp_mownS, wp_keys, wp_mdcomp, endQ_nx, endQ_rt, endO_ro, q_isiI, q_isiB, q_isiS, q_isiT, q_isiL, q_isiTL, q_all, q_any, q_ltS, q_addS, q_inS, q_ninS, q_lenS, q_lenD, q_zipT, q_zipL, q_catT, q_catL, q_slT, q_slS, q_tupleL, q_tupleT, q_tupO, q_lstO, q_listNL, q_listNT, q_insert, q_upper, q_nu2I, q_nu2B, q_nu1I, q_nu1B, q_strI, q_strB, q_strS, q_ixA_T, q_ixA_L, q_ixA_S, q_ixS, q_eqII, q_neII, q_eqSS, q_neSS, q_eqBB, q_neBB, q_dgetS, q_dgetI, q_dinS, q_dinI, at6, at7, gT, gsCons, gsNil, gN, keyOfD, someQ_some, someQ_if, someQ_map, q_allM, q_anyM, i_BN, i_BB, i_BI, i_BS, i_BL, i_BT, i_BD, i_IN, i_IB, i_II, i_IS, i_IL, i_IT, i_ID, i_SN, i_SB, i_SI, i_SS, i_SL, i_ST, i_SD, i_TN, i_TB, i_TI, i_TS, i_TL, i_TT, i_TD, i_LN, i_LB, i_LI, i_LS, i_LL, i_LT, i_LD, sizeLine_eq]
      refine store_step (hd d hm) ?_
      simp [wp_set, wp_sret, wp_sretO, wp_expr, wp_for, wp_sif, wp_mif, wp_mand, wp_mor, wp_mnot, wp_mtest, wp_bnd, wp_ret, wp_some, wp_mcons, wp_nx, wp_bk, wp_ct, wp_asg, wp_mlc, wp_molc, wp_mcomp, wp_callV, wp_callO, wp_macons, wpr_maown, anQ_own, wpr_aug, auQ_val, wpr, rdQ_val, rdQ_own, wpr_rdO, wpr_wrOp, wpr_mopO, wpr_mmut, wpr_setI, owQ_own, wp_setO, wp_tup, wp_lst, wp_olst, wp_list, wp_tuple, wp_range1, wp_range2, wp_part, wp_slice, wp_tru, wp_andV, wp_orV, wp_notV, seqQ_rt, seqQ_ro, seqQ_bk, seqQ_ct, gath, scat, scat1, pos, ownAt, clQ_nx, clQ_rt, clQ_ro, lpQ_nx, lpQ_ct, lpQ_bk, lpQ_rt, lpQ_ro, mrg1, q_I0, q_I, q_ixL, q_ixT, q_ixO, q_lenL, q_lenT, q_lenO, q_sum, q_listL, q_listT, q_abs, q_max2, q_min2, q_slL, q_neg, q_append, q_setI, q_cMul, q_cDiv, q_cPos, q_cPow, at0, at1, at2, at3, at4, at5, ix0, ix1, okW, isOwn, wipeR, restR, wp_chain, wp_zip, wp_enum, wp_str, wp_slO, wp_rdON, wp_put, wp_swap, wp_str0, wp_mownS, wp_keys, wp_mdcomp, endQ_nx, endQ_rt, endO_ro, q_isiI, q_isiB, q_isiS, q_isiT, q_isiL, q_isiTL, q_all, q_any, q_ltS, q_addS, q_inS, q_ninS, q_lenS, q_lenD, q_zipT, q_zipL, q_catT, q_catL, q_slT, q_slS, q_tupleL, q_tupleT, q_tupO, q_lstO, q_listNL, q_listNT, q_insert, q_upper, q_nu2I, q_nu2B, q_nu1I, q_nu1B, q_strI, q_strB, q_strS, q_ixA_T, q_ixA_L, q_ixA_S, q_ixS, q_eqII, q_neII, q_eqSS, q_neSS, q_eqBB, q_neBB, q_dgetS, q_dgetI, q_dinS, q_dinI, at6, at7, gT, gsCons, gsNil, gN, keyOfD, someQ_some, someQ_if, someQ_map, q_allM, q_anyM, i_BN, i_BB, i_BI, i_BS, i_BL, i_BT, i_BD, i_IN, i_IB, i_II, i_IS, i_IL, i_IT, i_ID, i_SN, i_SB, i_SI, i_SS, i_SL, i_ST, i_SD, i_TN, i_TB, i_TI, i_TS, i_TL, i_TT, i_TD, i_LN, i_LB, i_LI, i_LS, i_LL, i_LT, i_LD, sizeLine_eq]
    cases hst : ds.all storeB
    · simp only [q_allM, hst]
      simp [wp_set, wp_sret, wp_sretO, wp_expr, wp_for, wp_sif, wp_mif, wp_mand, wp_mor, wp_mnot, wp_mtest, wp_bnd, wp_ret, wp_some, wp_mcons, wp_nx, wp_bk, wp_ct, wp_asg, wp_mlc, wp_molc, wp_mcomp, wp_callV, wp_callO, wp_macons, wpr_maown, anQ_own, wpr_aug, auQ_val, wpr, rdQ_val, rdQ_own, wpr_rdO, wpr_wrOp, wpr_mopO, wpr_mmut, wpr_setI, owQ_own, wp_setO, wp_tup, wp_lst, wp_olst, wp_list, wp_tuple, wp_range1, wp_range2, wp_part, wp_slice, wp_tru, wp_andV, wp_orV, wp_notV, seqQ_rt, seqQ_ro, seqQ_bk, seqQ_ct, gath, scat, scat1, pos, ownAt, clQ_nx, clQ_rt, clQ_ro, lpQ_nx, lpQ_ct, lpQ_bk, lpQ_rt, lpQ_ro, mrg1, q_I0, q_I, q_ixL, q_ixT, q_ixO, q_lenL, q_lenT, q_lenO, q_sum, q_listL, q_listT, q_abs, q_max2, q_min2, q_slL, q_neg, q_append, q_setI, q_cMul, q_cDiv, q_cPos, q_cPow, at0, at1, at2, at3, at4, at5, ix0, ix1, okW, isOwn, wipeR, restR, wp_chain, wp_zip, wp_enum, wp_str, wp_slO, wp_rdON, wp_put, wp_swap, wp_str0, wp_mownS, wp_keys, wp_mdcomp, endQ_nx, endQ_rt, endO_ro, q_isiI, q_isiB, q_isiS, q_isiT, q_isiL, q_isiTL, q_all, q_any, q_ltS, q_addS, q_inS, q_ninS, q_lenS, q_lenD, q_zipT, q_zipL, q_catT, q_catL, q_slT, q_slS, q_tupleL, q_tupleT, q_tupO, q_lstO, q_listNL, q_listNT, q_insert, q_upper, q_nu2I, q_nu2B, q_nu1I, q_nu1B, q_strI, q_strB, q_strS, q_ixA_T, q_ixA_L, q_ixA_S, q_ixS, q_eqII, q_neII, q_eqSS, q_neSS, q_eqBB, q_neBB, q_dgetS, q_dgetI, q_dinS, q_dinI, at6, at7, gT, gsCons, gsNil, gN, keyOfD, someQ_some, someQ_if, someQ_map, q_allM, q_anyM, i_BN, i_BB, i_BI, i_BS, i_BL, i_BT, i_BD, i_IN, i_IB, i_II, i_IS, i_IL, i_IT, i_ID, i_SN, i_SB, i_SI, i_SS, i_SL, i_ST, i_SD, i_TN, i_TB, i_TI, i_TS, i_TL, i_TT, i_TD, i_LN, i_LB, i_LI, i_LS, i_LL, i_LT, i_LD, sizeLine_eq, seqQ_rt]
      rwa [show treeB (.tuple ds) = false by simp [treeB, hst]] at h
    obtain ⟨ts, rfl, hts⟩ := stores_inv hst
    rw [List.length_map] at hl h1 h8
    simp only [q_allM, hst]
    simp [wp_set, wp_sret, wp_sretO, wp_expr, wp_for, wp_sif, wp_mif, wp_mand, wp_mor, wp_mnot, wp_mtest, wp_bnd, wp_ret, wp_some, wp_mcons, wp_nx, wp_bk, wp_ct, wp_asg, wp_mlc, wp_molc, wp_mcomp, wp_callV, wp_callO, wp_macons, wpr_maown, anQ_own, wpr_aug, auQ_val, wpr, rdQ_val, rdQ_own, wpr_rdO, wpr_wrOp, wpr_mopO, wpr_mmut, wpr_setI, owQ_own, wp_setO, wp_tup, wp_lst, wp_olst, wp_list, wp_tuple, wp_range1, wp_range2, wp_part, wp_slice, wp_tru, wp_andV, wp_orV, wp_notV, seqQ_rt, seqQ_ro, seqQ_bk, seqQ_ct, gath, scat, scat1, pos, ownAt, clQ_nx, clQ_rt, clQ_ro, lpQ_nx, lpQ_ct, lpQ_bk, lpQ_rt, lpQ_ro, mrg1, q_I0, q_I, q_ixL, q_ixT, q_ixO, q_lenL, q_lenT, q_lenO, q_sum, q_listL, q_listT, q_abs, q_max2, q_min2, q_slL, q_neg, q_append, q_setI, q_cMul, q_cDiv, q_cPos, q_cPow, at0, at1, at2, at3, at4, at5, ix0, ix1, okW, isOwn, wipeR, restR, wp_chain, wp_zip, wp_enum, wp_str, wp_slO, wp_rdON, wp_put, wp_swap, wp_str0, wp_mownS, wp_keys, wp_mdcomp, endQ_nx, endQ_rt, endO_ro, q_isiI, q_isiB, q_isiS, q_isiT, q_isiL, q_isiTL, q_all, q_any, q_ltS, q_addS, q_inS, q_ninS, q_lenS, q_lenD, q_zipT, q_zipL, q_catT, q_catL, q_slT, q_slS, q_tupleL, q_tupleT, q_tupO, q_lstO, q_listNL, q_listNT, q_insert, q_upper, q_nu2I, q_nu2B, q_nu1I, q_nu1B, q_strI, q_strB, q_strS, q_ixA_T, q_ixA_L, q_ixA_S, q_ixS, q_eqII, q_neII, q_eqSS, q_neSS, q_eqBB, q_neBB, q_dgetS, q_dgetI, q_dinS, q_dinI, at6, at7, gT, gsCons, gsNil, gN, keyOfD, someQ_some, someQ_if, someQ_map, q_allM, q_anyM, i_BN, i_BB, i_BI, i_BS, i_BL, i_BT, i_BD, i_IN, i_IB, i_II, i_IS, i_IL, i_IT, i_ID, i_SN, i_SB, i_SI, i_SS, i_SL, i_ST, i_SD, i_TN, i_TB, i_TI, i_TS, i_TL, i_TT, i_TD, i_LN, i_LB, i_LI, i_LS, i_LL, i_LT, i_LD, sizeLine_eq, -List.map_map]
    rw [seqQ_nx, wp_seq]
    simp [wp_set, wp_sret, wp_sretO, wp_expr, wp_for, wp_sif, wp_mif, wp_mand, wp_mor, wp_mnot, wp_mtest, wp_bnd, wp_ret, wp_some, wp_mcons, wp_nx, wp_bk, wp_ct, wp_asg, wp_mlc, wp_molc, wp_mcomp, wp_callV, wp_callO, wp_macons, wpr_maown, anQ_own, wpr_aug, auQ_val, wpr, rdQ_val, rdQ_own, wpr_rdO, wpr_wrOp, wpr_mopO, wpr_mmut, wpr_setI, owQ_own, wp_setO, wp_tup, wp_lst, wp_olst, wp_list, wp_tuple, wp_range1, wp_range2, wp_part, wp_slice, wp_tru, wp_andV, wp_orV, wp_notV, seqQ_rt, seqQ_ro, seqQ_bk, seqQ_ct, gath, scat, scat1, pos, ownAt, clQ_nx, clQ_rt, clQ_ro, lpQ_nx, lpQ_ct, lpQ_bk, lpQ_rt, lpQ_ro, mrg1, q_I0, q_I, q_ixL, q_ixT, q_ixO, q_lenL, q_lenT, q_lenO, q_sum, q_listL, q_listT, q_abs, q_max2, q_min2, q_slL, q_neg, q_append, q_setI, q_cMul, q_cDiv, q_cPos, q_cPow, at0, at1, at2, at3, at4, at5, ix0, ix1, okW, isOwn, wipeR, restR, wp_chain, wp_zip, wp_enum, wp_str, wp_slO, wp_rdON, wp_put, wp_swap, wp_str0, wp_mownS, wp_keys, wp_mdcomp, endQ_nx, endQ_rt, endO_ro, q_isiI, q_isiB, q_isiS, q_isiT, q_isiL, q_isiTL, q_all, q_any, q_ltS, q_addS, q_inS, q_ninS, q_lenS, q_lenD, q_zipT, q_zipL, q_catT, q_catL, q_slT, q_slS, q_tupleL, q_tupleT, q_tupO, q_lstO, q_listNL, q_listNT, q_insert, q_upper, q_nu2I, q_nu2B, q_nu1I, q_nu1B, q_strI, q_strB, q_strS, q_ixA_T, q_ixA_L, q_ixA_S, q_ixS, q_eqII, q_neII, q_eqSS, q_neSS, q_eqBB, q_neBB, q_dgetS, q_dgetI, q_dinS, q_dinI, at6, at7, gT, gsCons, gsNil, gN, keyOfD, someQ_some, someQ_if, someQ_map, q_allM, q_anyM, i_BN, i_BB, i_BI, i_BS, i_BL, i_BT, i_BD, i_IN, i_IB, i_II, i_IS, i_IL, i_IT, i_ID, i_SN, i_SB, i_SI, i_SS, i_SL, i_ST, i_SD, i_TN, i_TB, i_TI, i_TS, i_TL, i_TT, i_TD, i_LN, i_LB, i_LI, i_LS, i_LL, i_LT, i_LD, sizeLine_eq]
    rw [cut1]
    refine ⟨by rw [zipD_len]; simp; omega, ?_⟩
    refine wp_map (fun d => .bool (zipP d)) (fun d hm => ?_) ?_
    · obtain ⟨x, hx, y, hy, rfl⟩ := zip_mem hm
      obtain ⟨t, ht, rfl⟩ := List.mem_map.mp hx
      obtain ⟨u, hu, rfl⟩ := List.mem_map.mp (List.mem_of_mem_drop hy)
      refine ⟨_, rfl, ?_⟩
      simp [wp_set, wp_sret, wp_sretO, wp_expr, wp_for, wp_sif, wp_mif, wp_mand, wp_mor, wp_mnot, wp_mtest, wp_bnd, wp_ret, wp_some, wp_mcons, wp_nx, wp_bk, wp_ct, wp_asg, wp_mlc, wp_molc, wp_mcomp, wp_callV, wp_callO, wp_macons, wpr_maown, anQ_own, wpr_aug, auQ_val, wpr, rdQ_val, rdQ_own, wpr_rdO, wpr_wrOp, wpr_mopO, wpr_mmut, wpr_setI, owQ_own, wp_setO, wp_tup, wp_lst, wp_olst, wp_list, wp_tuple, wp_range1, wp_range2, wp_part, wp_slice, wp_tru, wp_andV, wp_orV, wp_notV, seqQ_rt, seqQ_ro, seqQ_bk, seqQ_ct, gath, scat, scat1, pos, ownAt, clQ_nx, clQ_rt, clQ_ro, lpQ_nx, lpQ_ct, lpQ_bk, lpQ_rt, lpQ_ro, mrg1, q_I0, q_I, q_ixL, q_ixT, q_ixO, q_lenL, q_lenT, q_lenO, q_sum, q_listL, q_listT, q_abs, q_max2, q_min2, q_slL, q_neg, q_append, q_setI, q_cMul, q_cDiv, q_cPos, q_cPow, at0, at1, at2, at3, at4, at5, ix0, ix1, okW, isOwn, wipeR, restR, wp_chain, wp_zip, wp_enum, wp_str, wp_slO, wp_rdON, wp_put, wp_swap, wp_str0, wp_mownS, wp_keys, wp_mdcomp, endQ_nx, endQ_rt, endO_ro, q_isiI, q_isiB, q_isiS, q_isiT, q_isiL, q_isiTL, q_all, q_any, q_ltS, q_addS, q_inS, q_ninS, q_lenS, q_lenD, q_zipT, q_zipL, q_catT, q_catL, q_slT, q_slS, q_tupleL, q_tupleT, q_tupO, q_lstO, q_listNL, q_listNT, q_insert, q_upper, q_nu2I, q_nu2B, q_nu1I, q_nu1B, q_strI, q_strB, q_strS, q_ixA_T, q_ixA_L, q_ixA_S, q_ixS, q_eqII, q_neII, q_eqSS, q_neSS, q_eqBB, q_neBB, q_dgetS, q_dgetI, q_dinS, q_dinI, at6, at7, gT, gsCons, gsNil, gN, keyOfD, someQ_some, someQ_if, someQ_map, q_allM, q_anyM, i_BN, i_BB, i_BI, i_BS, i_BL, i_BT, i_BD, i_IN, i_IB, i_II, i_IS, i_IL, i_IT, i_ID, i_SN, i_SB, i_SI, i_SS, i_SL, i_ST, i_SD, i_TN, i_TB, i_TI, i_TS, i_TL, i_TT, i_TD, i_LN, i_LB, i_LI, i_LS, i_LL, i_LT, i_LD, sizeLine_eq, tD, zipP, unSt]
    have hz : (zipD (ts.map tD) ((ts.map tD).drop 1)).all zipP = sortedT ts := sorted_zip ts
    have htr : treeB (.tuple (ts.map tD)) = treeT ts := by
      simp only [treeB, hst, unSts, List.length_map, h1, h8, decide_true, Bool.true_and]
    rw [htr] at h
    simp only [q_allM, hz]
    cases hsort : sortedT ts
    · simp [wp_set, wp_sret, wp_sretO, wp_expr, wp_for, wp_sif, wp_mif, wp_mand, wp_mor, wp_mnot, wp_mtest, wp_bnd, wp_ret, wp_some, wp_mcons, wp_nx, wp_bk, wp_ct, wp_asg, wp_mlc, wp_molc, wp_mcomp, wp_callV, wp_callO, wp_macons, wpr_maown, anQ_own, wpr_aug, auQ_val, wpr, rdQ_val, rdQ_own, wpr_rdO, wpr_wrOp, wpr_mopO, wpr_mmut, wpr_setI, owQ_own, wp_setO, wp_tup, wp_lst, wp_olst, wp_list, wp_tuple, wp_range1, wp_range2, wp_part, wp_slice, wp_tru, wp_andV, wp_orV, wp_notV, seqQ_rt, seqQ_ro, seqQ_bk, seqQ_ct, gath, scat, scat1, pos, ownAt, clQ_nx, clQ_rt, clQ_ro, lpQ_nx, lpQ_ct, lpQ_bk, lpQ_rt, lpQ_ro, mrg1, q_I0, q_I, q_ixL, q_ixT, q_ixO, q_lenL, q_lenT, q_lenO, q_sum, q_listL, q_listT, q_abs, q_max2, q_min2, q_slL, q_neg, q_append, q_setI, q_cMul, q_cDiv, q_cPos, q_cPow, at0, at1, at2, at3, at4, at5, ix0, ix1, okW, isOwn, wipeR, restR, wp_chain, wp_zip, wp_enum, wp_str, wp_slO, wp_rdON, wp_put, wp_swap, wp_str0, wp_mownS, wp_keys, wp_mdcomp, endQ_nx, endQ_rt, endO_ro, q_isiI, q_isiB, q_isiS, q_isiT, q_isiL, q_isiTL, q_all, q_any, q_ltS, q_addS, q_inS, q_ninS, q_lenS, q_lenD, q_zipT, q_zipL, q_catT, q_catL, q_slT, q_slS, q_tupleL, q_tupleT, q_tupO, q_lstO, q_listNL, q_listNT, q_insert, q_upper, q_nu2I, q_nu2B, q_nu1I, q_nu1B, q_strI, q_strB, q_strS, q_ixA_T, q_ixA_L, q_ixA_S, q_ixS, q_eqII, q_neII, q_eqSS, q_neSS, q_eqBB, q_neBB, q_dgetS, q_dgetI, q_dinS, q_dinI, at6, at7, gT, gsCons, gsNil, gN, keyOfD, someQ_some, someQ_if, someQ_map, q_allM, q_anyM, i_BN, i_BB, i_BI, i_BS, i_BL, i_BT, i_BD, i_IN, i_IB, i_II, i_IS, i_IL, i_IT, i_ID, i_SN, i_SB, i_SI, i_SS, i_SL, i_ST, i_SD, i_TN, i_TB, i_TI, i_TS, i_TL, i_TT, i_TD, i_LN, i_LB, i_LI, i_LS, i_LL, i_LT, i_LD, sizeLine_eq, seqQ_rt]
      rwa [show treeT ts = false by simp [treeT, hsort]] at h
    have hpw := sorted_pair hsort
    have hgt : ∀ t ∈ ts, PyData.strOk t.name = true ∧ PyData.strOk t.above = true := fun t ht => good_tD (hd _ (List.mem_map_of_mem ht))
    simp [wp_set, wp_sret, wp_sretO, wp_expr, wp_for, wp_sif, wp_mif, wp_mand, wp_mor, wp_mnot, wp_mtest, wp_bnd, wp_ret, wp_some, wp_mcons, wp_nx, wp_bk, wp_ct, wp_asg, wp_mlc, wp_molc, wp_mcomp, wp_callV, wp_callO, wp_macons, wpr_maown, anQ_own, wpr_aug, auQ_val, wpr, rdQ_val, rdQ_own, wpr_rdO, wpr_wrOp, wpr_mopO, wpr_mmut, wpr_setI, owQ_own, wp_setO, wp_tup, wp_lst, wp_olst, wp_list, wp_tuple, wp_range1, wp_range2, wp_part, wp_slice, wp_tru, wp_andV, wp_orV, wp_notV, seqQ_rt, seqQ_ro, seqQ_bk, seqQ_ct, gath, scat, scat1, pos, ownAt, clQ_nx, clQ_rt, clQ_ro, lpQ_nx, lpQ_ct, lpQ_bk, lpQ_rt, lpQ_ro, mrg1, q_I0, q_I, q_ixL, q_ixT, q_ixO, q_lenL, q_lenT, q_lenO, q_sum, q_listL, q_listT, q_abs, q_max2, q_min2, q_slL, q_neg, q_append, q_setI, q_cMul, q_cDiv, q_cPos, q_cPow, at0, at1, at2, at3, at4, at5, ix0, ix1, okW, isOwn, wipeR, restR, wp_chain, wp_zip, wp_enum, wp_str, wp_slO, wp_rdON, wp_put, wp_swap, wp_str0, wp_mownS, wp_keys, wp_mdcomp, endQ_nx, endQ_rt, endO_ro, q_isiI, q_isiB, q_isiS, q_isiT, q_isiL, q_isiTL, q_all, q_any, q_ltS, q_addS, q_inS, q_ninS, q_lenS, q_lenD, q_zipT, q_zipL, q_catT, q_catL, q_slT, q_slS, q_tupleL, q_tupleT, q_tupO, q_lstO, q_listNL, q_listNT, q_insert, q_upper, q_nu2I, q_nu2B, q_nu1I, q_nu1B, q_strI, q_strB, q_strS, q_ixA_T, q_ixA_L, q_ixA_S, q_ixS, q_eqII, q_neII, q_eqSS, q_neSS, q_eqBB, q_neBB, q_dgetS, q_dgetI, q_dinS, q_dinI, at6, at7, gT, gsCons, gsNil, gN, keyOfD, someQ_some, someQ_if, someQ_map, q_allM, q_anyM, i_BN, i_BB, i_BI, i_BS, i_BL, i_BT, i_BD, i_IN, i_IB, i_II, i_IS, i_IL, i_IT, i_ID, i_SN, i_SB, i_SI, i_SS, i_SL, i_ST, i_SD, i_TN, i_TB, i_TI, i_TS, i_TL, i_TT, i_TD, i_LN, i_LB, i_LI, i_LS, i_LL, i_LT, i_LD, sizeLine_eq, -List.map_map]
    rw [seqQ_nx, wp_seq]
    simp [wp_set, wp_sret, wp_sretO, wp_expr, wp_for, wp_sif, wp_mif, wp_mand, wp_mor, wp_mnot, wp_mtest, wp_bnd, wp_ret, wp_some, wp_mcons, wp_nx, wp_bk, wp_ct, wp_asg, wp_mlc, wp_molc, wp_mcomp, wp_callV, wp_callO, wp_macons, wpr_maown, anQ_own, wpr_aug, auQ_val, wpr, rdQ_val, rdQ_own, wpr_rdO, wpr_wrOp, wpr_mopO, wpr_mmut, wpr_setI, owQ_own, wp_setO, wp_tup, wp_lst, wp_olst, wp_list, wp_tuple, wp_range1, wp_range2, wp_part, wp_slice, wp_tru, wp_andV, wp_orV, wp_notV, seqQ_rt, seqQ_ro, seqQ_bk, seqQ_ct, gath, scat, scat1, pos, ownAt, clQ_nx, clQ_rt, clQ_ro, lpQ_nx, lpQ_ct, lpQ_bk, lpQ_rt, lpQ_ro, mrg1, q_I0, q_I, q_ixL, q_ixT, q_ixO, q_lenL, q_lenT, q_lenO, q_sum, q_listL, q_listT, q_abs, q_max2, q_min2, q_slL, q_neg, q_append, q_setI, q_cMul, q_cDiv, q_cPos, q_cPow, at0, at1, at2, at3, at4, at5, ix0, ix1, okW, isOwn, wipeR, restR, wp_chain, wp_zip, wp_enum, wp_str, wp_slO, wp_rdON, wp_put, wp_swap, wp_str0, wp_mownS, wp_keys, wp_mdcomp, endQ_nx, endQ_rt, endO_ro, q_isiI, q_isiB, q_isiS, q_isiT, q_isiL, q_isiTL, q_all, q_any, q_ltS, q_addS, q_inS, q_ninS, q_lenS, q_lenD, q_zipT, q_zipL, q_catT, q_catL, q_slT, q_slS, q_tupleL, q_tupleT, q_tupO, q_lstO, q_listNL, q_listNT, q_insert, q_upper, q_nu2I, q_nu2B, q_nu1I, q_nu1B, q_strI, q_strB, q_strS, q_ixA_T, q_ixA_L, q_ixA_S, q_ixS, q_eqII, q_neII, q_eqSS, q_neSS, q_eqBB, q_neBB, q_dgetS, q_dgetI, q_dinS, q_dinI, at6, at7, gT, gsCons, gsNil, gN, keyOfD, someQ_some, someQ_if, someQ_map, q_allM, q_anyM, i_BN, i_BB, i_BI, i_BS, i_BL, i_BT, i_BD, i_IN, i_IB, i_II, i_IS, i_IL, i_IT, i_ID, i_SN, i_SB, i_SI, i_SS, i_SL, i_ST, i_SD, i_TN, i_TB, i_TI, i_TS, i_TL, i_TT, i_TD, i_LN, i_LB, i_LI, i_LS, i_LL, i_LT, i_LD, sizeLine_eq, -List.map_map]
    refine ⟨by omega, ?_⟩
    refine wp_dcomp (fun i acc (ρ : List (Sl Empty)) => acc = (ts.map kvT).take i ∧ ρ = [.val (.tuple (ts.map tD)), .un, .un, .un, .un]) ⟨rfl, rfl⟩ ?_ ?_
    · rintro i d acc ρ hi ⟨rfl, rfl⟩
      rw [List.getElem?_map] at hi
      cases ht : ts[i]? with
      | none => rw [ht] at hi; cases hi
      | some t =>
        rw [ht] at hi
        cases hi
        refine ⟨_, rfl, ?_⟩
        simp [wp_set, wp_sret, wp_sretO, wp_expr, wp_for, wp_sif, wp_mif, wp_mand, wp_mor, wp_mnot, wp_mtest, wp_bnd, wp_ret, wp_some, wp_mcons, wp_nx, wp_bk, wp_ct, wp_asg, wp_mlc, wp_molc, wp_mcomp, wp_callV, wp_callO, wp_macons, wpr_maown, anQ_own, wpr_aug, auQ_val, wpr, rdQ_val, rdQ_own, wpr_rdO, wpr_wrOp, wpr_mopO, wpr_mmut, wpr_setI, owQ_own, wp_setO, wp_tup, wp_lst, wp_olst, wp_list, wp_tuple, wp_range1, wp_range2, wp_part, wp_slice, wp_tru, wp_andV, wp_orV, wp_notV, seqQ_rt, seqQ_ro, seqQ_bk, seqQ_ct, gath, scat, scat1, pos, ownAt, clQ_nx, clQ_rt, clQ_ro, lpQ_nx, lpQ_ct, lpQ_bk, lpQ_rt, lpQ_ro, mrg1, q_I0, q_I, q_ixL, q_ixT, q_ixO, q_lenL, q_lenT, q_lenO, q_sum, q_listL, q_listT, q_abs, q_max2, q_min2, q_slL, q_neg, q_append, q_setI, q_cMul, q_cDiv, q_cPos, q_cPow, at0, at1, at2, at3, at4, at5, ix0, ix1, okW, isOwn, wipeR, restR, wp_chain, wp_zip, wp_enum, wp_str, wp_slO, wp_rdON, wp_put, wp_swap, wp_str0, wp_mownS, wp_keys, wp_mdcomp, endQ_nx, endQ_rt, endO_ro, q_isiI, q_isiB, q_isiS, q_isiT, q_isiL, q_isiTL, q_all, q_any, q_ltS, q_addS, q_inS, q_ninS, q_lenS, q_lenD, q_zipT, q_zipL, q_catT, q_catL, q_slT, q_slS, q_tupleL, q_tupleT, q_tupO, q_lstO, q_listNL, q_listNT, q_insert, q_upper, q_nu2I, q_nu2B, q_nu1I, q_nu1B, q_strI, q_strB, q_strS, q_ixA_T, q_ixA_L, q_ixA_S, q_ixS, q_eqII, q_neII, q_eqSS, q_neSS, q_eqBB, q_neBB, q_dgetS, q_dgetI, q_dinS, q_dinI, at6, at7, gT, gsCons, gsNil, gN, keyOfD, someQ_some, someQ_if, someQ_map, q_allM, q_anyM, i_BN, i_BB, i_BI, i_BS, i_BL, i_BT, i_BD, i_IN, i_IB, i_II, i_IS, i_IL, i_IT, i_ID, i_SN, i_SB, i_SI, i_SS, i_SL, i_ST, i_SD, i_TN, i_TB, i_TI, i_TS, i_TL, i_TT, i_TD, i_LN, i_LB, i_LI, i_LS, i_LL, i_LT, i_LD, sizeLine_eq, tD, -List.map_map]
        rw [put_new]
        · rw [List.take_add_one, List.getElem?_map, ht]
          rfl
        · intro p hp e
          rw [← List.map_take] at hp
          obtain ⟨u, hu, rfl⟩ := List.mem_map.mp hp
          have hlt : ltN u.name t.name := by
            have hsplit : ts.take i ++ ts.drop i = ts := List.take_append_drop i ts
            have hmem : t ∈ ts.drop i := by
              have : (ts.drop i)[0]? = some t := by rw [List.getElem?_drop]; simpa using ht
              exact List.mem_of_getElem? this
            rw [← hsplit] at hpw
            exact (List.pairwise_append.mp hpw).2.2 u hu t hmem
          have e : (Sum.inr u.name : Key) = Sum.inr t.name := e
          rw [Sum.inr.inj e] at hlt
          exact List.lt_irrefl _ hlt
    rintro kvs ρ ⟨rfl, rfl⟩
    rw [List.length_map, show (ts.map kvT).take ts.length = ts.map kvT from List.take_of_length_le (by simp)]
    simp [wp_set, wp_sret, wp_sretO, wp_expr, wp_for, wp_sif, wp_mif, wp_mand, wp_mor, wp_mnot, wp_mtest, wp_bnd, wp_ret, wp_some, wp_mcons, wp_nx, wp_bk, wp_ct, wp_asg, wp_mlc, wp_molc, wp_mcomp, wp_callV, wp_callO, wp_macons, wpr_maown, anQ_own, wpr_aug, auQ_val, wpr, rdQ_val, rdQ_own, wpr_rdO, wpr_wrOp, wpr_mopO, wpr_mmut, wpr_setI, owQ_own, wp_setO, wp_tup, wp_lst, wp_olst, wp_list, wp_tuple, wp_range1, wp_range2, wp_part, wp_slice, wp_tru, wp_andV, wp_orV, wp_notV, seqQ_rt, seqQ_ro, seqQ_bk, seqQ_ct, gath, scat, scat1, pos, ownAt, clQ_nx, clQ_rt, clQ_ro, lpQ_nx, lpQ_ct, lpQ_bk, lpQ_rt, lpQ_ro, mrg1, q_I0, q_I, q_ixL, q_ixT, q_ixO, q_lenL, q_lenT, q_lenO, q_sum, q_listL, q_listT, q_abs, q_max2, q_min2, q_slL, q_neg, q_append, q_setI, q_cMul, q_cDiv, q_cPos, q_cPow, at0, at1, at2, at3, at4, at5, ix0, ix1, okW, isOwn, wipeR, restR, wp_chain, wp_zip, wp_enum, wp_str, wp_slO, wp_rdON, wp_put, wp_swap, wp_str0, wp_mownS, wp_keys, wp_mdcomp, endQ_nx, endQ_rt, endO_ro, q_isiI, q_isiB, q_isiS, q_isiT, q_isiL, q_isiTL, q_all, q_any, q_ltS, q_addS, q_inS, q_ninS, q_lenS, q_lenD, q_zipT, q_zipL, q_catT, q_catL, q_slT, q_slS, q_tupleL, q_tupleT, q_tupO, q_lstO, q_listNL, q_listNT, q_insert, q_upper, q_nu2I, q_nu2B, q_nu1I, q_nu1B, q_strI, q_strB, q_strS, q_ixA_T, q_ixA_L, q_ixA_S, q_ixS, q_eqII, q_neII, q_eqSS, q_neSS, q_eqBB, q_neBB, q_dgetS, q_dgetI, q_dinS, q_dinI, at6, at7, gT, gsCons, gsNil, gN, keyOfD, someQ_some, someQ_if, someQ_map, q_allM, q_anyM, i_BN, i_BB, i_BI, i_BS, i_BL, i_BT, i_BD, i_IN, i_IB, i_II, i_IS, i_IL, i_IT, i_ID, i_SN, i_SB, i_SI, i_SS, i_SL, i_ST, i_SD, i_TN, i_TB, i_TI, i_TS, i_TL, i_TT, i_TD, i_LN, i_LB, i_LI, i_LS, i_LL, i_LT, i_LD, sizeLine_eq, -List.map_map]
    rw [seqQ_nx, wp_seq]
    simp [wp_set, wp_sret, wp_sretO, wp_expr, wp_for, wp_sif, wp_mif, wp_mand, wp_mor, wp_mnot, wp_mtest, wp_bnd, wp_ret, wp_some, wp_mcons, wp_nx, wp_bk, wp_ct, wp_asg, wp_mlc, wp_molc, wp_mcomp, wp_callV, wp_callO, wp_macons, wpr_maown, anQ_own, wpr_aug, auQ_val, wpr, rdQ_val, rdQ_own, wpr_rdO, wpr_wrOp, wpr_mopO, wpr_mmut, wpr_setI, owQ_own, wp_setO, wp_tup, wp_lst, wp_olst, wp_list, wp_tuple, wp_range1, wp_range2, wp_part, wp_slice, wp_tru, wp_andV, wp_orV, wp_notV, seqQ_rt, seqQ_ro, seqQ_bk, seqQ_ct, gath, scat, scat1, pos, ownAt, clQ_nx, clQ_rt, clQ_ro, lpQ_nx, lpQ_ct, lpQ_bk, lpQ_rt, lpQ_ro, mrg1, q_I0, q_I, q_ixL, q_ixT, q_ixO, q_lenL, q_lenT, q_lenO, q_sum, q_listL, q_listT, q_abs, q_max2, q_min2, q_slL, q_neg, q_append, q_setI, q_cMul, q_cDiv, q_cPos, q_cPow, at0, at1, at2, at3, at4, at5, ix0, ix1, okW, isOwn, wipeR, restR, wp_chain, wp_zip, wp_enum, wp_str, wp_slO, wp_rdON, wp_put, wp_swap, wp_str0, wp_mownS, wp_keys, wp_mdcomp, endQ_nx, endQ_rt, endO_ro, q_isiI, q_isiB, q_isiS, q_isiT, q_isiL, q_isiTL, q_all, q_any, q_ltS, q_addS, q_inS, q_ninS, q_lenS, q_lenD, q_zipT, q_zipL, q_catT, q_catL, q_slT, q_slS, q_tupleL, q_tupleT, q_tupO, q_lstO, q_listNL, q_listNT, q_insert, q_upper, q_nu2I, q_nu2B, q_nu1I, q_nu1B, q_strI, q_strB, q_strS, q_ixA_T, q_ixA_L, q_ixA_S, q_ixS, q_eqII, q_neII, q_eqSS, q_neSS, q_eqBB, q_neBB, q_dgetS, q_dgetI, q_dinS, q_dinI, at6, at7, gT, gsCons, gsNil, gN, keyOfD, someQ_some, someQ_if, someQ_map, q_allM, q_anyM, i_BN, i_BB, i_BI, i_BS, i_BL, i_BT, i_BD, i_IN, i_IB, i_II, i_IS, i_IL, i_IT, i_ID, i_SN, i_SB, i_SI, i_SS, i_SL, i_ST, i_SD, i_TN, i_TB, i_TI, i_TS, i_TL, i_TT, i_TD, i_LN, i_LB, i_LI, i_LS, i_LL, i_LT, i_LD, sizeLine_eq, -List.map_map]
    refine ⟨by omega, ?_⟩
    refine wp_map (fun d => .bool (match unSt d with | some t => abvT ts t | none => false)) (fun d hm => ?_) ?_
    · obtain ⟨t, ht, rfl⟩ := List.mem_map.mp hm
      refine ⟨_, rfl, ?_⟩
      have hlk : (lookD (ts.map kvT) (.inr t.above)).isSome = hasT ts t.above := by
        rw [look_T, Option.isSome_map, Bool.eq_iff_iff]
        simp [hasT]
      have hu : (match unSt (tD t) with | some t => abvT ts t | none => false) = abvT ts t := rfl
      rw [hu]
      by_cases h0 : t.above = PySem.Str.ofString ""
      · have : abvT ts t = true := by simp [abvT, h0]
        rw [this]
        simp [wp_set, wp_sret, wp_sretO, wp_expr, wp_for, wp_sif, wp_mif, wp_mand, wp_mor, wp_mnot, wp_mtest, wp_bnd, wp_ret, wp_some, wp_mcons, wp_nx, wp_bk, wp_ct, wp_asg, wp_mlc, wp_molc, wp_mcomp, wp_callV, wp_callO, wp_macons, wpr_maown, anQ_own, wpr_aug, auQ_val, wpr, rdQ_val, rdQ_own, wpr_rdO, wpr_wrOp, wpr_mopO, wpr_mmut, wpr_setI, owQ_own, wp_setO, wp_tup, wp_lst, wp_olst, wp_list, wp_tuple, wp_range1, wp_range2, wp_part, wp_slice, wp_tru, wp_andV, wp_orV, wp_notV, seqQ_rt, seqQ_ro, seqQ_bk, seqQ_ct, gath, scat, scat1, pos, ownAt, clQ_nx, clQ_rt, clQ_ro, lpQ_nx, lpQ_ct, lpQ_bk, lpQ_rt, lpQ_ro, mrg1, q_I0, q_I, q_ixL, q_ixT, q_ixO, q_lenL, q_lenT, q_lenO, q_sum, q_listL, q_listT, q_abs, q_max2, q_min2, q_slL, q_neg, q_append, q_setI, q_cMul, q_cDiv, q_cPos, q_cPow, at0, at1, at2, at3, at4, at5, ix0, ix1, okW, isOwn, wipeR, restR, wp_chain, wp_zip, wp_enum, wp_str, wp_slO, wp_rdON, wp_put, wp_swap, wp_str0, wp_mownS, wp_keys, wp_mdcomp, endQ_nx, endQ_rt, endO_ro, q_isiI, q_isiB, q_isiS, q_isiT, q_isiL, q_isiTL, q_all, q_any, q_ltS, q_addS, q_inS, q_ninS, q_lenS, q_lenD, q_zipT, q_zipL, q_catT, q_catL, q_slT, q_slS, q_tupleL, q_tupleT, q_tupO, q_lstO, q_listNL, q_listNT, q_insert, q_upper, q_nu2I, q_nu2B, q_nu1I, q_nu1B, q_strI, q_strB, q_strS, q_ixA_T, q_ixA_L, q_ixA_S, q_ixS, q_eqII, q_neII, q_eqSS, q_neSS, q_eqBB, q_neBB, q_dgetS, q_dgetI, q_dinS, q_dinI, at6, at7, gT, gsCons, gsNil, gN, keyOfD, someQ_some, someQ_if, someQ_map, q_allM, q_anyM, i_BN, i_BB, i_BI, i_BS, i_BL, i_BT, i_BD, i_IN, i_IB, i_II, i_IS, i_IL, i_IT, i_ID, i_SN, i_SB, i_SI, i_SS, i_SL, i_ST, i_SD, i_TN, i_TB, i_TI, i_TS, i_TL, i_TT, i_TD, i_LN, i_LB, i_LI, i_LS, i_LL, i_LT, i_LD, sizeLine_eq, tD, (hgt t ht).2, strOk_nil, h0]
      · have : abvT ts t = hasT ts t.above := by simp [abvT, h0]
        rw [this]
        simp [wp_set, wp_sret, wp_sretO, wp_expr, wp_for, wp_sif, wp_mif, wp_mand, wp_mor, wp_mnot, wp_mtest, wp_bnd, wp_ret, wp_some, wp_mcons, wp_nx, wp_bk, wp_ct, wp_asg, wp_mlc, wp_molc, wp_mcomp, wp_callV, wp_callO, wp_macons, wpr_maown, anQ_own, wpr_aug, auQ_val, wpr, rdQ_val, rdQ_own, wpr_rdO, wpr_wrOp, wpr_mopO, wpr_mmut, wpr_setI, owQ_own, wp_setO, wp_tup, wp_lst, wp_olst, wp_list, wp_tuple, wp_range1, wp_range2, wp_part, wp_slice, wp_tru, wp_andV, wp_orV, wp_notV, seqQ_rt, seqQ_ro, seqQ_bk, seqQ_ct, gath, scat, scat1, pos, ownAt, clQ_nx, clQ_rt, clQ_ro, lpQ_nx, lpQ_ct, lpQ_bk, lpQ_rt, lpQ_ro, mrg1, q_I0, q_I, q_ixL, q_ixT, q_ixO, q_lenL, q_lenT, q_lenO, q_sum, q_listL, q_listT, q_abs, q_max2, q_min2, q_slL, q_neg, q_append, q_setI, q_cMul, q_cDiv, q_cPos, q_cPow, at0, at1, at2, at3, at4, at5, ix0, ix1, okW, isOwn, wipeR, restR, wp_chain, wp_zip, wp_enum, wp_str, wp_slO, wp_rdON, wp_put, wp_swap, wp_str0, wp_mownS, wp_keys, wp_mdcomp, endQ_nx, endQ_rt, endO_ro, q_isiI, q_isiB, q_isiS, q_isiT, q_isiL, q_isiTL, q_all, q_any, q_ltS, q_addS, q_inS, q_ninS, q_lenS, q_lenD, q_zipT, q_zipL, q_catT, q_catL, q_slT, q_slS, q_tupleL, q_tupleT, q_tupO, q_lstO, q_listNL, q_listNT, q_insert, q_upper, q_nu2I, q_nu2B, q_nu1I, q_nu1B, q_strI, q_strB, q_strS, q_ixA_T, q_ixA_L, q_ixA_S, q_ixS, q_eqII, q_neII, q_eqSS, q_neSS, q_eqBB, q_neBB, q_dgetS, q_dgetI, q_dinS, q_dinI, at6, at7, gT, gsCons, gsNil, gN, keyOfD, someQ_some, someQ_if, someQ_map, q_allM, q_anyM, i_BN, i_BB, i_BI, i_BS, i_BL, i_BT, i_BD, i_IN, i_IB, i_II, i_IS, i_IL, i_IT, i_ID, i_SN, i_SB, i_SI, i_SS, i_SL, i_ST, i_SD, i_TN, i_TB, i_TI, i_TS, i_TL, i_TT, i_TD, i_LN, i_LB, i_LI, i_LS, i_LL, i_LT, i_LD, sizeLine_eq, tD, (hgt t ht).2, strOk_nil, h0, hlk]
    rw [show ((ts.map tD).map fun d => PyData.bool (match unSt d with | some t => abvT ts t | none => false)) = (ts.map (abvT ts)).map PyData.bool by rw [List.map_map, List.map_map]; rfl]
    simp only [q_all, List.all_map]
    rw [show ts.all (id ∘ abvT ts) = ts.all (abvT ts) from rfl]
    cases habv : ts.all (abvT ts)
    · simp [wp_set, wp_sret, wp_sretO, wp_expr, wp_for, wp_sif, wp_mif, wp_mand, wp_mor, wp_mnot, wp_mtest, wp_bnd, wp_ret, wp_some, wp_mcons, wp_nx, wp_bk, wp_ct, wp_asg, wp_mlc, wp_molc, wp_mcomp, wp_callV, wp_callO, wp_macons, wpr_maown, anQ_own, wpr_aug, auQ_val, wpr, rdQ_val, rdQ_own, wpr_rdO, wpr_wrOp, wpr_mopO, wpr_mmut, wpr_setI, owQ_own, wp_setO, wp_tup, wp_lst, wp_olst, wp_list, wp_tuple, wp_range1, wp_range2, wp_part, wp_slice, wp_tru, wp_andV, wp_orV, wp_notV, seqQ_rt, seqQ_ro, seqQ_bk, seqQ_ct, gath, scat, scat1, pos, ownAt, clQ_nx, clQ_rt, clQ_ro, lpQ_nx, lpQ_ct, lpQ_bk, lpQ_rt, lpQ_ro, mrg1, q_I0, q_I, q_ixL, q_ixT, q_ixO, q_lenL, q_lenT, q_lenO, q_sum, q_listL, q_listT, q_abs, q_max2, q_min2, q_slL, q_neg, q_append, q_setI, q_cMul, q_cDiv, q_cPos, q_cPow, at0, at1, at2, at3, at4, at5, ix0, ix1, okW, isOwn, wipeR, restR, wp_chain, wp_zip, wp_enum, wp_str, wp_slO, wp_rdON, wp_put, wp_swap, wp_str0, wp_mownS, wp_keys, wp_mdcomp, endQ_nx, endQ_rt, endO_ro, q_isiI, q_isiB, q_isiS, q_isiT, q_isiL, q_isiTL, q_all, q_any, q_ltS, q_addS, q_inS, q_ninS, q_lenS, q_lenD, q_zipT, q_zipL, q_catT, q_catL, q_slT, q_slS, q_tupleL, q_tupleT, q_tupO, q_lstO, q_listNL, q_listNT, q_insert, q_upper, q_nu2I, q_nu2B, q_nu1I, q_nu1B, q_strI, q_strB, q_strS, q_ixA_T, q_ixA_L, q_ixA_S, q_ixS, q_eqII, q_neII, q_eqSS, q_neSS, q_eqBB, q_neBB, q_dgetS, q_dgetI, q_dinS, q_dinI, at6, at7, gT, gsCons, gsNil, gN, keyOfD, someQ_some, someQ_if, someQ_map, q_allM, q_anyM, i_BN, i_BB, i_BI, i_BS, i_BL, i_BT, i_BD, i_IN, i_IB, i_II, i_IS, i_IL, i_IT, i_ID, i_SN, i_SB, i_SI, i_SS, i_SL, i_ST, i_SD, i_TN, i_TB, i_TI, i_TS, i_TL, i_TT, i_TD, i_LN, i_LB, i_LI, i_LS, i_LL, i_LT, i_LD, sizeLine_eq, seqQ_rt]
      rwa [show treeT ts = false by simp [treeT, habv]] at h
    simp [wp_set, wp_sret, wp_sretO, wp_expr, wp_for, wp_sif, wp_mif, wp_mand, wp_mor, wp_mnot, wp_mtest, wp_bnd, wp_ret, wp_some, wp_mcons, wp_nx, wp_bk, wp_ct, wp_asg, wp_mlc, wp_molc, wp_mcomp, wp_callV, wp_callO, wp_macons, wpr_maown, anQ_own, wpr_aug, auQ_val, wpr, rdQ_val, rdQ_own, wpr_rdO, wpr_wrOp, wpr_mopO, wpr_mmut, wpr_setI, owQ_own, wp_setO, wp_tup, wp_lst, wp_olst, wp_list, wp_tuple, wp_range1, wp_range2, wp_part, wp_slice, wp_tru, wp_andV, wp_orV, wp_notV, seqQ_rt, seqQ_ro, seqQ_bk, seqQ_ct, gath, scat, scat1, pos, ownAt, clQ_nx, clQ_rt, clQ_ro, lpQ_nx, lpQ_ct, lpQ_bk, lpQ_rt, lpQ_ro, mrg1, q_I0, q_I, q_ixL, q_ixT, q_ixO, q_lenL, q_lenT, q_lenO, q_sum, q_listL, q_listT, q_abs, q_max2, q_min2, q_slL, q_neg, q_append, q_setI, q_cMul, q_cDiv, q_cPos, q_cPow, at0, at1, at2, at3, at4, at5, ix0, ix1, okW, isOwn, wipeR, restR, wp_chain, wp_zip, wp_enum, wp_str, wp_slO, wp_rdON, wp_put, wp_swap, wp_str0, wp_mownS, wp_keys, wp_mdcomp, endQ_nx, endQ_rt, endO_ro, q_isiI, q_isiB, q_isiS, q_isiT, q_isiL, q_isiTL, q_all, q_any, q_ltS, q_addS, q_inS, q_ninS, q_lenS, q_lenD, q_zipT, q_zipL, q_catT, q_catL, q_slT, q_slS, q_tupleL, q_tupleT, q_tupO, q_lstO, q_listNL, q_listNT, q_insert, q_upper, q_nu2I, q_nu2B, q_nu1I, q_nu1B, q_strI, q_strB, q_strS, q_ixA_T, q_ixA_L, q_ixA_S, q_ixS, q_eqII, q_neII, q_eqSS, q_neSS, q_eqBB, q_neBB, q_dgetS, q_dgetI, q_dinS, q_dinI, at6, at7, gT, gsCons, gsNil, gN, keyOfD, someQ_some, someQ_if, someQ_map, q_allM, q_anyM, i_BN, i_BB, i_BI, i_BS, i_BL, i_BT, i_BD, i_IN, i_IB, i_II, i_IS, i_IL, i_IT, i_ID, i_SN, i_SB, i_SI, i_SS, i_SL, i_ST, i_SD, i_TN, i_TB, i_TI, i_TS, i_TL, i_TT, i_TD, i_LN, i_LB, i_LI, i_LS, i_LL, i_LT, i_LD, sizeLine_eq, -List.map_map]
    rw [seqQ_nx]
    simp [wp_set, wp_sret, wp_sretO, wp_expr, wp_for, wp_sif, wp_mif, wp_mand, wp_mor, wp_mnot, wp_mtest, wp_bnd, wp_ret, wp_some, wp_mcons, wp_nx, wp_bk, wp_ct, wp_asg, wp_mlc, wp_molc, wp_mcomp, wp_callV, wp_callO, wp_macons, wpr_maown, anQ_own, wpr_aug, auQ_val, wpr, rdQ_val, rdQ_own, wpr_rdO, wpr_wrOp, wpr_mopO, wpr_mmut, wpr_setI, owQ_own, wp_setO, wp_tup, wp_lst, wp_olst, wp_list, wp_tuple, wp_range1, wp_range2, wp_part, wp_slice, wp_tru, wp_andV, wp_orV, wp_notV, seqQ_rt, seqQ_ro, seqQ_bk, seqQ_ct, gath, scat, scat1, pos, ownAt, clQ_nx, clQ_rt, clQ_ro, lpQ_nx, lpQ_ct, lpQ_bk, lpQ_rt, lpQ_ro, mrg1, q_I0, q_I, q_ixL, q_ixT, q_ixO, q_lenL, q_lenT, q_lenO, q_sum, q_listL, q_listT, q_abs, q_max2, q_min2, q_slL, q_neg, q_append, q_setI, q_cMul, q_cDiv, q_cPos, q_cPow, at0, at1, at2, at3, at4, at5, ix0, ix1, okW, isOwn, wipeR, restR, wp_chain, wp_zip, wp_enum, wp_str, wp_slO, wp_rdON, wp_put, wp_swap, wp_str0, wp_mownS, wp_keys, wp_mdcomp, endQ_nx, endQ_rt, endO_ro, q_isiI, q_isiB, q_isiS, q_isiT, q_isiL, q_isiTL, q_all, q_any, q_ltS, q_addS, q_inS, q_ninS, q_lenS, q_lenD, q_zipT, q_zipL, q_catT, q_catL, q_slT, q_slS, q_tupleL, q_tupleT, q_tupO, q_lstO, q_listNL, q_listNT, q_insert, q_upper, q_nu2I, q_nu2B, q_nu1I, q_nu1B, q_strI, q_strB, q_strS, q_ixA_T, q_ixA_L, q_ixA_S, q_ixS, q_eqII, q_neII, q_eqSS, q_neSS, q_eqBB, q_neBB, q_dgetS, q_dgetI, q_dinS, q_dinI, at6, at7, gT, gsCons, gsNil, gN, keyOfD, someQ_some, someQ_if, someQ_map, q_allM, q_anyM, i_BN, i_BB, i_BI, i_BS, i_BL, i_BT, i_BD, i_IN, i_IB, i_II, i_IS, i_IL, i_IT, i_ID, i_SN, i_SB, i_SI, i_SS, i_SL, i_ST, i_SD, i_TN, i_TB, i_TI, i_TS, i_TL, i_TT, i_TD, i_LN, i_LB, i_LI, i_LS, i_LL, i_LT, i_LD, sizeLine_eq, -List.map_map]
    refine ⟨_, rfl, by rw [List.length_map]; omega, ?_⟩
    have hk1 : ∀ k y, lookD (ts.map kvT) (.inr k) = some y → y = .str (abT ts k) ∧ PyData.strOk (abT ts k) = true ∧ (abT ts k = "" ∨ (lookD (ts.map kvT) (.inr (abT ts k))).isSome = true) := by
      intro k y hy
      rw [look_T] at hy
      cases hf : ts.find? fun t => decide (t.name = k) with
      | none => rw [hf] at hy; cases hy
      | some t =>
        rw [hf] at hy
        cases hy
        have e : abT ts k = t.above := by unfold abT; rw [hf]
        have ht := List.mem_of_find?_eq_some hf
        rw [e]
        refine ⟨rfl, (hgt t ht).2, ?_⟩
        have := List.all_eq_true.mp habv t ht
        unfold abvT at this
        rw [Bool.or_eq_true] at this
        rcases this with h0 | h0
        · exact .inl (of_decide_eq_true h0)
        · right
          rw [look_T, Option.isSome_map]
          obtain ⟨u, _, e2⟩ := find_some_of h0
          rw [e2]
          rfl
    refine wp_map (fun d => .bool (match d with | .str x => (wayUp (abT ts) ts.length (abT ts x)).any fun y => decide (y = x) | _ => false)) (fun d hm => ?_) ?_
    · rw [List.map_map] at hm
      obtain ⟨t, ht, rfl⟩ := List.mem_map.mp hm
      refine ⟨_, rfl, ?_⟩
      have hsl : (lookD (ts.map kvT) (.inr t.name)).isSome = true := by
        rw [look_T, find_mem hpw ht]
        rfl
      simp [wp_set, wp_sret, wp_sretO, wp_expr, wp_for, wp_sif, wp_mif, wp_mand, wp_mor, wp_mnot, wp_mtest, wp_bnd, wp_ret, wp_some, wp_mcons, wp_nx, wp_bk, wp_ct, wp_asg, wp_mlc, wp_molc, wp_mcomp, wp_callV, wp_callO, wp_macons, wpr_maown, anQ_own, wpr_aug, auQ_val, wpr, rdQ_val, rdQ_own, wpr_rdO, wpr_wrOp, wpr_mopO, wpr_mmut, wpr_setI, owQ_own, wp_setO, wp_tup, wp_lst, wp_olst, wp_list, wp_tuple, wp_range1, wp_range2, wp_part, wp_slice, wp_tru, wp_andV, wp_orV, wp_notV, seqQ_rt, seqQ_ro, seqQ_bk, seqQ_ct, gath, scat, scat1, pos, ownAt, clQ_nx, clQ_rt, clQ_ro, lpQ_nx, lpQ_ct, lpQ_bk, lpQ_rt, lpQ_ro, mrg1, q_I0, q_I, q_ixL, q_ixT, q_ixO, q_lenL, q_lenT, q_lenO, q_sum, q_listL, q_listT, q_abs, q_max2, q_min2, q_slL, q_neg, q_append, q_setI, q_cMul, q_cDiv, q_cPos, q_cPow, at0, at1, at2, at3, at4, at5, ix0, ix1, okW, isOwn, wipeR, restR, wp_chain, wp_zip, wp_enum, wp_str, wp_slO, wp_rdON, wp_put, wp_swap, wp_str0, wp_mownS, wp_keys, wp_mdcomp, endQ_nx, endQ_rt, endO_ro, q_isiI, q_isiB, q_isiS, q_isiT, q_isiL, q_isiTL, q_all, q_any, q_ltS, q_addS, q_inS, q_ninS, q_lenS, q_lenD, q_zipT, q_zipL, q_catT, q_catL, q_slT, q_slS, q_tupleL, q_tupleT, q_tupO, q_lstO, q_listNL, q_listNT, q_insert, q_upper, q_nu2I, q_nu2B, q_nu1I, q_nu1B, q_strI, q_strB, q_strS, q_ixA_T, q_ixA_L, q_ixA_S, q_ixS, q_eqII, q_neII, q_eqSS, q_neSS, q_eqBB, q_neBB, q_dgetS, q_dgetI, q_dinS, q_dinI, at6, at7, gT, gsCons, gsNil, gN, keyOfD, someQ_some, someQ_if, someQ_map, q_allM, q_anyM, i_BN, i_BB, i_BI, i_BS, i_BL, i_BT, i_BD, i_IN, i_IB, i_II, i_IS, i_IL, i_IT, i_ID, i_SN, i_SB, i_SI, i_SS, i_SL, i_ST, i_SD, i_TN, i_TB, i_TI, i_TS, i_TL, i_TT, i_TD, i_LN, i_LB, i_LI, i_LS, i_LL, i_LT, i_LD, sizeLine_eq, kvT, kD, -List.map_map]
      refine up_step (ab := abT ts) (by rw [List.length_map]; omega) hsl hk1 ?_
      rw [List.length_map]
      simp [wp_set, wp_sret, wp_sretO, wp_expr, wp_for, wp_sif, wp_mif, wp_mand, wp_mor, wp_mnot, wp_mtest, wp_bnd, wp_ret, wp_some, wp_mcons, wp_nx, wp_bk, wp_ct, wp_asg, wp_mlc, wp_molc, wp_mcomp, wp_callV, wp_callO, wp_macons, wpr_maown, anQ_own, wpr_aug, auQ_val, wpr, rdQ_val, rdQ_own, wpr_rdO, wpr_wrOp, wpr_mopO, wpr_mmut, wpr_setI, owQ_own, wp_setO, wp_tup, wp_lst, wp_olst, wp_list, wp_tuple, wp_range1, wp_range2, wp_part, wp_slice, wp_tru, wp_andV, wp_orV, wp_notV, seqQ_rt, seqQ_ro, seqQ_bk, seqQ_ct, gath, scat, scat1, pos, ownAt, clQ_nx, clQ_rt, clQ_ro, lpQ_nx, lpQ_ct, lpQ_bk, lpQ_rt, lpQ_ro, mrg1, q_I0, q_I, q_ixL, q_ixT, q_ixO, q_lenL, q_lenT, q_lenO, q_sum, q_listL, q_listT, q_abs, q_max2, q_min2, q_slL, q_neg, q_append, q_setI, q_cMul, q_cDiv, q_cPos, q_cPow, at0, at1, at2, at3, at4, at5, ix0, ix1, okW, isOwn, wipeR, restR, wp_chain, wp_zip, wp_enum, wp_str, wp_slO, wp_rdON, wp_put, wp_swap, wp_str0, wp_mownS, wp_keys, wp_mdcomp, endQ_nx, endQ_rt, endO_ro, q_isiI, q_isiB, q_isiS, q_isiT, q_isiL, q_isiTL, q_all, q_any, q_ltS, q_addS, q_inS, q_ninS, q_lenS, q_lenD, q_zipT, q_zipL, q_catT, q_catL, q_slT, q_slS, q_tupleL, q_tupleT, q_tupO, q_lstO, q_listNL, q_listNT, q_insert, q_upper, q_nu2I, q_nu2B, q_nu1I, q_nu1B, q_strI, q_strB, q_strS, q_ixA_T, q_ixA_L, q_ixA_S, q_ixS, q_eqII, q_neII, q_eqSS, q_neSS, q_eqBB, q_neBB, q_dgetS, q_dgetI, q_dinS, q_dinI, at6, at7, gT, gsCons, gsNil, gN, keyOfD, someQ_some, someQ_if, someQ_map, q_allM, q_anyM, i_BN, i_BB, i_BI, i_BS, i_BL, i_BT, i_BD, i_IN, i_IB, i_II, i_IS, i_IL, i_IT, i_ID, i_SN, i_SB, i_SI, i_SS, i_SL, i_ST, i_SD, i_TN, i_TB, i_TI, i_TS, i_TL, i_TT, i_TD, i_LN, i_LB, i_LI, i_LS, i_LL, i_LT, i_LD, sizeLine_eq, -List.map_map, q_inStrs (wayUp_ok (fun k => abT_ok (fun t ht => (hgt t ht).2) k) _ _ (abT_ok (fun t ht => (hgt t ht).2) t.name)) (hgt t ht).1]
    rw [show (((ts.map kvT).map fun p => kD p.1).map fun d => PyData.bool (match d with | .str x => (wayUp (abT ts) ts.length (abT ts x)).any fun y => decide (y = x) | _ => false)) = (ts.map (ringT ts)).map PyData.bool by
      rw [List.map_map, List.map_map, List.map_map]
      refine List.map_congr_left fun t ht => ?_
      show PyData.bool ((wayUp (abT ts) ts.length (abT ts t.name)).any fun y => decide (y = t.name)) = PyData.bool (ringT ts t)
      rw [abT_of hpw ht]
      rfl]
    simp only [q_any, List.any_map]
    rw [show ts.any (id ∘ ringT ts) = ts.any (ringT ts) from rfl]
    rw [show treeT ts = !ts.any (ringT ts) by simp [treeT, hsort, habv]] at h
    generalize ts.any (ringT ts) = b at h ⊢
    cases b <;> simp [wp_set, wp_sret, wp_sretO, wp_expr, wp_for, wp_sif, wp_mif, wp_mand, wp_mor, wp_mnot, wp_mtest, wp_bnd, wp_ret, wp_some, wp_mcons, wp_nx, wp_bk, wp_ct, wp_asg, wp_mlc, wp_molc, wp_mcomp, wp_callV, wp_callO, wp_macons, wpr_maown, anQ_own, wpr_aug, auQ_val, wpr, rdQ_val, rdQ_own, wpr_rdO, wpr_wrOp, wpr_mopO, wpr_mmut, wpr_setI, owQ_own, wp_setO, wp_tup, wp_lst, wp_olst, wp_list, wp_tuple, wp_range1, wp_range2, wp_part, wp_slice, wp_tru, wp_andV, wp_orV, wp_notV, seqQ_rt, seqQ_ro, seqQ_bk, seqQ_ct, gath, scat, scat1, pos, ownAt, clQ_nx, clQ_rt, clQ_ro, lpQ_nx, lpQ_ct, lpQ_bk, lpQ_rt, lpQ_ro, mrg1, q_I0, q_I, q_ixL, q_ixT, q_ixO, q_lenL, q_lenT, q_lenO, q_sum, q_listL, q_listT, q_abs, q_max2, q_min2, q_slL, q_neg, q_append, q_setI, q_cMul, q_cDiv, q_cPos, q_cPow, at0, at1, at2, at3, at4, at5, ix0, ix1, okW, isOwn, wipeR, restR, wp_chain, wp_zip, wp_enum, wp_str, wp_slO, wp_rdON, wp_put, wp_swap, wp_str0, wp_mownS, wp_keys, wp_mdcomp, endQ_nx, endQ_rt, endO_ro, q_isiI, q_isiB, q_isiS, q_isiT, q_isiL, q_isiTL, q_all, q_any, q_ltS, q_addS, q_inS, q_ninS, q_lenS, q_lenD, q_zipT, q_zipL, q_catT, q_catL, q_slT, q_slS, q_tupleL, q_tupleT, q_tupO, q_lstO, q_listNL, q_listNT, q_insert, q_upper, q_nu2I, q_nu2B, q_nu1I, q_nu1B, q_strI, q_strB, q_strS, q_ixA_T, q_ixA_L, q_ixA_S, q_ixS, q_eqII, q_neII, q_eqSS, q_neSS, q_eqBB, q_neBB, q_dgetS, q_dgetI, q_dinS, q_dinI, at6, at7, gT, gsCons, gsNil, gN, keyOfD, someQ_some, someQ_if, someQ_map, q_allM, q_anyM, i_BN, i_BB, i_BI, i_BS, i_BL, i_BT, i_BD, i_IN, i_IB, i_II, i_IS, i_IL, i_IT, i_ID, i_SN, i_SB, i_SI, i_SS, i_SL, i_ST, i_SD, i_TN, i_TB, i_TI, i_TS, i_TL, i_TT, i_TD, i_LN, i_LB, i_LI, i_LS, i_LL, i_LT, i_LD, sizeLine_eq] <;> exact h
  | _ => simp [m_is_tree, wp_seq, wp_set, wp_sret, wp_sretO, wp_expr, wp_for, wp_sif, wp_mif, wp_mand, wp_mor, wp_mnot, wp_mtest, wp_bnd, wp_ret, wp_some, wp_mcons, wp_nx, wp_bk, wp_ct, wp_asg, wp_mlc, wp_molc, wp_mcomp, wp_callV, wp_callO, wp_macons, wpr_maown, anQ_own, wpr_aug, auQ_val, wpr, rdQ_val, rdQ_own, wpr_rdO, wpr_wrOp, wpr_mopO, wpr_mmut, wpr_setI, owQ_own, wp_setO, wp_tup, wp_lst, wp_olst, wp_list, wp_tuple, wp_range1, wp_range2, wp_part, wp_slice, wp_tru, wp_andV, wp_orV, wp_notV, seqQ_nx, seqQ_rt, seqQ_ro, seqQ_bk, seqQ_ct, gath, scat, scat1, pos, ownAt, clQ_nx, clQ_rt, clQ_ro, lpQ_nx, lpQ_ct, lpQ_bk, lpQ_rt, lpQ_ro, mrg1, q_I0, q_I, q_ixL, q_ixT, q_ixO, q_lenL, q_lenT, q_lenO, q_sum, q_listL, q_listT, q_abs, q_max2, q_min2, q_slL, q_neg, q_append, q_setI, q_cMul, q_cDiv, q_cPos, q_cPow, at0, at1, at2, at3, at4, at5, ix0, ix1, okW, isOwn, wipeR, restR, wp_chain, wp_zip, wp_enum, wp_str, wp_slO, wp_rdON, wp_put, wp_swap, wp_str0, wp_mownS, wp_keys, wp_mdcomp, endQ_nx, endQ_rt, endO_ro, q_isiI, q_isiB, q_isiS, q_isiT, q_isiL, q_isiTL, q_all, q_any, q_ltS, q_addS, q_inS, q_ninS, q_lenS, q_lenD, q_zipT, q_zipL, q_catT, q_catL, q_slT, q_slS, q_tupleL, q_tupleT, q_tupO, q_lstO, q_listNL, q_listNT, q_insert, q_upper, q_nu2I, q_nu2B, q_nu1I, q_nu1B, q_strI, q_strB, q_strS, q_ixA_T, q_ixA_L, q_ixA_S, q_ixS, q_eqII, q_neII, q_eqSS, q_neSS, q_eqBB, q_neBB, q_dgetS, q_dgetI, q_dinS, q_dinI, at6, at7, gT, gsCons, gsNil, gN, keyOfD, someQ_some, someQ_if, someQ_map, q_allM, q_anyM, i_BN, i_BB, i_BI, i_BS, i_BL, i_BT, i_BD, i_IN, i_IB, i_II, i_IS, i_IL, i_IT, i_ID, i_SN, i_SB, i_SI, i_SS, i_SL, i_ST, i_SD, i_TN, i_TB, i_TI, i_TS, i_TL, i_TT, i_TD, i_LN, i_LB, i_LI, i_LS, i_LL, i_LT, i_LD, sizeLine_eq, isT]; exact h
end RG
set_option Elab.async false
set_option linter.all false
set_option maxRecDepth 100000
set_option maxHeartbeats 4000000
/-! RGe: costs: what are_costs, is_costs and the law's own reading tell -/
namespace RG
open PySem PySem.Spec PyProof.Rows L2 DL
mutual
theorem good_lay : ∀ d : D, good d = true → d.canLay0 = true
  | .none, _ => rfl
  | .bool _, _ => rfl
  | .int _, _ => rfl
  | .str s, h => by rw [PyData.canLay0]; exact good_strOk h
  | .list ds, h => by rw [PyData.canLay0]; unfold good at h; exact goods_lay ds (Bool.and_eq_true_iff.mp h).2
  | .tuple ds, h => by rw [PyData.canLay0]; unfold good at h; exact goods_lay ds (Bool.and_eq_true_iff.mp h).2
  | .dict _, h => by unfold good at h; cases h
theorem goods_lay : ∀ ds : List D, goodAll ds = true → PyData.canLayAll0 ds = true
  | [], _ => rfl
  | d :: ds, h => by
    rw [goodAll, Bool.and_eq_true] at h
    rw [PyData.canLayAll0, good_lay d h.1, goods_lay ds h.2]
    rfl
end
/-- .. of bounded depth, too -/
def goodS (n : Nat) (d : D) : Prop := good d = true ∧ d.depth ≤ n
theorem depth_mem : ∀ {ds : List D} {d : D}, d ∈ ds → d.depth ≤ PyData.depthAll ds
  | e :: ds, d, h => by
    rw [PyData.depthAll]
    rcases List.mem_cons.mp h with rfl | h
    · exact Nat.le_max_left _ _
    · exact Nat.le_trans (depth_mem h) (Nat.le_max_right _ _)
theorem depthAll_le : ∀ {ds : List D} {n : Nat}, (∀ d ∈ ds, d.depth ≤ n) → PyData.depthAll ds ≤ n
  | [], n, _ => by rw [PyData.depthAll]; exact Nat.zero_le _
  | e :: ds, n, h => by
    rw [PyData.depthAll]
    exact Nat.max_le.mpr ⟨h e List.mem_cons_self, depthAll_le fun d hd => h d (List.mem_cons_of_mem _ hd)⟩
theorem goodS_tup {n : Nat} {ds : List D} (h : goodS n (.tuple ds)) : ds.length ≤ 1000000 ∧ ∀ d ∈ ds, goodS (n - 1) d := by
  obtain ⟨h1, h2⟩ := h
  obtain ⟨h3, h4⟩ := good_tup h1
  rw [PyData.depth] at h2
  exact ⟨h3, fun d hd => ⟨h4 d hd, by have := depth_mem hd; omega⟩⟩
theorem goodS_shaped {n : Nat} {d : D} (h : goodS n d) (hn : n ≤ 64) : SeqAt.shaped d = true := by
  unfold SeqAt.shaped
  rw [good_lay d h.1, decide_eq_true (Nat.le_trans h.2 hn)]
  rfl
def isStr (x : PySem.Str) : D → Bool | .str y => decide (y = x) | _ => false
theorem eqv_isStr (d : D) (x : PySem.Str) : PyData.eqv d (.str x) = isStr x d := by
  cases d <;> simp [PyData.eqv, isStr]
  rw [Bool.eq_iff_iff]
  simp
theorem q_neStr {d : D} {x : PySem.Str} (h : SeqAt.shaped d = true) (hx : PyData.strOk x = true) : gNeD d (.str x) = some (.bool (!isStr x d)) := by
  unfold gNeD
  rw [if_pos ⟨h, by simp [SeqAt.shaped, PyData.canLay0, PyData.depth, hx]⟩, eqv_isStr]
theorem isStr_S {d : D} {x : PySem.Str} (h : isStr x d = true) : isS d = true := by
  cases d <;> first | rfl | cases h
def costRowB (x : PySem.Str) : D → Bool
  | .tuple [n, a, b, c] => isStr x n && (withinB 0 100 a && (withinB 0 100 b && withinB 0 100 c))
  | _ => false
def costsB (ts : List St) : D → Bool
  | .tuple rows => decide (rows.length = ts.length) && (ts.zip rows).all fun p => costRowB p.1.name p.2
  | _ => false
theorem zipD_eq : ∀ (ts : List St) (rows : List D), zipD (ts.map tD) rows = (ts.zip rows).map fun p => .tuple [tD p.1, p.2]
  | t :: ts, r :: rows => by rw [List.map_cons, zipD, zipD_eq ts rows, List.zip_cons_cons, List.map_cons]
  | [], rows => by simp [zipD]
  | t :: ts, [] => by simp [zipD]
theorem cut_tup4 (n a b c : D) : DL.cutD [n, a, b, c] (some 1) none = [a, b, c] := by rw [cut1]; rfl
theorem eqv_filt (p : D → Bool) : ∀ l : List D, PyData.eqv (.list (l.filter fun d => !p d)) (.list []) = l.all p
  | [] => rfl
  | d :: l => by
    have ih := eqv_filt p l
    rw [List.filter_cons, List.all_cons]
    cases hp : p d
    · rfl
    · simpa using ih
theorem are_costs_step {ts : List St} {d : D} (hn : ∀ t ∈ ts, PyData.strOk t.name = true) (hts : ts.length ≤ 1000) (hg : goodS 60 d) {Q : D → List (Sl Empty) → Prop} (h : Q (.bool (costsB ts d)) [.val (.tuple (ts.map tD)), .val d]) :
    callQ g_are_costs [.val (.tuple (ts.map tD)), .val d] Q := by
  refine call_close ?_
  cases d with
  | tuple rows =>
    obtain ⟨hl, hd⟩ := goodS_tup hg
    unfold m_are_costs
    rw [wp_seq]
    by_cases hle : rows.length = ts.length
    case neg =>
      have hle2 : ¬ ((rows.length : Int) = (ts.length : Int)) := by omega
      simp [wp_set, wp_sret, wp_sretO, wp_expr, wp_for, wp_sif, wp_mif, wp_mand, wp_mor, wp_mnot, wp_mtest, wp_bnd, wp_ret, wp_some, wp_mcons, wp_nx, wp_bk, wp_ct, wp_asg, wp_mlc, wp_molc, wp_mcomp, wp_callV, wp_callO, wp_macons, wpr_maown, anQ_own, wpr_aug, auQ_val, wpr, rdQ_val, rdQ_own, wpr_rdO, wpr_wrOp, wpr_mopO, wpr_mmut, wpr_setI, owQ_own, wp_setO, wp_tup, wp_lst, wp_olst, wp_list, wp_tuple, wp_range1, wp_range2, wp_part, wp_slice, wp_tru, wp_andV, wp_orV, wp_notV, seqQ_rt, seqQ_ro, seqQ_bk, seqQ_ct, gath, scat, scat1, pos, ownAt, clQ_nx, clQ_rt, clQ_ro, lpQ_nx, lpQ_ct, lpQ_bk, lpQ_rt, lpQ_ro, mrg1, q_I0, q_I, q_ixL, q_ixT, q_ixO, q_lenL, q_lenT, q_lenO, q_sum, q_listL, q_listT, q_abs, q_max2, q_min2, q_slL, q_neg, q_append, q_setI, q_cMul, q_cDiv, q_cPos, q_cPow, at0, at1, at2, at3, at4, at5, ix0, ix1, okW, isOwn, wipeR, restR, wp_chain, wp_zip, wp_enum, wp_str, wp_slO, wp_rdON, wp_put, wp_swap, wp_str0, wp_mownS, wp_keys, wp_mdcomp, endQ_nx, endQ_rt, endO_ro, q_isiI, q_isiB, q_isiS, q_isiT, q_isiL, q_isiTL, q_all, q_any, q_ltS, q_addS, q_inS, q_ninS, q_lenS, q_lenD, q_zipT, q_zipL, q_catT, q_catL, q_slT, q_slS, q_tupleL, q_tupleT, q_tupO, q_lstO, q_listNL, q_listNT, q_insert, q_upper, q_nu2I, q_nu2B, q_nu1I, q_nu1B, q_strI, q_strB, q_strS, q_ixA_T, q_ixA_L, q_ixA_S, q_ixS, q_eqII, q_neII, q_eqSS, q_neSS, q_eqBB, q_neBB, q_dgetS, q_dgetI, q_dinS, q_dinI, at6, at7, gT, gsCons, gsNil, gN, keyOfD, someQ_some, someQ_if, someQ_map, q_allM, q_anyM, i_BN, i_BB, i_BI, i_BS, i_BL, i_BT, i_BD, i_IN, i_IB, i_II, i_IS, i_IL, i_IT, i_ID, i_SN, i_SB, i_SI, i_SS, i_SL, i_ST, i_SD, i_TN, i_TB, i_TI, i_TS, i_TL, i_TT, i_TD, i_LN, i_LB, i_LI, i_LS, i_LL, i_LT, i_LD, sizeLine_eq, isT, hle2]
      rwa [show costsB ts (.tuple rows) = false by simp [costsB, hle]] at h
    simp [wp_set, wp_sret, wp_sretO, wp_expr, wp_for, wp_sif, wp_mif, wp_mand, wp_mor, wp_mnot, wp_mtest, wp_bnd, wp_ret, wp_some, wp_mcons, wp_nx, wp_bk, wp_ct, wp_asg, wp_mlc, wp_molc, wp_mcomp, wp_callV, wp_callO, wp_macons, wpr_maown, anQ_own, wpr_aug, auQ_val, wpr, rdQ_val, rdQ_own, wpr_rdO, wpr_wrOp, wpr_mopO, wpr_mmut, wpr_setI, owQ_own, wp_setO, wp_tup, wp_lst, wp_olst, wp_list, wp_tuple, wp_range1, wp_range2, wp_part, wp_slice, wp_tru, wp_andV, wp_orV, wp_notV, seqQ_rt, seqQ_ro, seqQ_bk, seqQ_ct, gath, scat, scat1, pos, ownAt, clQ_nx, clQ_rt, clQ_ro, lpQ_nx, lpQ_ct, lpQ_bk, lpQ_rt, lpQ_ro, mrg1, q_I0, q_I, q_ixL, q_ixT, q_ixO, q_lenL, q_lenT, q_lenO, q_sum, q_listL, q_listT, q_abs, q_max2, q_min2, q_slL, q_neg, q_append, q_setI, q_cMul, q_cDiv, q_cPos, q_cPow, at0, at1, at2, at3, at4, at5, ix0, ix1, okW, isOwn, wipeR, restR, wp_chain, wp_zip, wp_enum, wp_str, wp_slO, wp_rdON, wp_put, wp_swap, wp_str0, wp_mownS, wp_keys, wp_mdcomp, endQ_nx, endQ_rt, endO_ro, q_isiI, q_isiB, q_isiS, q_isiT, q_isiL, q_isiTL, q_all, q_any, q_ltS, q_addS, q_inS, q_ninS, q_lenS, q_lenD, q_zipT, q_zipL, q_catT, q_catL, q_slT, q_slS, q_tupleL, q_tupleT, q_tupO, q_lstO, q_listNL, q_listNT, q_insert, q_upper, q_nu2I, q_nu2B, q_nu1I, q_nu1B, q_strI, q_strB, q_strS, q_ixA_T, q_ixA_L, q_ixA_S, q_ixS, q_eqII, q_neII, q_eqSS, q_neSS, q_eqBB, q_neBB, q_dgetS, q_dgetI, q_dinS, q_dinI, at6, at7, gT, gsCons, gsNil, gN, keyOfD, someQ_some, someQ_if, someQ_map, q_allM, q_anyM, i_BN, i_BB, i_BI, i_BS, i_BL, i_BT, i_BD, i_IN, i_IB, i_II, i_IS, i_IL, i_IT, i_ID, i_SN, i_SB, i_SI, i_SS, i_SL, i_ST, i_SD, i_TN, i_TB, i_TI, i_TS, i_TL, i_TT, i_TD, i_LN, i_LB, i_LI, i_LS, i_LL, i_LT, i_LD, sizeLine_eq, isT, hle, -List.map_map]
    rw [seqQ_nx, wp_seq]
    simp [wp_set, wp_sret, wp_sretO, wp_expr, wp_for, wp_sif, wp_mif, wp_mand, wp_mor, wp_mnot, wp_mtest, wp_bnd, wp_ret, wp_some, wp_mcons, wp_nx, wp_bk, wp_ct, wp_asg, wp_mlc, wp_molc, wp_mcomp, wp_callV, wp_callO, wp_macons, wpr_maown, anQ_own, wpr_aug, auQ_val, wpr, rdQ_val, rdQ_own, wpr_rdO, wpr_wrOp, wpr_mopO, wpr_mmut, wpr_setI, owQ_own, wp_setO, wp_tup, wp_lst, wp_olst, wp_list, wp_tuple, wp_range1, wp_range2, wp_part, wp_slice, wp_tru, wp_andV, wp_orV, wp_notV, seqQ_rt, seqQ_ro, seqQ_bk, seqQ_ct, gath, scat, scat1, pos, ownAt, clQ_nx, clQ_rt, clQ_ro, lpQ_nx, lpQ_ct, lpQ_bk, lpQ_rt, lpQ_ro, mrg1, q_I0, q_I, q_ixL, q_ixT, q_ixO, q_lenL, q_lenT, q_lenO, q_sum, q_listL, q_listT, q_abs, q_max2, q_min2, q_slL, q_neg, q_append, q_setI, q_cMul, q_cDiv, q_cPos, q_cPow, at0, at1, at2, at3, at4, at5, ix0, ix1, okW, isOwn, wipeR, restR, wp_chain, wp_zip, wp_enum, wp_str, wp_slO, wp_rdON, wp_put, wp_swap, wp_str0, wp_mownS, wp_keys, wp_mdcomp, endQ_nx, endQ_rt, endO_ro, q_isiI, q_isiB, q_isiS, q_isiT, q_isiL, q_isiTL, q_all, q_any, q_ltS, q_addS, q_inS, q_ninS, q_lenS, q_lenD, q_zipT, q_zipL, q_catT, q_catL, q_slT, q_slS, q_tupleL, q_tupleT, q_tupO, q_lstO, q_listNL, q_listNT, q_insert, q_upper, q_nu2I, q_nu2B, q_nu1I, q_nu1B, q_strI, q_strB, q_strS, q_ixA_T, q_ixA_L, q_ixA_S, q_ixS, q_eqII, q_neII, q_eqSS, q_neSS, q_eqBB, q_neBB, q_dgetS, q_dgetI, q_dinS, q_dinI, at6, at7, gT, gsCons, gsNil, gN, keyOfD, someQ_some, someQ_if, someQ_map, q_allM, q_anyM, i_BN, i_BB, i_BI, i_BS, i_BL, i_BT, i_BD, i_IN, i_IB, i_II, i_IS, i_IL, i_IT, i_ID, i_SN, i_SB, i_SI, i_SS, i_SL, i_ST, i_SD, i_TN, i_TB, i_TI, i_TS, i_TL, i_TT, i_TD, i_LN, i_LB, i_LI, i_LS, i_LL, i_LT, i_LD, sizeLine_eq, -List.map_map]
    rw [zipD_eq]
    refine wp_loop (fun i (ρ : List (Sl Empty)) => ((ts.zip rows).take i).all (fun p => costRowB p.1.name p.2) = true ∧ ∃ x y, ρ = [.val (.tuple (ts.map tD)), .val (.tuple rows), x, y, .un]) ⟨rfl, _, _, rfl⟩ ?_ ?_
    · rintro i d ρ hi ⟨hall, x, y, rfl⟩
      rw [List.getElem?_map] at hi
      cases hp : (ts.zip rows)[i]? with
      | none => rw [hp] at hi; cases hi
      | some p =>
        rw [hp] at hi
        cases hi
        obtain ⟨t, row⟩ := p
        have hmem := List.mem_of_getElem? hp
        have ht := (List.of_mem_zip hmem).1
        have hrow := hd row (List.of_mem_zip hmem).2
        have hbad : costRowB t.name row = false → costsB ts (.tuple rows) = false := fun e => by
          have : ((ts.zip rows).all fun p => costRowB p.1.name p.2) = false := by
            rw [← Bool.not_eq_true, List.all_eq_true]
            intro hh
            have := hh _ hmem
            rw [e] at this
            cases this
          simp only [costsB, this, Bool.and_false]
        refine ⟨_, rfl, ?_⟩
        have hgo : costRowB t.name row = true → ((ts.zip rows).take (i + 1)).all (fun p => costRowB p.1.name p.2) = true := fun e => by
          rw [List.take_add_one, hp, List.all_append, hall]
          simp [e]
        have hF : costRowB t.name row = false → Q (.bool false) [.val (.tuple (ts.map tD)), .val (.tuple rows)] := fun e => by
          rw [hbad e] at h
          exact h
        cases row with
        | tuple cs =>
          obtain ⟨hcl, hcd⟩ := goodS_tup hrow
          by_cases h4 : cs.length = 4
          case neg =>
            have h42 : ¬ ((cs.length : Int) = 4) := by omega
            simp [wp_seq, wp_set, wp_sret, wp_sretO, wp_expr, wp_for, wp_sif, wp_mif, wp_mand, wp_mor, wp_mnot, wp_mtest, wp_bnd, wp_ret, wp_some, wp_mcons, wp_nx, wp_bk, wp_ct, wp_asg, wp_mlc, wp_molc, wp_mcomp, wp_callV, wp_callO, wp_macons, wpr_maown, anQ_own, wpr_aug, auQ_val, wpr, rdQ_val, rdQ_own, wpr_rdO, wpr_wrOp, wpr_mopO, wpr_mmut, wpr_setI, owQ_own, wp_setO, wp_tup, wp_lst, wp_olst, wp_list, wp_tuple, wp_range1, wp_range2, wp_part, wp_slice, wp_tru, wp_andV, wp_orV, wp_notV, seqQ_nx, seqQ_rt, seqQ_ro, seqQ_bk, seqQ_ct, gath, scat, scat1, pos, ownAt, clQ_nx, clQ_rt, clQ_ro, lpQ_nx, lpQ_ct, lpQ_bk, lpQ_rt, lpQ_ro, mrg1, q_I0, q_I, q_ixL, q_ixT, q_ixO, q_lenL, q_lenT, q_lenO, q_sum, q_listL, q_listT, q_abs, q_max2, q_min2, q_slL, q_neg, q_append, q_setI, q_cMul, q_cDiv, q_cPos, q_cPow, at0, at1, at2, at3, at4, at5, ix0, ix1, okW, isOwn, wipeR, restR, wp_chain, wp_zip, wp_enum, wp_str, wp_slO, wp_rdON, wp_put, wp_swap, wp_str0, wp_mownS, wp_keys, wp_mdcomp, endQ_nx, endQ_rt, endO_ro, q_isiI, q_isiB, q_isiS, q_isiT, q_isiL, q_isiTL, q_all, q_any, q_ltS, q_addS, q_inS, q_ninS, q_lenS, q_lenD, q_zipT, q_zipL, q_catT, q_catL, q_slT, q_slS, q_tupleL, q_tupleT, q_tupO, q_lstO, q_listNL, q_listNT, q_insert, q_upper, q_nu2I, q_nu2B, q_nu1I, q_nu1B, q_strI, q_strB, q_strS, q_ixA_T, q_ixA_L, q_ixA_S, q_ixS, q_eqII, q_neII, q_eqSS, q_neSS, q_eqBB, q_neBB, q_dgetS, q_dgetI, q_dinS, q_dinI, at6, at7, gT, gsCons, gsNil, gN, keyOfD, someQ_some, someQ_if, someQ_map, q_allM, q_anyM, i_BN, i_BB, i_BI, i_BS, i_BL, i_BT, i_BD, i_IN, i_IB, i_II, i_IS, i_IL, i_IT, i_ID, i_SN, i_SB, i_SI, i_SS, i_SL, i_ST, i_SD, i_TN, i_TB, i_TI, i_TS, i_TL, i_TT, i_TD, i_LN, i_LB, i_LI, i_LS, i_LL, i_LT, i_LD, sizeLine_eq, isT, h42, -List.map_map]
            refine hF ?_
            unfold costRowB
            split
            · rename_i e; cases e; exact absurd rfl h4
            · rfl
          match cs, h4 with
          | [n, a, b, c], _ =>
            have e : costRowB t.name (.tuple [n, a, b, c]) = (isStr t.name n && (withinB 0 100 a && (withinB 0 100 b && withinB 0 100 c))) := rfl
            have hs := q_neStr (goodS_shaped (hcd n (by simp)) (by decide)) (hn t ht)
            rw [wp_seq]
            cases hb : isStr t.name n
            · simp [wp_set, wp_sret, wp_sretO, wp_expr, wp_for, wp_sif, wp_mif, wp_mand, wp_mor, wp_mnot, wp_mtest, wp_bnd, wp_ret, wp_some, wp_mcons, wp_nx, wp_bk, wp_ct, wp_asg, wp_mlc, wp_molc, wp_mcomp, wp_callV, wp_callO, wp_macons, wpr_maown, anQ_own, wpr_aug, auQ_val, wpr, rdQ_val, rdQ_own, wpr_rdO, wpr_wrOp, wpr_mopO, wpr_mmut, wpr_setI, owQ_own, wp_setO, wp_tup, wp_lst, wp_olst, wp_list, wp_tuple, wp_range1, wp_range2, wp_part, wp_slice, wp_tru, wp_andV, wp_orV, wp_notV, seqQ_rt, seqQ_ro, seqQ_bk, seqQ_ct, gath, scat, scat1, pos, ownAt, clQ_nx, clQ_rt, clQ_ro, lpQ_nx, lpQ_ct, lpQ_bk, lpQ_rt, lpQ_ro, mrg1, q_I0, q_I, q_ixL, q_ixT, q_ixO, q_lenL, q_lenT, q_lenO, q_sum, q_listL, q_listT, q_abs, q_max2, q_min2, q_slL, q_neg, q_append, q_setI, q_cMul, q_cDiv, q_cPos, q_cPow, at0, at1, at2, at3, at4, at5, ix0, ix1, okW, isOwn, wipeR, restR, wp_chain, wp_zip, wp_enum, wp_str, wp_slO, wp_rdON, wp_put, wp_swap, wp_str0, wp_mownS, wp_keys, wp_mdcomp, endQ_nx, endQ_rt, endO_ro, q_isiI, q_isiB, q_isiS, q_isiT, q_isiL, q_isiTL, q_all, q_any, q_ltS, q_addS, q_inS, q_ninS, q_lenS, q_lenD, q_zipT, q_zipL, q_catT, q_catL, q_slT, q_slS, q_tupleL, q_tupleT, q_tupO, q_lstO, q_listNL, q_listNT, q_insert, q_upper, q_nu2I, q_nu2B, q_nu1I, q_nu1B, q_strI, q_strB, q_strS, q_ixA_T, q_ixA_L, q_ixA_S, q_ixS, q_eqII, q_neII, q_eqSS, q_neSS, q_eqBB, q_neBB, q_dgetS, q_dgetI, q_dinS, q_dinI, at6, at7, gT, gsCons, gsNil, gN, keyOfD, someQ_some, someQ_if, someQ_map, q_allM, q_anyM, i_BN, i_BB, i_BI, i_BS, i_BL, i_BT, i_BD, i_IN, i_IB, i_II, i_IS, i_IL, i_IT, i_ID, i_SN, i_SB, i_SI, i_SS, i_SL, i_ST, i_SD, i_TN, i_TB, i_TI, i_TS, i_TL, i_TT, i_TD, i_LN, i_LB, i_LI, i_LS, i_LL, i_LT, i_LD, sizeLine_eq, isT, tD, hs, hb, seqQ_rt]
              exact hF (by rw [e, hb]; rfl)
            have hS := isStr_S hb
            simp [wp_set, wp_sret, wp_sretO, wp_expr, wp_for, wp_sif, wp_mif, wp_mand, wp_mor, wp_mnot, wp_mtest, wp_bnd, wp_ret, wp_some, wp_mcons, wp_nx, wp_bk, wp_ct, wp_asg, wp_mlc, wp_molc, wp_mcomp, wp_callV, wp_callO, wp_macons, wpr_maown, anQ_own, wpr_aug, auQ_val, wpr, rdQ_val, rdQ_own, wpr_rdO, wpr_wrOp, wpr_mopO, wpr_mmut, wpr_setI, owQ_own, wp_setO, wp_tup, wp_lst, wp_olst, wp_list, wp_tuple, wp_range1, wp_range2, wp_part, wp_slice, wp_tru, wp_andV, wp_orV, wp_notV, seqQ_rt, seqQ_ro, seqQ_bk, seqQ_ct, gath, scat, scat1, pos, ownAt, clQ_nx, clQ_rt, clQ_ro, lpQ_nx, lpQ_ct, lpQ_bk, lpQ_rt, lpQ_ro, mrg1, q_I0, q_I, q_ixL, q_ixT, q_ixO, q_lenL, q_lenT, q_lenO, q_sum, q_listL, q_listT, q_abs, q_max2, q_min2, q_slL, q_neg, q_append, q_setI, q_cMul, q_cDiv, q_cPos, q_cPow, at0, at1, at2, at3, at4, at5, ix0, ix1, okW, isOwn, wipeR, restR, wp_chain, wp_zip, wp_enum, wp_str, wp_slO, wp_rdON, wp_put, wp_swap, wp_str0, wp_mownS, wp_keys, wp_mdcomp, endQ_nx, endQ_rt, endO_ro, q_isiI, q_isiB, q_isiS, q_isiT, q_isiL, q_isiTL, q_all, q_any, q_ltS, q_addS, q_inS, q_ninS, q_lenS, q_lenD, q_zipT, q_zipL, q_catT, q_catL, q_slT, q_slS, q_tupleL, q_tupleT, q_tupO, q_lstO, q_listNL, q_listNT, q_insert, q_upper, q_nu2I, q_nu2B, q_nu1I, q_nu1B, q_strI, q_strB, q_strS, q_ixA_T, q_ixA_L, q_ixA_S, q_ixS, q_eqII, q_neII, q_eqSS, q_neSS, q_eqBB, q_neBB, q_dgetS, q_dgetI, q_dinS, q_dinI, at6, at7, gT, gsCons, gsNil, gN, keyOfD, someQ_some, someQ_if, someQ_map, q_allM, q_anyM, i_BN, i_BB, i_BI, i_BS, i_BL, i_BT, i_BD, i_IN, i_IB, i_II, i_IS, i_IL, i_IT, i_ID, i_SN, i_SB, i_SI, i_SS, i_SL, i_ST, i_SD, i_TN, i_TB, i_TI, i_TS, i_TL, i_TT, i_TD, i_LN, i_LB, i_LI, i_LS, i_LL, i_LT, i_LD, sizeLine_eq, isT, tD, hs, hb, hS, cut_tup4, -List.map_map]
            rw [seqQ_nx]
            simp [wp_set, wp_sret, wp_sretO, wp_expr, wp_for, wp_sif, wp_mif, wp_mand, wp_mor, wp_mnot, wp_mtest, wp_bnd, wp_ret, wp_some, wp_mcons, wp_nx, wp_bk, wp_ct, wp_asg, wp_mlc, wp_molc, wp_mcomp, wp_callV, wp_callO, wp_macons, wpr_maown, anQ_own, wpr_aug, auQ_val, wpr, rdQ_val, rdQ_own, wpr_rdO, wpr_wrOp, wpr_mopO, wpr_mmut, wpr_setI, owQ_own, wp_setO, wp_tup, wp_lst, wp_olst, wp_list, wp_tuple, wp_range1, wp_range2, wp_part, wp_slice, wp_tru, wp_andV, wp_orV, wp_notV, seqQ_rt, seqQ_ro, seqQ_bk, seqQ_ct, gath, scat, scat1, pos, ownAt, clQ_nx, clQ_rt, clQ_ro, lpQ_nx, lpQ_ct, lpQ_bk, lpQ_rt, lpQ_ro, mrg1, q_I0, q_I, q_ixL, q_ixT, q_ixO, q_lenL, q_lenT, q_lenO, q_sum, q_listL, q_listT, q_abs, q_max2, q_min2, q_slL, q_neg, q_append, q_setI, q_cMul, q_cDiv, q_cPos, q_cPow, at0, at1, at2, at3, at4, at5, ix0, ix1, okW, isOwn, wipeR, restR, wp_chain, wp_zip, wp_enum, wp_str, wp_slO, wp_rdON, wp_put, wp_swap, wp_str0, wp_mownS, wp_keys, wp_mdcomp, endQ_nx, endQ_rt, endO_ro, q_isiI, q_isiB, q_isiS, q_isiT, q_isiL, q_isiTL, q_all, q_any, q_ltS, q_addS, q_inS, q_ninS, q_lenS, q_lenD, q_zipT, q_zipL, q_catT, q_catL, q_slT, q_slS, q_tupleL, q_tupleT, q_tupO, q_lstO, q_listNL, q_listNT, q_insert, q_upper, q_nu2I, q_nu2B, q_nu1I, q_nu1B, q_strI, q_strB, q_strS, q_ixA_T, q_ixA_L, q_ixA_S, q_ixS, q_eqII, q_neII, q_eqSS, q_neSS, q_eqBB, q_neBB, q_dgetS, q_dgetI, q_dinS, q_dinI, at6, at7, gT, gsCons, gsNil, gN, keyOfD, someQ_some, someQ_if, someQ_map, q_allM, q_anyM, i_BN, i_BB, i_BI, i_BS, i_BL, i_BT, i_BD, i_IN, i_IB, i_II, i_IS, i_IL, i_IT, i_ID, i_SN, i_SB, i_SI, i_SS, i_SL, i_ST, i_SD, i_TN, i_TB, i_TI, i_TS, i_TL, i_TT, i_TD, i_LN, i_LB, i_LI, i_LS, i_LL, i_LT, i_LD, sizeLine_eq, cut_tup4, -List.map_map]
            refine wp_map (fun d => .bool (withinB 0 100 d)) (fun d hm => ?_) ?_
            · refine ⟨_, rfl, ?_⟩
              simp [wp_set, wp_sret, wp_sretO, wp_expr, wp_for, wp_sif, wp_mif, wp_mand, wp_mor, wp_mnot, wp_mtest, wp_bnd, wp_ret, wp_some, wp_mcons, wp_nx, wp_bk, wp_ct, wp_asg, wp_mlc, wp_molc, wp_mcomp, wp_callV, wp_callO, wp_macons, wpr_maown, anQ_own, wpr_aug, auQ_val, wpr, rdQ_val, rdQ_own, wpr_rdO, wpr_wrOp, wpr_mopO, wpr_mmut, wpr_setI, owQ_own, wp_setO, wp_tup, wp_lst, wp_olst, wp_list, wp_tuple, wp_range1, wp_range2, wp_part, wp_slice, wp_tru, wp_andV, wp_orV, wp_notV, seqQ_rt, seqQ_ro, seqQ_bk, seqQ_ct, gath, scat, scat1, pos, ownAt, clQ_nx, clQ_rt, clQ_ro, lpQ_nx, lpQ_ct, lpQ_bk, lpQ_rt, lpQ_ro, mrg1, q_I0, q_I, q_ixL, q_ixT, q_ixO, q_lenL, q_lenT, q_lenO, q_sum, q_listL, q_listT, q_abs, q_max2, q_min2, q_slL, q_neg, q_append, q_setI, q_cMul, q_cDiv, q_cPos, q_cPow, at0, at1, at2, at3, at4, at5, ix0, ix1, okW, isOwn, wipeR, restR, wp_chain, wp_zip, wp_enum, wp_str, wp_slO, wp_rdON, wp_put, wp_swap, wp_str0, wp_mownS, wp_keys, wp_mdcomp, endQ_nx, endQ_rt, endO_ro, q_isiI, q_isiB, q_isiS, q_isiT, q_isiL, q_isiTL, q_all, q_any, q_ltS, q_addS, q_inS, q_ninS, q_lenS, q_lenD, q_zipT, q_zipL, q_catT, q_catL, q_slT, q_slS, q_tupleL, q_tupleT, q_tupO, q_lstO, q_listNL, q_listNT, q_insert, q_upper, q_nu2I, q_nu2B, q_nu1I, q_nu1B, q_strI, q_strB, q_strS, q_ixA_T, q_ixA_L, q_ixA_S, q_ixS, q_eqII, q_neII, q_eqSS, q_neSS, q_eqBB, q_neBB, q_dgetS, q_dgetI, q_dinS, q_dinI, at6, at7, gT, gsCons, gsNil, gN, keyOfD, someQ_some, someQ_if, someQ_map, q_allM, q_anyM, i_BN, i_BB, i_BI, i_BS, i_BL, i_BT, i_BD, i_IN, i_IB, i_II, i_IS, i_IL, i_IT, i_ID, i_SN, i_SB, i_SI, i_SS, i_SL, i_ST, i_SD, i_TN, i_TB, i_TI, i_TS, i_TL, i_TT, i_TD, i_LN, i_LB, i_LI, i_LS, i_LL, i_LT, i_LD, sizeLine_eq, -List.map_map]
              refine within_step ?_
              simp [wp_set, wp_sret, wp_sretO, wp_expr, wp_for, wp_sif, wp_mif, wp_mand, wp_mor, wp_mnot, wp_mtest, wp_bnd, wp_ret, wp_some, wp_mcons, wp_nx, wp_bk, wp_ct, wp_asg, wp_mlc, wp_molc, wp_mcomp, wp_callV, wp_callO, wp_macons, wpr_maown, anQ_own, wpr_aug, auQ_val, wpr, rdQ_val, rdQ_own, wpr_rdO, wpr_wrOp, wpr_mopO, wpr_mmut, wpr_setI, owQ_own, wp_setO, wp_tup, wp_lst, wp_olst, wp_list, wp_tuple, wp_range1, wp_range2, wp_part, wp_slice, wp_tru, wp_andV, wp_orV, wp_notV, seqQ_rt, seqQ_ro, seqQ_bk, seqQ_ct, gath, scat, scat1, pos, ownAt, clQ_nx, clQ_rt, clQ_ro, lpQ_nx, lpQ_ct, lpQ_bk, lpQ_rt, lpQ_ro, mrg1, q_I0, q_I, q_ixL, q_ixT, q_ixO, q_lenL, q_lenT, q_lenO, q_sum, q_listL, q_listT, q_abs, q_max2, q_min2, q_slL, q_neg, q_append, q_setI, q_cMul, q_cDiv, q_cPos, q_cPow, at0, at1, at2, at3, at4, at5, ix0, ix1, okW, isOwn, wipeR, restR, wp_chain, wp_zip, wp_enum, wp_str, wp_slO, wp_rdON, wp_put, wp_swap, wp_str0, wp_mownS, wp_keys, wp_mdcomp, endQ_nx, endQ_rt, endO_ro, q_isiI, q_isiB, q_isiS, q_isiT, q_isiL, q_isiTL, q_all, q_any, q_ltS, q_addS, q_inS, q_ninS, q_lenS, q_lenD, q_zipT, q_zipL, q_catT, q_catL, q_slT, q_slS, q_tupleL, q_tupleT, q_tupO, q_lstO, q_listNL, q_listNT, q_insert, q_upper, q_nu2I, q_nu2B, q_nu1I, q_nu1B, q_strI, q_strB, q_strS, q_ixA_T, q_ixA_L, q_ixA_S, q_ixS, q_eqII, q_neII, q_eqSS, q_neSS, q_eqBB, q_neBB, q_dgetS, q_dgetI, q_dinS, q_dinI, at6, at7, gT, gsCons, gsNil, gN, keyOfD, someQ_some, someQ_if, someQ_map, q_allM, q_anyM, i_BN, i_BB, i_BI, i_BS, i_BL, i_BT, i_BD, i_IN, i_IB, i_II, i_IS, i_IL, i_IT, i_ID, i_SN, i_SB, i_SI, i_SS, i_SL, i_ST, i_SD, i_TN, i_TB, i_TI, i_TS, i_TL, i_TT, i_TD, i_LN, i_LB, i_LI, i_LS, i_LL, i_LT, i_LD, sizeLine_eq]
            rw [q_allM]
            have e2 : costRowB t.name (.tuple [n, a, b, c]) = [a, b, c].all (withinB 0 100) := by rw [e, hb]; simp
            rw [← e2]
            cases hw : costRowB t.name (.tuple [n, a, b, c])
            · simp [wp_set, wp_sret, wp_sretO, wp_expr, wp_for, wp_sif, wp_mif, wp_mand, wp_mor, wp_mnot, wp_mtest, wp_bnd, wp_ret, wp_some, wp_mcons, wp_nx, wp_bk, wp_ct, wp_asg, wp_mlc, wp_molc, wp_mcomp, wp_callV, wp_callO, wp_macons, wpr_maown, anQ_own, wpr_aug, auQ_val, wpr, rdQ_val, rdQ_own, wpr_rdO, wpr_wrOp, wpr_mopO, wpr_mmut, wpr_setI, owQ_own, wp_setO, wp_tup, wp_lst, wp_olst, wp_list, wp_tuple, wp_range1, wp_range2, wp_part, wp_slice, wp_tru, wp_andV, wp_orV, wp_notV, seqQ_rt, seqQ_ro, seqQ_bk, seqQ_ct, gath, scat, scat1, pos, ownAt, clQ_nx, clQ_rt, clQ_ro, lpQ_nx, lpQ_ct, lpQ_bk, lpQ_rt, lpQ_ro, mrg1, q_I0, q_I, q_ixL, q_ixT, q_ixO, q_lenL, q_lenT, q_lenO, q_sum, q_listL, q_listT, q_abs, q_max2, q_min2, q_slL, q_neg, q_append, q_setI, q_cMul, q_cDiv, q_cPos, q_cPow, at0, at1, at2, at3, at4, at5, ix0, ix1, okW, isOwn, wipeR, restR, wp_chain, wp_zip, wp_enum, wp_str, wp_slO, wp_rdON, wp_put, wp_swap, wp_str0, wp_mownS, wp_keys, wp_mdcomp, endQ_nx, endQ_rt, endO_ro, q_isiI, q_isiB, q_isiS, q_isiT, q_isiL, q_isiTL, q_all, q_any, q_ltS, q_addS, q_inS, q_ninS, q_lenS, q_lenD, q_zipT, q_zipL, q_catT, q_catL, q_slT, q_slS, q_tupleL, q_tupleT, q_tupO, q_lstO, q_listNL, q_listNT, q_insert, q_upper, q_nu2I, q_nu2B, q_nu1I, q_nu1B, q_strI, q_strB, q_strS, q_ixA_T, q_ixA_L, q_ixA_S, q_ixS, q_eqII, q_neII, q_eqSS, q_neSS, q_eqBB, q_neBB, q_dgetS, q_dgetI, q_dinS, q_dinI, at6, at7, gT, gsCons, gsNil, gN, keyOfD, someQ_some, someQ_if, someQ_map, q_allM, q_anyM, i_BN, i_BB, i_BI, i_BS, i_BL, i_BT, i_BD, i_IN, i_IB, i_II, i_IS, i_IL, i_IT, i_ID, i_SN, i_SB, i_SI, i_SS, i_SL, i_ST, i_SD, i_TN, i_TB, i_TI, i_TS, i_TL, i_TT, i_TD, i_LN, i_LB, i_LI, i_LS, i_LL, i_LT, i_LD, sizeLine_eq]
              exact hF hw
            · simp [wp_set, wp_sret, wp_sretO, wp_expr, wp_for, wp_sif, wp_mif, wp_mand, wp_mor, wp_mnot, wp_mtest, wp_bnd, wp_ret, wp_some, wp_mcons, wp_nx, wp_bk, wp_ct, wp_asg, wp_mlc, wp_molc, wp_mcomp, wp_callV, wp_callO, wp_macons, wpr_maown, anQ_own, wpr_aug, auQ_val, wpr, rdQ_val, rdQ_own, wpr_rdO, wpr_wrOp, wpr_mopO, wpr_mmut, wpr_setI, owQ_own, wp_setO, wp_tup, wp_lst, wp_olst, wp_list, wp_tuple, wp_range1, wp_range2, wp_part, wp_slice, wp_tru, wp_andV, wp_orV, wp_notV, seqQ_rt, seqQ_ro, seqQ_bk, seqQ_ct, gath, scat, scat1, pos, ownAt, clQ_nx, clQ_rt, clQ_ro, lpQ_nx, lpQ_ct, lpQ_bk, lpQ_rt, lpQ_ro, mrg1, q_I0, q_I, q_ixL, q_ixT, q_ixO, q_lenL, q_lenT, q_lenO, q_sum, q_listL, q_listT, q_abs, q_max2, q_min2, q_slL, q_neg, q_append, q_setI, q_cMul, q_cDiv, q_cPos, q_cPow, at0, at1, at2, at3, at4, at5, ix0, ix1, okW, isOwn, wipeR, restR, wp_chain, wp_zip, wp_enum, wp_str, wp_slO, wp_rdON, wp_put, wp_swap, wp_str0, wp_mownS, wp_keys, wp_mdcomp, endQ_nx, endQ_rt, endO_ro, q_isiI, q_isiB, q_isiS, q_isiT, q_isiL, q_isiTL, q_all, q_any, q_ltS, q_addS, q_inS, q_ninS, q_lenS, q_lenD, q_zipT, q_zipL, q_catT, q_catL, q_slT, q_slS, q_tupleL, q_tupleT, q_tupO, q_lstO, q_listNL, q_listNT, q_insert, q_upper, q_nu2I, q_nu2B, q_nu1I, q_nu1B, q_strI, q_strB, q_strS, q_ixA_T, q_ixA_L, q_ixA_S, q_ixS, q_eqII, q_neII, q_eqSS, q_neSS, q_eqBB, q_neBB, q_dgetS, q_dgetI, q_dinS, q_dinI, at6, at7, gT, gsCons, gsNil, gN, keyOfD, someQ_some, someQ_if, someQ_map, q_allM, q_anyM, i_BN, i_BB, i_BI, i_BS, i_BL, i_BT, i_BD, i_IN, i_IB, i_II, i_IS, i_IL, i_IT, i_ID, i_SN, i_SB, i_SI, i_SS, i_SL, i_ST, i_SD, i_TN, i_TB, i_TI, i_TS, i_TL, i_TT, i_TD, i_LN, i_LB, i_LI, i_LS, i_LL, i_LT, i_LD, sizeLine_eq]
              exact fun a b => by have := List.all_eq_true.mp (hgo hw) (a, b); simpa using this
        | _ =>
          simp [wp_seq, wp_set, wp_sret, wp_sretO, wp_expr, wp_for, wp_sif, wp_mif, wp_mand, wp_mor, wp_mnot, wp_mtest, wp_bnd, wp_ret, wp_some, wp_mcons, wp_nx, wp_bk, wp_ct, wp_asg, wp_mlc, wp_molc, wp_mcomp, wp_callV, wp_callO, wp_macons, wpr_maown, anQ_own, wpr_aug, auQ_val, wpr, rdQ_val, rdQ_own, wpr_rdO, wpr_wrOp, wpr_mopO, wpr_mmut, wpr_setI, owQ_own, wp_setO, wp_tup, wp_lst, wp_olst, wp_list, wp_tuple, wp_range1, wp_range2, wp_part, wp_slice, wp_tru, wp_andV, wp_orV, wp_notV, seqQ_nx, seqQ_rt, seqQ_ro, seqQ_bk, seqQ_ct, gath, scat, scat1, pos, ownAt, clQ_nx, clQ_rt, clQ_ro, lpQ_nx, lpQ_ct, lpQ_bk, lpQ_rt, lpQ_ro, mrg1, q_I0, q_I, q_ixL, q_ixT, q_ixO, q_lenL, q_lenT, q_lenO, q_sum, q_listL, q_listT, q_abs, q_max2, q_min2, q_slL, q_neg, q_append, q_setI, q_cMul, q_cDiv, q_cPos, q_cPow, at0, at1, at2, at3, at4, at5, ix0, ix1, okW, isOwn, wipeR, restR, wp_chain, wp_zip, wp_enum, wp_str, wp_slO, wp_rdON, wp_put, wp_swap, wp_str0, wp_mownS, wp_keys, wp_mdcomp, endQ_nx, endQ_rt, endO_ro, q_isiI, q_isiB, q_isiS, q_isiT, q_isiL, q_isiTL, q_all, q_any, q_ltS, q_addS, q_inS, q_ninS, q_lenS, q_lenD, q_zipT, q_zipL, q_catT, q_catL, q_slT, q_slS, q_tupleL, q_tupleT, q_tupO, q_lstO, q_listNL, q_listNT, q_insert, q_upper, q_nu2I, q_nu2B, q_nu1I, q_nu1B, q_strI, q_strB, q_strS, q_ixA_T, q_ixA_L, q_ixA_S, q_ixS, q_eqII, q_neII, q_eqSS, q_neSS, q_eqBB, q_neBB, q_dgetS, q_dgetI, q_dinS, q_dinI, at6, at7, gT, gsCons, gsNil, gN, keyOfD, someQ_some, someQ_if, someQ_map, q_allM, q_anyM, i_BN, i_BB, i_BI, i_BS, i_BL, i_BT, i_BD, i_IN, i_IB, i_II, i_IS, i_IL, i_IT, i_ID, i_SN, i_SB, i_SI, i_SS, i_SL, i_ST, i_SD, i_TN, i_TB, i_TI, i_TS, i_TL, i_TT, i_TD, i_LN, i_LB, i_LI, i_LS, i_LL, i_LT, i_LD, sizeLine_eq, isT]
          exact hF rfl
    · rintro ρ ⟨hall, x, y, rfl⟩
      rw [List.length_map, List.take_length] at hall
      simp [wp_seq, wp_set, wp_sret, wp_sretO, wp_expr, wp_for, wp_sif, wp_mif, wp_mand, wp_mor, wp_mnot, wp_mtest, wp_bnd, wp_ret, wp_some, wp_mcons, wp_nx, wp_bk, wp_ct, wp_asg, wp_mlc, wp_molc, wp_mcomp, wp_callV, wp_callO, wp_macons, wpr_maown, anQ_own, wpr_aug, auQ_val, wpr, rdQ_val, rdQ_own, wpr_rdO, wpr_wrOp, wpr_mopO, wpr_mmut, wpr_setI, owQ_own, wp_setO, wp_tup, wp_lst, wp_olst, wp_list, wp_tuple, wp_range1, wp_range2, wp_part, wp_slice, wp_tru, wp_andV, wp_orV, wp_notV, seqQ_nx, seqQ_rt, seqQ_ro, seqQ_bk, seqQ_ct, gath, scat, scat1, pos, ownAt, clQ_nx, clQ_rt, clQ_ro, lpQ_nx, lpQ_ct, lpQ_bk, lpQ_rt, lpQ_ro, mrg1, q_I0, q_I, q_ixL, q_ixT, q_ixO, q_lenL, q_lenT, q_lenO, q_sum, q_listL, q_listT, q_abs, q_max2, q_min2, q_slL, q_neg, q_append, q_setI, q_cMul, q_cDiv, q_cPos, q_cPow, at0, at1, at2, at3, at4, at5, ix0, ix1, okW, isOwn, wipeR, restR, wp_chain, wp_zip, wp_enum, wp_str, wp_slO, wp_rdON, wp_put, wp_swap, wp_str0, wp_mownS, wp_keys, wp_mdcomp, endQ_nx, endQ_rt, endO_ro, q_isiI, q_isiB, q_isiS, q_isiT, q_isiL, q_isiTL, q_all, q_any, q_ltS, q_addS, q_inS, q_ninS, q_lenS, q_lenD, q_zipT, q_zipL, q_catT, q_catL, q_slT, q_slS, q_tupleL, q_tupleT, q_tupO, q_lstO, q_listNL, q_listNT, q_insert, q_upper, q_nu2I, q_nu2B, q_nu1I, q_nu1B, q_strI, q_strB, q_strS, q_ixA_T, q_ixA_L, q_ixA_S, q_ixS, q_eqII, q_neII, q_eqSS, q_neSS, q_eqBB, q_neBB, q_dgetS, q_dgetI, q_dinS, q_dinI, at6, at7, gT, gsCons, gsNil, gN, keyOfD, someQ_some, someQ_if, someQ_map, q_allM, q_anyM, i_BN, i_BB, i_BI, i_BS, i_BL, i_BT, i_BD, i_IN, i_IB, i_II, i_IS, i_IL, i_IT, i_ID, i_SN, i_SB, i_SI, i_SS, i_SL, i_ST, i_SD, i_TN, i_TB, i_TI, i_TS, i_TL, i_TT, i_TD, i_LN, i_LB, i_LI, i_LS, i_LL, i_LT, i_LD, sizeLine_eq]
      rwa [show costsB ts (.tuple rows) = true by simp only [costsB, hle, hall, decide_true, Bool.and_self]] at h
  | _ =>
    simp [m_are_costs, wp_seq, wp_set, wp_sret, wp_sretO, wp_expr, wp_for, wp_sif, wp_mif, wp_mand, wp_mor, wp_mnot, wp_mtest, wp_bnd, wp_ret, wp_some, wp_mcons, wp_nx, wp_bk, wp_ct, wp_asg, wp_mlc, wp_molc, wp_mcomp, wp_callV, wp_callO, wp_macons, wpr_maown, anQ_own, wpr_aug, auQ_val, wpr, rdQ_val, rdQ_own, wpr_rdO, wpr_wrOp, wpr_mopO, wpr_mmut, wpr_setI, owQ_own, wp_setO, wp_tup, wp_lst, wp_olst, wp_list, wp_tuple, wp_range1, wp_range2, wp_part, wp_slice, wp_tru, wp_andV, wp_orV, wp_notV, seqQ_nx, seqQ_rt, seqQ_ro, seqQ_bk, seqQ_ct, gath, scat, scat1, pos, ownAt, clQ_nx, clQ_rt, clQ_ro, lpQ_nx, lpQ_ct, lpQ_bk, lpQ_rt, lpQ_ro, mrg1, q_I0, q_I, q_ixL, q_ixT, q_ixO, q_lenL, q_lenT, q_lenO, q_sum, q_listL, q_listT, q_abs, q_max2, q_min2, q_slL, q_neg, q_append, q_setI, q_cMul, q_cDiv, q_cPos, q_cPow, at0, at1, at2, at3, at4, at5, ix0, ix1, okW, isOwn, wipeR, restR, wp_chain, wp_zip, wp_enum, wp_str, wp_slO, wp_rdON, wp_put, wp_swap, wp_str0, wp_mownS, wp_keys, wp_mdcomp, endQ_nx, endQ_rt, endO_ro, q_isiI, q_isiB, q_isiS, q_isiT, q_isiL, q_isiTL, q_all, q_any, q_ltS, q_addS, q_inS, q_ninS, q_lenS, q_lenD, q_zipT, q_zipL, q_catT, q_catL, q_slT, q_slS, q_tupleL, q_tupleT, q_tupO, q_lstO, q_listNL, q_listNT, q_insert, q_upper, q_nu2I, q_nu2B, q_nu1I, q_nu1B, q_strI, q_strB, q_strS, q_ixA_T, q_ixA_L, q_ixA_S, q_ixS, q_eqII, q_neII, q_eqSS, q_neSS, q_eqBB, q_neBB, q_dgetS, q_dgetI, q_dinS, q_dinI, at6, at7, gT, gsCons, gsNil, gN, keyOfD, someQ_some, someQ_if, someQ_map, q_allM, q_anyM, i_BN, i_BB, i_BI, i_BS, i_BL, i_BT, i_BD, i_IN, i_IB, i_II, i_IS, i_IL, i_IT, i_ID, i_SN, i_SB, i_SI, i_SS, i_SL, i_ST, i_SD, i_TN, i_TB, i_TI, i_TS, i_TL, i_TT, i_TD, i_LN, i_LB, i_LI, i_LS, i_LL, i_LT, i_LD, sizeLine_eq, isT]; exact h
theorem law_costs_step {ts : List St} {d : D} (hn : ∀ t ∈ ts, PyData.strOk t.name = true) (hts : ts.length ≤ 1000) (hg : goodS 60 d) {Q : D → List (Sl Empty) → Prop} (h : Q (.bool (costsB ts d)) [.val (.tuple (ts.map tD)), .val d]) :
    callQ g__law_is_costs [.val (.tuple (ts.map tD)), .val d] Q := by
  refine call_close ?_
  cases d with
  | tuple rows =>
    obtain ⟨hl, hd⟩ := goodS_tup hg
    unfold m__law_is_costs
    rw [wp_seq]
    by_cases hle : rows.length = ts.length
    case neg =>
      have hle2 : ¬ ((rows.length : Int) = (ts.length : Int)) := by omega
      simp [wp_set, wp_sret, wp_sretO, wp_expr, wp_for, wp_sif, wp_mif, wp_mand, wp_mor, wp_mnot, wp_mtest, wp_bnd, wp_ret, wp_some, wp_mcons, wp_nx, wp_bk, wp_ct, wp_asg, wp_mlc, wp_molc, wp_mcomp, wp_callV, wp_callO, wp_macons, wpr_maown, anQ_own, wpr_aug, auQ_val, wpr, rdQ_val, rdQ_own, wpr_rdO, wpr_wrOp, wpr_mopO, wpr_mmut, wpr_setI, owQ_own, wp_setO, wp_tup, wp_lst, wp_olst, wp_list, wp_tuple, wp_range1, wp_range2, wp_part, wp_slice, wp_tru, wp_andV, wp_orV, wp_notV, seqQ_rt, seqQ_ro, seqQ_bk, seqQ_ct, gath, scat, scat1, pos, ownAt, clQ_nx, clQ_rt, clQ_ro, lpQ_nx, lpQ_ct, lpQ_bk, lpQ_rt, lpQ_ro, mrg1, q_I0, q_I, q_ixL, q_ixT, q_ixO, q_lenL, q_lenT, q_lenO, q_sum, q_listL, q_listT, q_abs, q_max2, q_min2, q_slL, q_neg, q_append, q_setI, q_cMul, q_cDiv, q_cPos, q_cPow, at0, at1, at2, at3, at4, at5, ix0, ix1, okW, isOwn, wipeR, restR, wp_chain, wp_zip, wp_enum, wp_str, wp_slO, wp_rdON, wp_put, wp_swap, wp_str0, wp_mownS, wp_keys, wp_mdcomp, endQ_nx, endQ_rt, endO_ro, q_isiI, q_isiB, q_isiS, q_isiT, q_isiL, q_isiTL, q_all, q_any, q_ltS, q_addS, q_inS, q_ninS, q_lenS, q_lenD, q_zipT, q_zipL, q_catT, q_catL, q_slT, q_slS, q_tupleL, q_tupleT, q_tupO, q_lstO, q_listNL, q_listNT, q_insert, q_upper, q_nu2I, q_nu2B, q_nu1I, q_nu1B, q_strI, q_strB, q_strS, q_ixA_T, q_ixA_L, q_ixA_S, q_ixS, q_eqII, q_neII, q_eqSS, q_neSS, q_eqBB, q_neBB, q_dgetS, q_dgetI, q_dinS, q_dinI, at6, at7, gT, gsCons, gsNil, gN, keyOfD, someQ_some, someQ_if, someQ_map, q_allM, q_anyM, i_BN, i_BB, i_BI, i_BS, i_BL, i_BT, i_BD, i_IN, i_IB, i_II, i_IS, i_IL, i_IT, i_ID, i_SN, i_SB, i_SI, i_SS, i_SL, i_ST, i_SD, i_TN, i_TB, i_TI, i_TS, i_TL, i_TT, i_TD, i_LN, i_LB, i_LI, i_LS, i_LL, i_LT, i_LD, sizeLine_eq, isT, hle2]
      rwa [show costsB ts (.tuple rows) = false by simp [costsB, hle]] at h
    simp [wp_set, wp_sret, wp_sretO, wp_expr, wp_for, wp_sif, wp_mif, wp_mand, wp_mor, wp_mnot, wp_mtest, wp_bnd, wp_ret, wp_some, wp_mcons, wp_nx, wp_bk, wp_ct, wp_asg, wp_mlc, wp_molc, wp_mcomp, wp_callV, wp_callO, wp_macons, wpr_maown, anQ_own, wpr_aug, auQ_val, wpr, rdQ_val, rdQ_own, wpr_rdO, wpr_wrOp, wpr_mopO, wpr_mmut, wpr_setI, owQ_own, wp_setO, wp_tup, wp_lst, wp_olst, wp_list, wp_tuple, wp_range1, wp_range2, wp_part, wp_slice, wp_tru, wp_andV, wp_orV, wp_notV, seqQ_rt, seqQ_ro, seqQ_bk, seqQ_ct, gath, scat, scat1, pos, ownAt, clQ_nx, clQ_rt, clQ_ro, lpQ_nx, lpQ_ct, lpQ_bk, lpQ_rt, lpQ_ro, mrg1, q_I0, q_I, q_ixL, q_ixT, q_ixO, q_lenL, q_lenT, q_lenO, q_sum, q_listL, q_listT, q_abs, q_max2, q_min2, q_slL, q_neg, q_append, q_setI, q_cMul, q_cDiv, q_cPos, q_cPow, at0, at1, at2, at3, at4, at5, ix0, ix1, okW, isOwn, wipeR, restR, wp_chain, wp_zip, wp_enum, wp_str, wp_slO, wp_rdON, wp_put, wp_swap, wp_str0, wp_mownS, wp_keys, wp_mdcomp, endQ_nx, endQ_rt, endO_ro, q_isiI, q_isiB, q_isiS, q_isiT, q_isiL, q_isiTL, q_all, q_any, q_ltS, q_addS, q_inS, q_ninS, q_lenS, q_lenD, q_zipT, q_zipL, q_catT, q_catL, q_slT, q_slS, q_tupleL, q_tupleT, q_tupO, q_lstO, q_listNL, q_listNT, q_insert, q_upper, q_nu2I, q_nu2B, q_nu1I, q_nu1B, q_strI, q_strB, q_strS, q_ixA_T, q_ixA_L, q_ixA_S, q_ixS, q_eqII, q_neII, q_eqSS, q_neSS, q_eqBB, q_neBB, q_dgetS, q_dgetI, q_dinS, q_dinI, at6, at7, gT, gsCons, gsNil, gN, keyOfD, someQ_some, someQ_if, someQ_map, q_allM, q_anyM, i_BN, i_BB, i_BI, i_BS, i_BL, i_BT, i_BD, i_IN, i_IB, i_II, i_IS, i_IL, i_IT, i_ID, i_SN, i_SB, i_SI, i_SS, i_SL, i_ST, i_SD, i_TN, i_TB, i_TI, i_TS, i_TL, i_TT, i_TD, i_LN, i_LB, i_LI, i_LS, i_LL, i_LT, i_LD, sizeLine_eq, isT, hle, -List.map_map]
    rw [seqQ_nx, wp_seq]
    simp [wp_set, wp_sret, wp_sretO, wp_expr, wp_for, wp_sif, wp_mif, wp_mand, wp_mor, wp_mnot, wp_mtest, wp_bnd, wp_ret, wp_some, wp_mcons, wp_nx, wp_bk, wp_ct, wp_asg, wp_mlc, wp_molc, wp_mcomp, wp_callV, wp_callO, wp_macons, wpr_maown, anQ_own, wpr_aug, auQ_val, wpr, rdQ_val, rdQ_own, wpr_rdO, wpr_wrOp, wpr_mopO, wpr_mmut, wpr_setI, owQ_own, wp_setO, wp_tup, wp_lst, wp_olst, wp_list, wp_tuple, wp_range1, wp_range2, wp_part, wp_slice, wp_tru, wp_andV, wp_orV, wp_notV, seqQ_rt, seqQ_ro, seqQ_bk, seqQ_ct, gath, scat, scat1, pos, ownAt, clQ_nx, clQ_rt, clQ_ro, lpQ_nx, lpQ_ct, lpQ_bk, lpQ_rt, lpQ_ro, mrg1, q_I0, q_I, q_ixL, q_ixT, q_ixO, q_lenL, q_lenT, q_lenO, q_sum, q_listL, q_listT, q_abs, q_max2, q_min2, q_slL, q_neg, q_append, q_setI, q_cMul, q_cDiv, q_cPos, q_cPow, at0, at1, at2, at3, at4, at5, ix0, ix1, okW, isOwn, wipeR, restR, wp_chain, wp_zip, wp_enum, wp_str, wp_slO, wp_rdON, wp_put, wp_swap, wp_str0, wp_mownS, wp_keys, wp_mdcomp, endQ_nx, endQ_rt, endO_ro, q_isiI, q_isiB, q_isiS, q_isiT, q_isiL, q_isiTL, q_all, q_any, q_ltS, q_addS, q_inS, q_ninS, q_lenS, q_lenD, q_zipT, q_zipL, q_catT, q_catL, q_slT, q_slS, q_tupleL, q_tupleT, q_tupO, q_lstO, q_listNL, q_listNT, q_insert, q_upper, q_nu2I, q_nu2B, q_nu1I, q_nu1B, q_strI, q_strB, q_strS, q_ixA_T, q_ixA_L, q_ixA_S, q_ixS, q_eqII, q_neII, q_eqSS, q_neSS, q_eqBB, q_neBB, q_dgetS, q_dgetI, q_dinS, q_dinI, at6, at7, gT, gsCons, gsNil, gN, keyOfD, someQ_some, someQ_if, someQ_map, q_allM, q_anyM, i_BN, i_BB, i_BI, i_BS, i_BL, i_BT, i_BD, i_IN, i_IB, i_II, i_IS, i_IL, i_IT, i_ID, i_SN, i_SB, i_SI, i_SS, i_SL, i_ST, i_SD, i_TN, i_TB, i_TI, i_TS, i_TL, i_TT, i_TD, i_LN, i_LB, i_LI, i_LS, i_LL, i_LT, i_LD, sizeLine_eq, -List.map_map]
    rw [zipD_eq]
    refine wp_loop (fun i (ρ : List (Sl Empty)) => ((ts.zip rows).take i).all (fun p => costRowB p.1.name p.2) = true ∧ ∃ x y, ρ = [.val (.tuple (ts.map tD)), .val (.tuple rows), x, y, .un]) ⟨rfl, _, _, rfl⟩ ?_ ?_
    · rintro i d ρ hi ⟨hall, x, y, rfl⟩
      rw [List.getElem?_map] at hi
      cases hp : (ts.zip rows)[i]? with
      | none => rw [hp] at hi; cases hi
      | some p =>
        rw [hp] at hi
        cases hi
        obtain ⟨t, row⟩ := p
        have hmem := List.mem_of_getElem? hp
        have ht := (List.of_mem_zip hmem).1
        have hrow := hd row (List.of_mem_zip hmem).2
        have hbad : costRowB t.name row = false → costsB ts (.tuple rows) = false := fun e => by
          have : ((ts.zip rows).all fun p => costRowB p.1.name p.2) = false := by
            rw [← Bool.not_eq_true, List.all_eq_true]
            intro hh
            have := hh _ hmem
            rw [e] at this
            cases this
          simp only [costsB, this, Bool.and_false]
        refine ⟨_, rfl, ?_⟩
        have hgo : costRowB t.name row = true → ((ts.zip rows).take (i + 1)).all (fun p => costRowB p.1.name p.2) = true := fun e => by
          rw [List.take_add_one, hp, List.all_append, hall]
          simp [e]
        have hF : costRowB t.name row = false → Q (.bool false) [.val (.tuple (ts.map tD)), .val (.tuple rows)] := fun e => by
          rw [hbad e] at h
          exact h
        cases row with
        | tuple cs =>
          obtain ⟨hcl, hcd⟩ := goodS_tup hrow
          by_cases h4 : cs.length = 4
          case neg =>
            have h42 : ¬ ((cs.length : Int) = 4) := by omega
            simp [wp_seq, wp_set, wp_sret, wp_sretO, wp_expr, wp_for, wp_sif, wp_mif, wp_mand, wp_mor, wp_mnot, wp_mtest, wp_bnd, wp_ret, wp_some, wp_mcons, wp_nx, wp_bk, wp_ct, wp_asg, wp_mlc, wp_molc, wp_mcomp, wp_callV, wp_callO, wp_macons, wpr_maown, anQ_own, wpr_aug, auQ_val, wpr, rdQ_val, rdQ_own, wpr_rdO, wpr_wrOp, wpr_mopO, wpr_mmut, wpr_setI, owQ_own, wp_setO, wp_tup, wp_lst, wp_olst, wp_list, wp_tuple, wp_range1, wp_range2, wp_part, wp_slice, wp_tru, wp_andV, wp_orV, wp_notV, seqQ_nx, seqQ_rt, seqQ_ro, seqQ_bk, seqQ_ct, gath, scat, scat1, pos, ownAt, clQ_nx, clQ_rt, clQ_ro, lpQ_nx, lpQ_ct, lpQ_bk, lpQ_rt, lpQ_ro, mrg1, q_I0, q_I, q_ixL, q_ixT, q_ixO, q_lenL, q_lenT, q_lenO, q_sum, q_listL, q_listT, q_abs, q_max2, q_min2, q_slL, q_neg, q_append, q_setI, q_cMul, q_cDiv, q_cPos, q_cPow, at0, at1, at2, at3, at4, at5, ix0, ix1, okW, isOwn, wipeR, restR, wp_chain, wp_zip, wp_enum, wp_str, wp_slO, wp_rdON, wp_put, wp_swap, wp_str0, wp_mownS, wp_keys, wp_mdcomp, endQ_nx, endQ_rt, endO_ro, q_isiI, q_isiB, q_isiS, q_isiT, q_isiL, q_isiTL, q_all, q_any, q_ltS, q_addS, q_inS, q_ninS, q_lenS, q_lenD, q_zipT, q_zipL, q_catT, q_catL, q_slT, q_slS, q_tupleL, q_tupleT, q_tupO, q_lstO, q_listNL, q_listNT, q_insert, q_upper, q_nu2I, q_nu2B, q_nu1I, q_nu1B, q_strI, q_strB, q_strS, q_ixA_T, q_ixA_L, q_ixA_S, q_ixS, q_eqII, q_neII, q_eqSS, q_neSS, q_eqBB, q_neBB, q_dgetS, q_dgetI, q_dinS, q_dinI, at6, at7, gT, gsCons, gsNil, gN, keyOfD, someQ_some, someQ_if, someQ_map, q_allM, q_anyM, i_BN, i_BB, i_BI, i_BS, i_BL, i_BT, i_BD, i_IN, i_IB, i_II, i_IS, i_IL, i_IT, i_ID, i_SN, i_SB, i_SI, i_SS, i_SL, i_ST, i_SD, i_TN, i_TB, i_TI, i_TS, i_TL, i_TT, i_TD, i_LN, i_LB, i_LI, i_LS, i_LL, i_LT, i_LD, sizeLine_eq, isT, h42, -List.map_map]
            refine hF ?_
            unfold costRowB
            split
            · rename_i e; cases e; exact absurd rfl h4
            · rfl
          match cs, h4 with
          | [n, a, b, c], _ =>
            have e : costRowB t.name (.tuple [n, a, b, c]) = (isStr t.name n && (withinB 0 100 a && (withinB 0 100 b && withinB 0 100 c))) := rfl
            have hs := q_neStr (goodS_shaped (hcd n (by simp)) (by decide)) (hn t ht)
            rw [wp_seq]
            cases hb : isStr t.name n
            · simp [wp_set, wp_sret, wp_sretO, wp_expr, wp_for, wp_sif, wp_mif, wp_mand, wp_mor, wp_mnot, wp_mtest, wp_bnd, wp_ret, wp_some, wp_mcons, wp_nx, wp_bk, wp_ct, wp_asg, wp_mlc, wp_molc, wp_mcomp, wp_callV, wp_callO, wp_macons, wpr_maown, anQ_own, wpr_aug, auQ_val, wpr, rdQ_val, rdQ_own, wpr_rdO, wpr_wrOp, wpr_mopO, wpr_mmut, wpr_setI, owQ_own, wp_setO, wp_tup, wp_lst, wp_olst, wp_list, wp_tuple, wp_range1, wp_range2, wp_part, wp_slice, wp_tru, wp_andV, wp_orV, wp_notV, seqQ_rt, seqQ_ro, seqQ_bk, seqQ_ct, gath, scat, scat1, pos, ownAt, clQ_nx, clQ_rt, clQ_ro, lpQ_nx, lpQ_ct, lpQ_bk, lpQ_rt, lpQ_ro, mrg1, q_I0, q_I, q_ixL, q_ixT, q_ixO, q_lenL, q_lenT, q_lenO, q_sum, q_listL, q_listT, q_abs, q_max2, q_min2, q_slL, q_neg, q_append, q_setI, q_cMul, q_cDiv, q_cPos, q_cPow, at0, at1, at2, at3, at4, at5, ix0, ix1, okW, isOwn, wipeR, restR, wp_chain, wp_zip, wp_enum, wp_str, wp_slO, wp_rdON, wp_put, wp_swap, wp_str0, wp_mownS, wp_keys, wp_mdcomp, endQ_nx, endQ_rt, endO_ro, q_isiI, q_isiB, q_isiS, q_isiT, q_isiL, q_isiTL, q_all, q_any, q_ltS, q_addS, q_inS, q_ninS, q_lenS, q_lenD, q_zipT, q_zipL, q_catT, q_catL, q_slT, q_slS, q_tupleL, q_tupleT, q_tupO, q_lstO, q_listNL, q_listNT, q_insert, q_upper, q_nu2I, q_nu2B, q_nu1I, q_nu1B, q_strI, q_strB, q_strS, q_ixA_T, q_ixA_L, q_ixA_S, q_ixS, q_eqII, q_neII, q_eqSS, q_neSS, q_eqBB, q_neBB, q_dgetS, q_dgetI, q_dinS, q_dinI, at6, at7, gT, gsCons, gsNil, gN, keyOfD, someQ_some, someQ_if, someQ_map, q_allM, q_anyM, i_BN, i_BB, i_BI, i_BS, i_BL, i_BT, i_BD, i_IN, i_IB, i_II, i_IS, i_IL, i_IT, i_ID, i_SN, i_SB, i_SI, i_SS, i_SL, i_ST, i_SD, i_TN, i_TB, i_TI, i_TS, i_TL, i_TT, i_TD, i_LN, i_LB, i_LI, i_LS, i_LL, i_LT, i_LD, sizeLine_eq, isT, tD, hs, hb, seqQ_rt]
              exact hF (by rw [e, hb]; rfl)
            simp [wp_set, wp_sret, wp_sretO, wp_expr, wp_for, wp_sif, wp_mif, wp_mand, wp_mor, wp_mnot, wp_mtest, wp_bnd, wp_ret, wp_some, wp_mcons, wp_nx, wp_bk, wp_ct, wp_asg, wp_mlc, wp_molc, wp_mcomp, wp_callV, wp_callO, wp_macons, wpr_maown, anQ_own, wpr_aug, auQ_val, wpr, rdQ_val, rdQ_own, wpr_rdO, wpr_wrOp, wpr_mopO, wpr_mmut, wpr_setI, owQ_own, wp_setO, wp_tup, wp_lst, wp_olst, wp_list, wp_tuple, wp_range1, wp_range2, wp_part, wp_slice, wp_tru, wp_andV, wp_orV, wp_notV, seqQ_rt, seqQ_ro, seqQ_bk, seqQ_ct, gath, scat, scat1, pos, ownAt, clQ_nx, clQ_rt, clQ_ro, lpQ_nx, lpQ_ct, lpQ_bk, lpQ_rt, lpQ_ro, mrg1, q_I0, q_I, q_ixL, q_ixT, q_ixO, q_lenL, q_lenT, q_lenO, q_sum, q_listL, q_listT, q_abs, q_max2, q_min2, q_slL, q_neg, q_append, q_setI, q_cMul, q_cDiv, q_cPos, q_cPow, at0, at1, at2, at3, at4, at5, ix0, ix1, okW, isOwn, wipeR, restR, wp_chain, wp_zip, wp_enum, wp_str, wp_slO, wp_rdON, wp_put, wp_swap, wp_str0, wp_mownS, wp_keys, wp_mdcomp, endQ_nx, endQ_rt, endO_ro, q_isiI, q_isiB, q_isiS, q_isiT, q_isiL, q_isiTL, q_all, q_any, q_ltS, q_addS, q_inS, q_ninS, q_lenS, q_lenD, q_zipT, q_zipL, q_catT, q_catL, q_slT, q_slS, q_tupleL, q_tupleT, q_tupO, q_lstO, q_listNL, q_listNT, q_insert, q_upper, q_nu2I, q_nu2B, q_nu1I, q_nu1B, q_strI, q_strB, q_strS, q_ixA_T, q_ixA_L, q_ixA_S, q_ixS, q_eqII, q_neII, q_eqSS, q_neSS, q_eqBB, q_neBB, q_dgetS, q_dgetI, q_dinS, q_dinI, at6, at7, gT, gsCons, gsNil, gN, keyOfD, someQ_some, someQ_if, someQ_map, q_allM, q_anyM, i_BN, i_BB, i_BI, i_BS, i_BL, i_BT, i_BD, i_IN, i_IB, i_II, i_IS, i_IL, i_IT, i_ID, i_SN, i_SB, i_SI, i_SS, i_SL, i_ST, i_SD, i_TN, i_TB, i_TI, i_TS, i_TL, i_TT, i_TD, i_LN, i_LB, i_LI, i_LS, i_LL, i_LT, i_LD, sizeLine_eq, isT, tD, hs, hb, cut_tup4, -List.map_map]
            rw [seqQ_nx]
            simp [wp_set, wp_sret, wp_sretO, wp_expr, wp_for, wp_sif, wp_mif, wp_mand, wp_mor, wp_mnot, wp_mtest, wp_bnd, wp_ret, wp_some, wp_mcons, wp_nx, wp_bk, wp_ct, wp_asg, wp_mlc, wp_molc, wp_mcomp, wp_callV, wp_callO, wp_macons, wpr_maown, anQ_own, wpr_aug, auQ_val, wpr, rdQ_val, rdQ_own, wpr_rdO, wpr_wrOp, wpr_mopO, wpr_mmut, wpr_setI, owQ_own, wp_setO, wp_tup, wp_lst, wp_olst, wp_list, wp_tuple, wp_range1, wp_range2, wp_part, wp_slice, wp_tru, wp_andV, wp_orV, wp_notV, seqQ_rt, seqQ_ro, seqQ_bk, seqQ_ct, gath, scat, scat1, pos, ownAt, clQ_nx, clQ_rt, clQ_ro, lpQ_nx, lpQ_ct, lpQ_bk, lpQ_rt, lpQ_ro, mrg1, q_I0, q_I, q_ixL, q_ixT, q_ixO, q_lenL, q_lenT, q_lenO, q_sum, q_listL, q_listT, q_abs, q_max2, q_min2, q_slL, q_neg, q_append, q_setI, q_cMul, q_cDiv, q_cPos, q_cPow, at0, at1, at2, at3, at4, at5, ix0, ix1, okW, isOwn, wipeR, restR, wp_chain, wp_zip, wp_enum, wp_str, wp_slO, wp_rdON, wp_put, wp_swap, wp_str0, wp_mownS, wp_keys, wp_mdcomp, endQ_nx, endQ_rt, endO_ro, q_isiI, q_isiB, q_isiS, q_isiT, q_isiL, q_isiTL, q_all, q_any, q_ltS, q_addS, q_inS, q_ninS, q_lenS, q_lenD, q_zipT, q_zipL, q_catT, q_catL, q_slT, q_slS, q_tupleL, q_tupleT, q_tupO, q_lstO, q_listNL, q_listNT, q_insert, q_upper, q_nu2I, q_nu2B, q_nu1I, q_nu1B, q_strI, q_strB, q_strS, q_ixA_T, q_ixA_L, q_ixA_S, q_ixS, q_eqII, q_neII, q_eqSS, q_neSS, q_eqBB, q_neBB, q_dgetS, q_dgetI, q_dinS, q_dinI, at6, at7, gT, gsCons, gsNil, gN, keyOfD, someQ_some, someQ_if, someQ_map, q_allM, q_anyM, i_BN, i_BB, i_BI, i_BS, i_BL, i_BT, i_BD, i_IN, i_IB, i_II, i_IS, i_IL, i_IT, i_ID, i_SN, i_SB, i_SI, i_SS, i_SL, i_ST, i_SD, i_TN, i_TB, i_TI, i_TS, i_TL, i_TT, i_TD, i_LN, i_LB, i_LI, i_LS, i_LL, i_LT, i_LD, sizeLine_eq, cut_tup4, -List.map_map]
            refine wp_filt (fun d => !withinB 0 100 d) id (fun d hm => ?_) ?_
            · refine ⟨_, rfl, ?_⟩
              simp [wp_set, wp_sret, wp_sretO, wp_expr, wp_for, wp_sif, wp_mif, wp_mand, wp_mor, wp_mnot, wp_mtest, wp_bnd, wp_ret, wp_some, wp_mcons, wp_nx, wp_bk, wp_ct, wp_asg, wp_mlc, wp_molc, wp_mcomp, wp_callV, wp_callO, wp_macons, wpr_maown, anQ_own, wpr_aug, auQ_val, wpr, rdQ_val, rdQ_own, wpr_rdO, wpr_wrOp, wpr_mopO, wpr_mmut, wpr_setI, owQ_own, wp_setO, wp_tup, wp_lst, wp_olst, wp_list, wp_tuple, wp_range1, wp_range2, wp_part, wp_slice, wp_tru, wp_andV, wp_orV, wp_notV, seqQ_rt, seqQ_ro, seqQ_bk, seqQ_ct, gath, scat, scat1, pos, ownAt, clQ_nx, clQ_rt, clQ_ro, lpQ_nx, lpQ_ct, lpQ_bk, lpQ_rt, lpQ_ro, mrg1, q_I0, q_I, q_ixL, q_ixT, q_ixO, q_lenL, q_lenT, q_lenO, q_sum, q_listL, q_listT, q_abs, q_max2, q_min2, q_slL, q_neg, q_append, q_setI, q_cMul, q_cDiv, q_cPos, q_cPow, at0, at1, at2, at3, at4, at5, ix0, ix1, okW, isOwn, wipeR, restR, wp_chain, wp_zip, wp_enum, wp_str, wp_slO, wp_rdON, wp_put, wp_swap, wp_str0, wp_mownS, wp_keys, wp_mdcomp, endQ_nx, endQ_rt, endO_ro, q_isiI, q_isiB, q_isiS, q_isiT, q_isiL, q_isiTL, q_all, q_any, q_ltS, q_addS, q_inS, q_ninS, q_lenS, q_lenD, q_zipT, q_zipL, q_catT, q_catL, q_slT, q_slS, q_tupleL, q_tupleT, q_tupO, q_lstO, q_listNL, q_listNT, q_insert, q_upper, q_nu2I, q_nu2B, q_nu1I, q_nu1B, q_strI, q_strB, q_strS, q_ixA_T, q_ixA_L, q_ixA_S, q_ixS, q_eqII, q_neII, q_eqSS, q_neSS, q_eqBB, q_neBB, q_dgetS, q_dgetI, q_dinS, q_dinI, at6, at7, gT, gsCons, gsNil, gN, keyOfD, someQ_some, someQ_if, someQ_map, q_allM, q_anyM, i_BN, i_BB, i_BI, i_BS, i_BL, i_BT, i_BD, i_IN, i_IB, i_II, i_IS, i_IL, i_IT, i_ID, i_SN, i_SB, i_SI, i_SS, i_SL, i_ST, i_SD, i_TN, i_TB, i_TI, i_TS, i_TL, i_TT, i_TD, i_LN, i_LB, i_LI, i_LS, i_LL, i_LT, i_LD, sizeLine_eq, -List.map_map]
              refine lwithin_step ?_
              cases withinB 0 100 d <;> simp [wp_set, wp_sret, wp_sretO, wp_expr, wp_for, wp_sif, wp_mif, wp_mand, wp_mor, wp_mnot, wp_mtest, wp_bnd, wp_ret, wp_some, wp_mcons, wp_nx, wp_bk, wp_ct, wp_asg, wp_mlc, wp_molc, wp_mcomp, wp_callV, wp_callO, wp_macons, wpr_maown, anQ_own, wpr_aug, auQ_val, wpr, rdQ_val, rdQ_own, wpr_rdO, wpr_wrOp, wpr_mopO, wpr_mmut, wpr_setI, owQ_own, wp_setO, wp_tup, wp_lst, wp_olst, wp_list, wp_tuple, wp_range1, wp_range2, wp_part, wp_slice, wp_tru, wp_andV, wp_orV, wp_notV, seqQ_rt, seqQ_ro, seqQ_bk, seqQ_ct, gath, scat, scat1, pos, ownAt, clQ_nx, clQ_rt, clQ_ro, lpQ_nx, lpQ_ct, lpQ_bk, lpQ_rt, lpQ_ro, mrg1, q_I0, q_I, q_ixL, q_ixT, q_ixO, q_lenL, q_lenT, q_lenO, q_sum, q_listL, q_listT, q_abs, q_max2, q_min2, q_slL, q_neg, q_append, q_setI, q_cMul, q_cDiv, q_cPos, q_cPow, at0, at1, at2, at3, at4, at5, ix0, ix1, okW, isOwn, wipeR, restR, wp_chain, wp_zip, wp_enum, wp_str, wp_slO, wp_rdON, wp_put, wp_swap, wp_str0, wp_mownS, wp_keys, wp_mdcomp, endQ_nx, endQ_rt, endO_ro, q_isiI, q_isiB, q_isiS, q_isiT, q_isiL, q_isiTL, q_all, q_any, q_ltS, q_addS, q_inS, q_ninS, q_lenS, q_lenD, q_zipT, q_zipL, q_catT, q_catL, q_slT, q_slS, q_tupleL, q_tupleT, q_tupO, q_lstO, q_listNL, q_listNT, q_insert, q_upper, q_nu2I, q_nu2B, q_nu1I, q_nu1B, q_strI, q_strB, q_strS, q_ixA_T, q_ixA_L, q_ixA_S, q_ixS, q_eqII, q_neII, q_eqSS, q_neSS, q_eqBB, q_neBB, q_dgetS, q_dgetI, q_dinS, q_dinI, at6, at7, gT, gsCons, gsNil, gN, keyOfD, someQ_some, someQ_if, someQ_map, q_allM, q_anyM, i_BN, i_BB, i_BI, i_BS, i_BL, i_BT, i_BD, i_IN, i_IB, i_II, i_IS, i_IL, i_IT, i_ID, i_SN, i_SB, i_SI, i_SS, i_SL, i_ST, i_SD, i_TN, i_TB, i_TI, i_TS, i_TL, i_TT, i_TD, i_LN, i_LB, i_LI, i_LS, i_LL, i_LT, i_LD, sizeLine_eq]
            rw [List.map_id]
            have hsh : SeqAt.shaped (.list ([a, b, c].filter fun d => !withinB 0 100 d)) = true := by
              refine goodS_shaped (n := 64) ⟨?_, ?_⟩ (Nat.le_refl _)
              · unfold good
                rw [Bool.and_eq_true, goodAll_iff]
                refine ⟨decide_eq_true (Nat.le_trans (List.length_filter_le _ _) (by simp)), fun d hd => ?_⟩
                have := (List.mem_filter.mp hd).1
                exact (hcd d (List.mem_cons_of_mem _ this)).1
              · rw [PyData.depth]
                have : PyData.depthAll ([a, b, c].filter fun d => !withinB 0 100 d) ≤ 60 := depthAll_le fun d hd => by
                  have := (hcd d (List.mem_cons_of_mem _ ((List.mem_filter.mp hd).1))).2
                  omega
                omega
            have e2 : costRowB t.name (.tuple [n, a, b, c]) = [a, b, c].all (withinB 0 100) := by rw [e, hb]; simp
            have e3 : PyData.eqv (.list ([a, b, c].filter fun d => !withinB 0 100 d)) (.list []) = costRowB t.name (.tuple [n, a, b, c]) := by
              rw [e2]
              exact eqv_filt _ _
            have e4 : gNeD (.list ([a, b, c].filter fun d => !withinB 0 100 d)) (.list []) = some (.bool (!costRowB t.name (.tuple [n, a, b, c]))) := by
              unfold gNeD
              rw [if_pos ⟨hsh, rfl⟩, e3]
            simp only [wp_bnd, wp_lst, wp_ret, e4]
            cases hw : costRowB t.name (.tuple [n, a, b, c])
            · simp [wp_set, wp_sret, wp_sretO, wp_expr, wp_for, wp_sif, wp_mif, wp_mand, wp_mor, wp_mnot, wp_mtest, wp_bnd, wp_ret, wp_some, wp_mcons, wp_nx, wp_bk, wp_ct, wp_asg, wp_mlc, wp_molc, wp_mcomp, wp_callV, wp_callO, wp_macons, wpr_maown, anQ_own, wpr_aug, auQ_val, wpr, rdQ_val, rdQ_own, wpr_rdO, wpr_wrOp, wpr_mopO, wpr_mmut, wpr_setI, owQ_own, wp_setO, wp_tup, wp_lst, wp_olst, wp_list, wp_tuple, wp_range1, wp_range2, wp_part, wp_slice, wp_tru, wp_andV, wp_orV, wp_notV, seqQ_rt, seqQ_ro, seqQ_bk, seqQ_ct, gath, scat, scat1, pos, ownAt, clQ_nx, clQ_rt, clQ_ro, lpQ_nx, lpQ_ct, lpQ_bk, lpQ_rt, lpQ_ro, mrg1, q_I0, q_I, q_ixL, q_ixT, q_ixO, q_lenL, q_lenT, q_lenO, q_sum, q_listL, q_listT, q_abs, q_max2, q_min2, q_slL, q_neg, q_append, q_setI, q_cMul, q_cDiv, q_cPos, q_cPow, at0, at1, at2, at3, at4, at5, ix0, ix1, okW, isOwn, wipeR, restR, wp_chain, wp_zip, wp_enum, wp_str, wp_slO, wp_rdON, wp_put, wp_swap, wp_str0, wp_mownS, wp_keys, wp_mdcomp, endQ_nx, endQ_rt, endO_ro, q_isiI, q_isiB, q_isiS, q_isiT, q_isiL, q_isiTL, q_all, q_any, q_ltS, q_addS, q_inS, q_ninS, q_lenS, q_lenD, q_zipT, q_zipL, q_catT, q_catL, q_slT, q_slS, q_tupleL, q_tupleT, q_tupO, q_lstO, q_listNL, q_listNT, q_insert, q_upper, q_nu2I, q_nu2B, q_nu1I, q_nu1B, q_strI, q_strB, q_strS, q_ixA_T, q_ixA_L, q_ixA_S, q_ixS, q_eqII, q_neII, q_eqSS, q_neSS, q_eqBB, q_neBB, q_dgetS, q_dgetI, q_dinS, q_dinI, at6, at7, gT, gsCons, gsNil, gN, keyOfD, someQ_some, someQ_if, someQ_map, q_allM, q_anyM, i_BN, i_BB, i_BI, i_BS, i_BL, i_BT, i_BD, i_IN, i_IB, i_II, i_IS, i_IL, i_IT, i_ID, i_SN, i_SB, i_SI, i_SS, i_SL, i_ST, i_SD, i_TN, i_TB, i_TI, i_TS, i_TL, i_TT, i_TD, i_LN, i_LB, i_LI, i_LS, i_LL, i_LT, i_LD, sizeLine_eq, e4, hw]
              exact hF hw
            · simp [wp_set, wp_sret, wp_sretO, wp_expr, wp_for, wp_sif, wp_mif, wp_mand, wp_mor, wp_mnot, wp_mtest, wp_bnd, wp_ret, wp_some, wp_mcons, wp_nx, wp_bk, wp_ct, wp_asg, wp_mlc, wp_molc, wp_mcomp, wp_callV, wp_callO, wp_macons, wpr_maown, anQ_own, wpr_aug, auQ_val, wpr, rdQ_val, rdQ_own, wpr_rdO, wpr_wrOp, wpr_mopO, wpr_mmut, wpr_setI, owQ_own, wp_setO, wp_tup, wp_lst, wp_olst, wp_list, wp_tuple, wp_range1, wp_range2, wp_part, wp_slice, wp_tru, wp_andV, wp_orV, wp_notV, seqQ_rt, seqQ_ro, seqQ_bk, seqQ_ct, gath, scat, scat1, pos, ownAt, clQ_nx, clQ_rt, clQ_ro, lpQ_nx, lpQ_ct, lpQ_bk, lpQ_rt, lpQ_ro, mrg1, q_I0, q_I, q_ixL, q_ixT, q_ixO, q_lenL, q_lenT, q_lenO, q_sum, q_listL, q_listT, q_abs, q_max2, q_min2, q_slL, q_neg, q_append, q_setI, q_cMul, q_cDiv, q_cPos, q_cPow, at0, at1, at2, at3, at4, at5, ix0, ix1, okW, isOwn, wipeR, restR, wp_chain, wp_zip, wp_enum, wp_str, wp_slO, wp_rdON, wp_put, wp_swap, wp_str0, wp_mownS, wp_keys, wp_mdcomp, endQ_nx, endQ_rt, endO_ro, q_isiI, q_isiB, q_isiS, q_isiT, q_isiL, q_isiTL, q_all, q_any, q_ltS, q_addS, q_inS, q_ninS, q_lenS, q_lenD, q_zipT, q_zipL, q_catT, q_catL, q_slT, q_slS, q_tupleL, q_tupleT, q_tupO, q_lstO, q_listNL, q_listNT, q_insert, q_upper, q_nu2I, q_nu2B, q_nu1I, q_nu1B, q_strI, q_strB, q_strS, q_ixA_T, q_ixA_L, q_ixA_S, q_ixS, q_eqII, q_neII, q_eqSS, q_neSS, q_eqBB, q_neBB, q_dgetS, q_dgetI, q_dinS, q_dinI, at6, at7, gT, gsCons, gsNil, gN, keyOfD, someQ_some, someQ_if, someQ_map, q_allM, q_anyM, i_BN, i_BB, i_BI, i_BS, i_BL, i_BT, i_BD, i_IN, i_IB, i_II, i_IS, i_IL, i_IT, i_ID, i_SN, i_SB, i_SI, i_SS, i_SL, i_ST, i_SD, i_TN, i_TB, i_TI, i_TS, i_TL, i_TT, i_TD, i_LN, i_LB, i_LI, i_LS, i_LL, i_LT, i_LD, sizeLine_eq, e4, hw]
              exact fun a b => by have := List.all_eq_true.mp (hgo hw) (a, b); simpa using this
        | _ =>
          simp [wp_seq, wp_set, wp_sret, wp_sretO, wp_expr, wp_for, wp_sif, wp_mif, wp_mand, wp_mor, wp_mnot, wp_mtest, wp_bnd, wp_ret, wp_some, wp_mcons, wp_nx, wp_bk, wp_ct, wp_asg, wp_mlc, wp_molc, wp_mcomp, wp_callV, wp_callO, wp_macons, wpr_maown, anQ_own, wpr_aug, auQ_val, wpr, rdQ_val, rdQ_own, wpr_rdO, wpr_wrOp, wpr_mopO, wpr_mmut, wpr_setI, owQ_own, wp_setO, wp_tup, wp_lst, wp_olst, wp_list, wp_tuple, wp_range1, wp_range2, wp_part, wp_slice, wp_tru, wp_andV, wp_orV, wp_notV, seqQ_nx, seqQ_rt, seqQ_ro, seqQ_bk, seqQ_ct, gath, scat, scat1, pos, ownAt, clQ_nx, clQ_rt, clQ_ro, lpQ_nx, lpQ_ct, lpQ_bk, lpQ_rt, lpQ_ro, mrg1, q_I0, q_I, q_ixL, q_ixT, q_ixO, q_lenL, q_lenT, q_lenO, q_sum, q_listL, q_listT, q_abs, q_max2, q_min2, q_slL, q_neg, q_append, q_setI, q_cMul, q_cDiv, q_cPos, q_cPow, at0, at1, at2, at3, at4, at5, ix0, ix1, okW, isOwn, wipeR, restR, wp_chain, wp_zip, wp_enum, wp_str, wp_slO, wp_rdON, wp_put, wp_swap, wp_str0, wp_mownS, wp_keys, wp_mdcomp, endQ_nx, endQ_rt, endO_ro, q_isiI, q_isiB, q_isiS, q_isiT, q_isiL, q_isiTL, q_all, q_any, q_ltS, q_addS, q_inS, q_ninS, q_lenS, q_lenD, q_zipT, q_zipL, q_catT, q_catL, q_slT, q_slS, q_tupleL, q_tupleT, q_tupO, q_lstO, q_listNL, q_listNT, q_insert, q_upper, q_nu2I, q_nu2B, q_nu1I, q_nu1B, q_strI, q_strB, q_strS, q_ixA_T, q_ixA_L, q_ixA_S, q_ixS, q_eqII, q_neII, q_eqSS, q_neSS, q_eqBB, q_neBB, q_dgetS, q_dgetI, q_dinS, q_dinI, at6, at7, gT, gsCons, gsNil, gN, keyOfD, someQ_some, someQ_if, someQ_map, q_allM, q_anyM, i_BN, i_BB, i_BI, i_BS, i_BL, i_BT, i_BD, i_IN, i_IB, i_II, i_IS, i_IL, i_IT, i_ID, i_SN, i_SB, i_SI, i_SS, i_SL, i_ST, i_SD, i_TN, i_TB, i_TI, i_TS, i_TL, i_TT, i_TD, i_LN, i_LB, i_LI, i_LS, i_LL, i_LT, i_LD, sizeLine_eq, isT]
          exact hF rfl
    · rintro ρ ⟨hall, x, y, rfl⟩
      rw [List.length_map, List.take_length] at hall
      simp [wp_seq, wp_set, wp_sret, wp_sretO, wp_expr, wp_for, wp_sif, wp_mif, wp_mand, wp_mor, wp_mnot, wp_mtest, wp_bnd, wp_ret, wp_some, wp_mcons, wp_nx, wp_bk, wp_ct, wp_asg, wp_mlc, wp_molc, wp_mcomp, wp_callV, wp_callO, wp_macons, wpr_maown, anQ_own, wpr_aug, auQ_val, wpr, rdQ_val, rdQ_own, wpr_rdO, wpr_wrOp, wpr_mopO, wpr_mmut, wpr_setI, owQ_own, wp_setO, wp_tup, wp_lst, wp_olst, wp_list, wp_tuple, wp_range1, wp_range2, wp_part, wp_slice, wp_tru, wp_andV, wp_orV, wp_notV, seqQ_nx, seqQ_rt, seqQ_ro, seqQ_bk, seqQ_ct, gath, scat, scat1, pos, ownAt, clQ_nx, clQ_rt, clQ_ro, lpQ_nx, lpQ_ct, lpQ_bk, lpQ_rt, lpQ_ro, mrg1, q_I0, q_I, q_ixL, q_ixT, q_ixO, q_lenL, q_lenT, q_lenO, q_sum, q_listL, q_listT, q_abs, q_max2, q_min2, q_slL, q_neg, q_append, q_setI, q_cMul, q_cDiv, q_cPos, q_cPow, at0, at1, at2, at3, at4, at5, ix0, ix1, okW, isOwn, wipeR, restR, wp_chain, wp_zip, wp_enum, wp_str, wp_slO, wp_rdON, wp_put, wp_swap, wp_str0, wp_mownS, wp_keys, wp_mdcomp, endQ_nx, endQ_rt, endO_ro, q_isiI, q_isiB, q_isiS, q_isiT, q_isiL, q_isiTL, q_all, q_any, q_ltS, q_addS, q_inS, q_ninS, q_lenS, q_lenD, q_zipT, q_zipL, q_catT, q_catL, q_slT, q_slS, q_tupleL, q_tupleT, q_tupO, q_lstO, q_listNL, q_listNT, q_insert, q_upper, q_nu2I, q_nu2B, q_nu1I, q_nu1B, q_strI, q_strB, q_strS, q_ixA_T, q_ixA_L, q_ixA_S, q_ixS, q_eqII, q_neII, q_eqSS, q_neSS, q_eqBB, q_neBB, q_dgetS, q_dgetI, q_dinS, q_dinI, at6, at7, gT, gsCons, gsNil, gN, keyOfD, someQ_some, someQ_if, someQ_map, q_allM, q_anyM, i_BN, i_BB, i_BI, i_BS, i_BL, i_BT, i_BD, i_IN, i_IB, i_II, i_IS, i_IL, i_IT, i_ID, i_SN, i_SB, i_SI, i_SS, i_SL, i_ST, i_SD, i_TN, i_TB, i_TI, i_TS, i_TL, i_TT, i_TD, i_LN, i_LB, i_LI, i_LS, i_LL, i_LT, i_LD, sizeLine_eq]
      rwa [show costsB ts (.tuple rows) = true by simp only [costsB, hle, hall, decide_true, Bool.and_self]] at h
  | _ =>
    simp [m__law_is_costs, wp_seq, wp_set, wp_sret, wp_sretO, wp_expr, wp_for, wp_sif, wp_mif, wp_mand, wp_mor, wp_mnot, wp_mtest, wp_bnd, wp_ret, wp_some, wp_mcons, wp_nx, wp_bk, wp_ct, wp_asg, wp_mlc, wp_molc, wp_mcomp, wp_callV, wp_callO, wp_macons, wpr_maown, anQ_own, wpr_aug, auQ_val, wpr, rdQ_val, rdQ_own, wpr_rdO, wpr_wrOp, wpr_mopO, wpr_mmut, wpr_setI, owQ_own, wp_setO, wp_tup, wp_lst, wp_olst, wp_list, wp_tuple, wp_range1, wp_range2, wp_part, wp_slice, wp_tru, wp_andV, wp_orV, wp_notV, seqQ_nx, seqQ_rt, seqQ_ro, seqQ_bk, seqQ_ct, gath, scat, scat1, pos, ownAt, clQ_nx, clQ_rt, clQ_ro, lpQ_nx, lpQ_ct, lpQ_bk, lpQ_rt, lpQ_ro, mrg1, q_I0, q_I, q_ixL, q_ixT, q_ixO, q_lenL, q_lenT, q_lenO, q_sum, q_listL, q_listT, q_abs, q_max2, q_min2, q_slL, q_neg, q_append, q_setI, q_cMul, q_cDiv, q_cPos, q_cPow, at0, at1, at2, at3, at4, at5, ix0, ix1, okW, isOwn, wipeR, restR, wp_chain, wp_zip, wp_enum, wp_str, wp_slO, wp_rdON, wp_put, wp_swap, wp_str0, wp_mownS, wp_keys, wp_mdcomp, endQ_nx, endQ_rt, endO_ro, q_isiI, q_isiB, q_isiS, q_isiT, q_isiL, q_isiTL, q_all, q_any, q_ltS, q_addS, q_inS, q_ninS, q_lenS, q_lenD, q_zipT, q_zipL, q_catT, q_catL, q_slT, q_slS, q_tupleL, q_tupleT, q_tupO, q_lstO, q_listNL, q_listNT, q_insert, q_upper, q_nu2I, q_nu2B, q_nu1I, q_nu1B, q_strI, q_strB, q_strS, q_ixA_T, q_ixA_L, q_ixA_S, q_ixS, q_eqII, q_neII, q_eqSS, q_neSS, q_eqBB, q_neBB, q_dgetS, q_dgetI, q_dinS, q_dinI, at6, at7, gT, gsCons, gsNil, gN, keyOfD, someQ_some, someQ_if, someQ_map, q_allM, q_anyM, i_BN, i_BB, i_BI, i_BS, i_BL, i_BT, i_BD, i_IN, i_IB, i_II, i_IS, i_IL, i_IT, i_ID, i_SN, i_SB, i_SI, i_SS, i_SL, i_ST, i_SD, i_TN, i_TB, i_TI, i_TS, i_TL, i_TT, i_TD, i_LN, i_LB, i_LI, i_LS, i_LL, i_LT, i_LD, sizeLine_eq, isT]; exact h
theorem need_tree_step {d : D} (hg : good d = true) (ht : treeB d = true) {Q : D → List (Sl Empty) → Prop} (h : Q .none [.val d]) : callQ g_need_tree [.val d] Q := by
  refine call_close ?_
  simp [m_need_tree, wp_seq, wp_set, wp_sret, wp_sretO, wp_expr, wp_for, wp_sif, wp_mif, wp_mand, wp_mor, wp_mnot, wp_mtest, wp_bnd, wp_ret, wp_some, wp_mcons, wp_nx, wp_bk, wp_ct, wp_asg, wp_mlc, wp_molc, wp_mcomp, wp_callV, wp_callO, wp_macons, wpr_maown, anQ_own, wpr_aug, auQ_val, wpr, rdQ_val, rdQ_own, wpr_rdO, wpr_wrOp, wpr_mopO, wpr_mmut, wpr_setI, owQ_own, wp_setO, wp_tup, wp_lst, wp_olst, wp_list, wp_tuple, wp_range1, wp_range2, wp_part, wp_slice, wp_tru, wp_andV, wp_orV, wp_notV, seqQ_nx, seqQ_rt, seqQ_ro, seqQ_bk, seqQ_ct, gath, scat, scat1, pos, ownAt, clQ_nx, clQ_rt, clQ_ro, lpQ_nx, lpQ_ct, lpQ_bk, lpQ_rt, lpQ_ro, mrg1, q_I0, q_I, q_ixL, q_ixT, q_ixO, q_lenL, q_lenT, q_lenO, q_sum, q_listL, q_listT, q_abs, q_max2, q_min2, q_slL, q_neg, q_append, q_setI, q_cMul, q_cDiv, q_cPos, q_cPow, at0, at1, at2, at3, at4, at5, ix0, ix1, okW, isOwn, wipeR, restR, wp_chain, wp_zip, wp_enum, wp_str, wp_slO, wp_rdON, wp_put, wp_swap, wp_str0, wp_mownS, wp_keys, wp_mdcomp, endQ_nx, endQ_rt, endO_ro, q_isiI, q_isiB, q_isiS, q_isiT, q_isiL, q_isiTL, q_all, q_any, q_ltS, q_addS, q_inS, q_ninS, q_lenS, q_lenD, q_zipT, q_zipL, q_catT, q_catL, q_slT, q_slS, q_tupleL, q_tupleT, q_tupO, q_lstO, q_listNL, q_listNT, q_insert, q_upper, q_nu2I, q_nu2B, q_nu1I, q_nu1B, q_strI, q_strB, q_strS, q_ixA_T, q_ixA_L, q_ixA_S, q_ixS, q_eqII, q_neII, q_eqSS, q_neSS, q_eqBB, q_neBB, q_dgetS, q_dgetI, q_dinS, q_dinI, at6, at7, gT, gsCons, gsNil, gN, keyOfD, someQ_some, someQ_if, someQ_map, q_allM, q_anyM, i_BN, i_BB, i_BI, i_BS, i_BL, i_BT, i_BD, i_IN, i_IB, i_II, i_IS, i_IL, i_IT, i_ID, i_SN, i_SB, i_SI, i_SS, i_SL, i_ST, i_SD, i_TN, i_TB, i_TI, i_TS, i_TL, i_TT, i_TD, i_LN, i_LB, i_LI, i_LS, i_LL, i_LT, i_LD, sizeLine_eq]
  refine tree_step hg ?_
  rw [ht]
  simp [wp_seq, wp_set, wp_sret, wp_sretO, wp_expr, wp_for, wp_sif, wp_mif, wp_mand, wp_mor, wp_mnot, wp_mtest, wp_bnd, wp_ret, wp_some, wp_mcons, wp_nx, wp_bk, wp_ct, wp_asg, wp_mlc, wp_molc, wp_mcomp, wp_callV, wp_callO, wp_macons, wpr_maown, anQ_own, wpr_aug, auQ_val, wpr, rdQ_val, rdQ_own, wpr_rdO, wpr_wrOp, wpr_mopO, wpr_mmut, wpr_setI, owQ_own, wp_setO, wp_tup, wp_lst, wp_olst, wp_list, wp_tuple, wp_range1, wp_range2, wp_part, wp_slice, wp_tru, wp_andV, wp_orV, wp_notV, seqQ_nx, seqQ_rt, seqQ_ro, seqQ_bk, seqQ_ct, gath, scat, scat1, pos, ownAt, clQ_nx, clQ_rt, clQ_ro, lpQ_nx, lpQ_ct, lpQ_bk, lpQ_rt, lpQ_ro, mrg1, q_I0, q_I, q_ixL, q_ixT, q_ixO, q_lenL, q_lenT, q_lenO, q_sum, q_listL, q_listT, q_abs, q_max2, q_min2, q_slL, q_neg, q_append, q_setI, q_cMul, q_cDiv, q_cPos, q_cPow, at0, at1, at2, at3, at4, at5, ix0, ix1, okW, isOwn, wipeR, restR, wp_chain, wp_zip, wp_enum, wp_str, wp_slO, wp_rdON, wp_put, wp_swap, wp_str0, wp_mownS, wp_keys, wp_mdcomp, endQ_nx, endQ_rt, endO_ro, q_isiI, q_isiB, q_isiS, q_isiT, q_isiL, q_isiTL, q_all, q_any, q_ltS, q_addS, q_inS, q_ninS, q_lenS, q_lenD, q_zipT, q_zipL, q_catT, q_catL, q_slT, q_slS, q_tupleL, q_tupleT, q_tupO, q_lstO, q_listNL, q_listNT, q_insert, q_upper, q_nu2I, q_nu2B, q_nu1I, q_nu1B, q_strI, q_strB, q_strS, q_ixA_T, q_ixA_L, q_ixA_S, q_ixS, q_eqII, q_neII, q_eqSS, q_neSS, q_eqBB, q_neBB, q_dgetS, q_dgetI, q_dinS, q_dinI, at6, at7, gT, gsCons, gsNil, gN, keyOfD, someQ_some, someQ_if, someQ_map, q_allM, q_anyM, i_BN, i_BB, i_BI, i_BS, i_BL, i_BT, i_BD, i_IN, i_IB, i_II, i_IS, i_IL, i_IT, i_ID, i_SN, i_SB, i_SI, i_SS, i_SL, i_ST, i_SD, i_TN, i_TB, i_TI, i_TS, i_TL, i_TT, i_TD, i_LN, i_LB, i_LI, i_LS, i_LL, i_LT, i_LD, sizeLine_eq]
  exact h
theorem is_costs_step {ts : List St} {d : D} (hgt : good (.tuple (ts.map tD)) = true) (ht : treeB (.tuple (ts.map tD)) = true) (hg : goodS 60 d) {Q : D → List (Sl Empty) → Prop} (h : Q (.bool (costsB ts d)) [.val (.tuple (ts.map tD)), .val d]) :
    callQ g_is_costs [.val (.tuple (ts.map tD)), .val d] Q := by
  refine call_close ?_
  simp [m_is_costs, wp_seq, wp_set, wp_sret, wp_sretO, wp_expr, wp_for, wp_sif, wp_mif, wp_mand, wp_mor, wp_mnot, wp_mtest, wp_bnd, wp_ret, wp_some, wp_mcons, wp_nx, wp_bk, wp_ct, wp_asg, wp_mlc, wp_molc, wp_mcomp, wp_callV, wp_callO, wp_macons, wpr_maown, anQ_own, wpr_aug, auQ_val, wpr, rdQ_val, rdQ_own, wpr_rdO, wpr_wrOp, wpr_mopO, wpr_mmut, wpr_setI, owQ_own, wp_setO, wp_tup, wp_lst, wp_olst, wp_list, wp_tuple, wp_range1, wp_range2, wp_part, wp_slice, wp_tru, wp_andV, wp_orV, wp_notV, seqQ_nx, seqQ_rt, seqQ_ro, seqQ_bk, seqQ_ct, gath, scat, scat1, pos, ownAt, clQ_nx, clQ_rt, clQ_ro, lpQ_nx, lpQ_ct, lpQ_bk, lpQ_rt, lpQ_ro, mrg1, q_I0, q_I, q_ixL, q_ixT, q_ixO, q_lenL, q_lenT, q_lenO, q_sum, q_listL, q_listT, q_abs, q_max2, q_min2, q_slL, q_neg, q_append, q_setI, q_cMul, q_cDiv, q_cPos, q_cPow, at0, at1, at2, at3, at4, at5, ix0, ix1, okW, isOwn, wipeR, restR, wp_chain, wp_zip, wp_enum, wp_str, wp_slO, wp_rdON, wp_put, wp_swap, wp_str0, wp_mownS, wp_keys, wp_mdcomp, endQ_nx, endQ_rt, endO_ro, q_isiI, q_isiB, q_isiS, q_isiT, q_isiL, q_isiTL, q_all, q_any, q_ltS, q_addS, q_inS, q_ninS, q_lenS, q_lenD, q_zipT, q_zipL, q_catT, q_catL, q_slT, q_slS, q_tupleL, q_tupleT, q_tupO, q_lstO, q_listNL, q_listNT, q_insert, q_upper, q_nu2I, q_nu2B, q_nu1I, q_nu1B, q_strI, q_strB, q_strS, q_ixA_T, q_ixA_L, q_ixA_S, q_ixS, q_eqII, q_neII, q_eqSS, q_neSS, q_eqBB, q_neBB, q_dgetS, q_dgetI, q_dinS, q_dinI, at6, at7, gT, gsCons, gsNil, gN, keyOfD, someQ_some, someQ_if, someQ_map, q_allM, q_anyM, i_BN, i_BB, i_BI, i_BS, i_BL, i_BT, i_BD, i_IN, i_IB, i_II, i_IS, i_IL, i_IT, i_ID, i_SN, i_SB, i_SI, i_SS, i_SL, i_ST, i_SD, i_TN, i_TB, i_TI, i_TS, i_TL, i_TT, i_TD, i_LN, i_LB, i_LI, i_LS, i_LL, i_LT, i_LD, sizeLine_eq, -List.map_map]
  refine need_tree_step hgt ht ?_
  obtain ⟨h1, h2⟩ := good_tup hgt
  have h8 : ts.length ≤ 8 := by
    simp only [treeB, Bool.and_eq_true, List.length_map] at ht
    exact of_decide_eq_true ht.2.1
  refine are_costs_step (fun t ht => (good_tD (h2 _ (List.mem_map_of_mem ht))).1) (by omega) hg ?_
  exact h
end RG
set_option Elab.async false
set_option linter.all false
set_option maxRecDepth 100000
set_option maxHeartbeats 8000000
/-! RGf: odd things, spoilt things -/
namespace RG
open PySem PySem.Spec PyProof.Rows L2 DL
mutual
def okB (k : Nat) : D → Bool
  | .none => true
  | .bool _ => true
  | .int i => decide (i.natAbs ≤ 10 ^ 30 + 2000 * k)
  | .str s => decide (s.length ≤ 64 * 3 ^ k) && s.cps.toList.all fun c => decide (c < 128)
  | .list ds => decide (ds.length ≤ 100 + k) && okBs k ds
  | .tuple ds => decide (ds.length ≤ 100 + k) && okBs k ds
  | .dict _ => false
def okBs (k : Nat) : List D → Bool
  | [] => true
  | d :: ds => okB k d && okBs k ds
end
theorem okBs_iff {k : Nat} : ∀ {ds : List D}, okBs k ds = true ↔ ∀ d ∈ ds, okB k d = true
  | [] => by simp [okBs]
  | d :: ds => by rw [okBs, Bool.and_eq_true, okBs_iff]; simp
theorem okB_tup {k : Nat} {ds : List D} : okB k (.tuple ds) = true ↔ ds.length ≤ 100 + k ∧ ∀ d ∈ ds, okB k d = true := by
  rw [okB, Bool.and_eq_true, okBs_iff, decide_eq_true_eq]
theorem okB_lst {k : Nat} {ds : List D} : okB k (.list ds) = true ↔ ds.length ≤ 100 + k ∧ ∀ d ∈ ds, okB k d = true := by
  rw [okB, Bool.and_eq_true, okBs_iff, decide_eq_true_eq]
theorem okB_str {k : Nat} {s : PySem.Str} : okB k (.str s) = true ↔ s.length ≤ 64 * 3 ^ k ∧ ∀ c ∈ s.cps.toList, c < 128 := by
  rw [okB, Bool.and_eq_true, List.all_eq_true, decide_eq_true_eq]
  simp
theorem okB_int {k : Nat} {i : Int} : okB k (.int i) = true ↔ i.natAbs ≤ 10 ^ 30 + 2000 * k := by
  rw [okB, decide_eq_true_eq]
mutual
theorem okB_mono (k j : Nat) (hj : k ≤ j) : ∀ d : D, okB k d = true → okB j d = true
  | .none, _ => by rw [okB]
  | .bool _, _ => by rw [okB]
  | .int i, h => by rw [okB_int] at h ⊢; omega
  | .str s, h => by
    rw [okB_str] at h ⊢
    have : 3 ^ k ≤ 3 ^ j := Nat.pow_le_pow_right (by decide) hj
    exact ⟨by omega, h.2⟩
  | .list ds, h => by rw [okB, Bool.and_eq_true, decide_eq_true_eq] at h ⊢; exact ⟨by omega, okBs_mono k j hj ds h.2⟩
  | .tuple ds, h => by rw [okB, Bool.and_eq_true, decide_eq_true_eq] at h ⊢; exact ⟨by omega, okBs_mono k j hj ds h.2⟩
  | .dict _, h => by rw [okB] at h; cases h
theorem okBs_mono (k j : Nat) (hj : k ≤ j) : ∀ ds : List D, okBs k ds = true → okBs j ds = true
  | [], _ => by rw [okBs]
  | d :: ds, h => by
    rw [okBs, Bool.and_eq_true] at h ⊢
    exact ⟨okB_mono k j hj d h.1, okBs_mono k j hj ds h.2⟩
end
mutual
theorem okB_good (k : Nat) (hk : k ≤ 8) : ∀ d : D, okB k d = true → good d = true
  | .none, _ => by rw [good]
  | .bool _, _ => by rw [good]
  | .int i, h => by rw [good]
  | .str s, h => by
    rw [okB, Bool.and_eq_true, decide_eq_true_eq] at h
    rw [good, Bool.and_eq_true, decide_eq_true_eq]
    have : 3 ^ k ≤ 3 ^ 8 := Nat.pow_le_pow_right (by decide) hk
    have e : 3 ^ 8 = 6561 := rfl
    exact ⟨by omega, h.2⟩
  | .list ds, h => by rw [okB, Bool.and_eq_true, decide_eq_true_eq] at h; rw [good, Bool.and_eq_true, decide_eq_true_eq]; exact ⟨by omega, okBs_good k hk ds h.2⟩
  | .tuple ds, h => by rw [okB, Bool.and_eq_true, decide_eq_true_eq] at h; rw [good, Bool.and_eq_true, decide_eq_true_eq]; exact ⟨by omega, okBs_good k hk ds h.2⟩
  | .dict _, h => by rw [okB] at h; cases h
theorem okBs_good (k : Nat) (hk : k ≤ 8) : ∀ ds : List D, okBs k ds = true → goodAll ds = true
  | [], _ => by rw [goodAll]
  | d :: ds, h => by
    rw [okBs, Bool.and_eq_true] at h
    rw [goodAll, Bool.and_eq_true]
    exact ⟨okB_good k hk d h.1, okBs_good k hk ds h.2⟩
end
theorem cut_to (ds : List D) (k : Nat) (h : k ≤ ds.length) : DL.cutD ds none (some (k : Int)) = ds.take k := by
  unfold DL.cutD
  rw [HT.sIx_nat]
  show (ds.drop 0).take (min k ds.length - 0) = ds.take k
  rw [List.drop_zero, Nat.sub_zero, Nat.min_eq_left h]
theorem cut_from (ds : List D) (k : Nat) (h : k ≤ ds.length) : DL.cutD ds (some (k : Int)) none = ds.drop k := by
  unfold DL.cutD
  rw [HT.sIx_nat]
  show (ds.drop (min k ds.length)).take (ds.length - min k ds.length) = ds.drop k
  rw [Nat.min_eq_left h]
  exact List.take_of_length_le (by rw [List.length_drop]; exact Nat.le_refl _)
/-- an open place of a list -/
theorem wp_atL {L : List D} {v : Int} {ρ : List (Sl Empty)} {Q : D → List (Sl Empty) → Prop} (h0 : 0 ≤ v) (h1 : v < L.length) (q : ∀ x ∈ L, Q x ρ) : WPm (mlft (gIxL (.list L) (.int v))) ρ Q := by
  obtain ⟨x, hx, e⟩ := at_open h0 h1
  rw [q_ixL, e, wp_some]
  exact q x hx
theorem odd_step {a b : Int} {Q : D → List (Sl Empty) → Prop} (h : ∀ v a' b', okB 0 v = true → v.depth ≤ 3 → Q v [bagS a' b']) : callQ g__law_odd [bagS a b] Q := by
  refine call_close ?_
  simp [m__law_odd, wp_seq, wp_set, wp_sret, wp_sretO, wp_expr, wp_for, wp_sif, wp_mif, wp_mand, wp_mor, wp_mnot, wp_mtest, wp_bnd, wp_ret, wp_some, wp_mcons, wp_nx, wp_bk, wp_ct, wp_asg, wp_mlc, wp_molc, wp_mcomp, wp_callV, wp_callO, wp_macons, wpr_maown, anQ_own, wpr_aug, auQ_val, wpr, rdQ_val, rdQ_own, wpr_rdO, wpr_wrOp, wpr_mopO, wpr_mmut, wpr_setI, owQ_own, wp_setO, wp_tup, wp_lst, wp_olst, wp_list, wp_tuple, wp_range1, wp_range2, wp_part, wp_slice, wp_tru, wp_andV, wp_orV, wp_notV, seqQ_nx, seqQ_rt, seqQ_ro, seqQ_bk, seqQ_ct, gath, scat, scat1, pos, ownAt, clQ_nx, clQ_rt, clQ_ro, lpQ_nx, lpQ_ct, lpQ_bk, lpQ_rt, lpQ_ro, mrg1, q_I0, q_I, q_ixL, q_ixT, q_ixO, q_lenL, q_lenT, q_lenO, q_sum, q_listL, q_listT, q_abs, q_max2, q_min2, q_slL, q_neg, q_append, q_setI, q_cMul, q_cDiv, q_cPos, q_cPow, at0, at1, at2, at3, at4, at5, ix0, ix1, okW, isOwn, wipeR, restR, wp_chain, wp_zip, wp_enum, wp_str, wp_slO, wp_rdON, wp_put, wp_swap, wp_str0, wp_mownS, wp_keys, wp_mdcomp, endQ_nx, endQ_rt, endO_ro, q_isiI, q_isiB, q_isiS, q_isiT, q_isiL, q_isiTL, q_all, q_any, q_ltS, q_addS, q_inS, q_ninS, q_lenS, q_lenD, q_zipT, q_zipL, q_catT, q_catL, q_slT, q_slS, q_tupleL, q_tupleT, q_tupO, q_lstO, q_listNL, q_listNT, q_insert, q_upper, q_nu2I, q_nu2B, q_nu1I, q_nu1B, q_strI, q_strB, q_strS, q_ixA_T, q_ixA_L, q_ixA_S, q_ixS, q_eqII, q_neII, q_eqSS, q_neSS, q_eqBB, q_neBB, q_dgetS, q_dgetI, q_dinS, q_dinI, at6, at7, gT, gsCons, gsNil, gN, keyOfD, someQ_some, someQ_if, someQ_map, q_allM, q_anyM, i_BN, i_BB, i_BI, i_BS, i_BL, i_BT, i_BD, i_IN, i_IB, i_II, i_IS, i_IL, i_IT, i_ID, i_SN, i_SB, i_SI, i_SS, i_SL, i_ST, i_SD, i_TN, i_TB, i_TI, i_TS, i_TL, i_TT, i_TD, i_LN, i_LB, i_LI, i_LS, i_LL, i_LT, i_LD, sizeLine_eq]
  refine take_step (by decide) fun v a' b' h0 h1 => ?_
  refine wp_atL h0 (by simpa using h1) fun x hx => ?_
  simp only [List.mem_cons, List.not_mem_nil, or_false] at hx
  rcases hx with rfl | rfl | rfl | rfl | rfl | rfl | rfl | rfl | rfl | rfl | rfl | rfl | rfl | rfl | rfl | rfl | rfl | rfl | rfl | rfl | rfl | rfl | rfl | rfl | rfl <;> exact h _ _ _ (by decide +kernel) (by decide +kernel)
theorem mem_set {ds : List D} {j : Nat} {y x : D} (h : x ∈ ds.set j y) : x ∈ ds ∨ x = y := by
  rcases List.mem_or_eq_of_mem_set h with h | h
  · exact .inl h
  · exact .inr h
theorem at_mem {ds : List D} {v : Int} (h0 : 0 ≤ v) (h1 : v < ds.length) : ∃ (j : Nat) (x : D), v = (j : Int) ∧ j < ds.length ∧ ds[j]? = some x ∧ x ∈ ds ∧ atI ds v = some x ∧ ixN ds.length v = some j := by
  obtain ⟨j, rfl⟩ : ∃ j : Nat, v = (j : Int) := ⟨v.toNat, by omega⟩
  have hj : j < ds.length := by omega
  refine ⟨j, ds[j], rfl, hj, List.getElem?_eq_getElem hj, List.getElem_mem hj, at_lt (List.getElem?_eq_getElem hj), ?_⟩
  unfold ixN
  rw [if_pos (by omega), if_pos (by omega)]
  simp
/-! texts of small signs -/
abbrev asc (s : PySem.Str) : Prop := ∀ c ∈ s.cps.toList, c < 128
theorem app_list (a b : PySem.Str) : (a ++ b).cps.toList = a.cps.toList ++ b.cps.toList := by
  show (a.cps ++ b.cps).toList = _
  rw [Array.toList_append]
theorem app_len (a b : PySem.Str) : (a ++ b).length = a.length + b.length := by
  have : ∀ s : PySem.Str, s.length = s.cps.toList.length := fun s => by simp [PySem.Str.length]
  rw [this, this, this, app_list, List.length_append]
theorem asc_app {a b : PySem.Str} (ha : asc a) (hb : asc b) : asc (a ++ b) := fun c hc => by
  rw [app_list] at hc
  rcases List.mem_append.mp hc with h | h
  · exact ha c h
  · exact hb c h
theorem asc_cut {a : PySem.Str} (ha : asc a) (lo hi : Option Int) : asc (cutS a lo hi) := fun c hc => by
  unfold cutS at hc
  have hc : c ∈ (a.cps.toList.drop (HT.sIx a.length 0 lo)).take (HT.sIx a.length a.length hi - HT.sIx a.length 0 lo) := by simpa using hc
  exact ha c (List.mem_of_mem_drop (List.mem_of_mem_take hc))
theorem up_ascii {a : PySem.Str} (ha : asc a) : asc (Txt.upper a) ∧ (Txt.upper a).length = a.length := by
  rw [PyProof.Rows.upper_ascii (x := a) ha]
  refine ⟨fun c hc => ?_, by simp [PySem.Str.length]⟩
  have hc : c ∈ (a.cps.map PyProof.Rows.up1).toList := hc
  rw [Array.toList_map] at hc
  obtain ⟨d, hd, rfl⟩ := List.mem_map.mp hc
  have := ha d hd
  unfold PyProof.Rows.up1
  split <;> omega
theorem asc_int (i : Int) : asc (PySem.Str.ofString (toString i)) := fun c hc => by
  rw [PySem.Str.ofString_eq_toList] at hc
  have hc : c ∈ (toString i).toList.map Char.toNat := by simpa using hc
  obtain ⟨d, hd, rfl⟩ := List.mem_map.mp hc
  exact int_ascii i d hd
theorem int_len {i : Int} (h : i.natAbs < 10 ^ 31) : (PySem.Str.ofString (toString i)).length ≤ 32 := by
  rw [PySem.ofString_length]
  exact int_text_length_le10 (by decide) h
theorem log_ok {n : Nat} (h : n < 10 ^ 31) : n.log2 < 1920 := by
  by_cases h0 : n = 0
  · subst h0; decide
  · rw [Nat.log2_lt h0]
    exact Nat.lt_trans h (by decide +kernel)
theorem spoilt_step : ∀ (n k : Nat) (d : D) (a b : Int), okB k d = true → k ≤ 6 → d.depth < n → ∀ {Q : D → List (Sl Empty) → Prop}, (∀ d' a' b', okB (k + 1) d' = true → d'.depth ≤ d.depth + 3 → Q d' [bagS a' b', .val d]) → callQ (g__law_spoilt n) [bagS a b, .val d] Q := by
  intro n
  induction n with
  | zero => intro k d a b _ _ hn; omega
  | succ n ih =>
    intro k d a b hok hk hn Q h
    refine call_close ?_
    have hodd : ∀ {σ : List (Sl Empty)} {a1 b1 : Int}, WPm (sret (mcallV (maown 0 (mret [])) g__law_odd)) ([bagS a1 b1, .val d] ++ σ) (endQ [bagS a b, .val d] Q) := by
      intro σ a1 b1
      simp [wp_seq, wp_set, wp_sret, wp_sretO, wp_expr, wp_for, wp_sif, wp_mif, wp_mand, wp_mor, wp_mnot, wp_mtest, wp_bnd, wp_ret, wp_some, wp_mcons, wp_nx, wp_bk, wp_ct, wp_asg, wp_mlc, wp_molc, wp_mcomp, wp_callV, wp_callO, wp_macons, wpr_maown, anQ_own, wpr_aug, auQ_val, wpr, rdQ_val, rdQ_own, wpr_rdO, wpr_wrOp, wpr_mopO, wpr_mmut, wpr_setI, owQ_own, wp_setO, wp_tup, wp_lst, wp_olst, wp_list, wp_tuple, wp_range1, wp_range2, wp_part, wp_slice, wp_tru, wp_andV, wp_orV, wp_notV, seqQ_nx, seqQ_rt, seqQ_ro, seqQ_bk, seqQ_ct, gath, scat, scat1, pos, ownAt, clQ_nx, clQ_rt, clQ_ro, lpQ_nx, lpQ_ct, lpQ_bk, lpQ_rt, lpQ_ro, mrg1, q_I0, q_I, q_ixL, q_ixT, q_ixO, q_lenL, q_lenT, q_lenO, q_sum, q_listL, q_listT, q_abs, q_max2, q_min2, q_slL, q_neg, q_append, q_setI, q_cMul, q_cDiv, q_cPos, q_cPow, at0, at1, at2, at3, at4, at5, ix0, ix1, okW, isOwn, wipeR, restR, wp_chain, wp_zip, wp_enum, wp_str, wp_slO, wp_rdON, wp_put, wp_swap, wp_str0, wp_mownS, wp_keys, wp_mdcomp, endQ_nx, endQ_rt, endO_ro, q_isiI, q_isiB, q_isiS, q_isiT, q_isiL, q_isiTL, q_all, q_any, q_ltS, q_addS, q_inS, q_ninS, q_lenS, q_lenD, q_zipT, q_zipL, q_catT, q_catL, q_slT, q_slS, q_tupleL, q_tupleT, q_tupO, q_lstO, q_listNL, q_listNT, q_insert, q_upper, q_nu2I, q_nu2B, q_nu1I, q_nu1B, q_strI, q_strB, q_strS, q_ixA_T, q_ixA_L, q_ixA_S, q_ixS, q_eqII, q_neII, q_eqSS, q_neSS, q_eqBB, q_neBB, q_dgetS, q_dgetI, q_dinS, q_dinI, at6, at7, gT, gsCons, gsNil, gN, keyOfD, someQ_some, someQ_if, someQ_map, q_allM, q_anyM, i_BN, i_BB, i_BI, i_BS, i_BL, i_BT, i_BD, i_IN, i_IB, i_II, i_IS, i_IL, i_IT, i_ID, i_SN, i_SB, i_SI, i_SS, i_SL, i_ST, i_SD, i_TN, i_TB, i_TI, i_TS, i_TL, i_TT, i_TD, i_LN, i_LB, i_LI, i_LS, i_LL, i_LT, i_LD, sizeLine_eq]
      refine odd_step fun v a' b' h1 h2 => ?_
      simp [wp_seq, wp_set, wp_sret, wp_sretO, wp_expr, wp_for, wp_sif, wp_mif, wp_mand, wp_mor, wp_mnot, wp_mtest, wp_bnd, wp_ret, wp_some, wp_mcons, wp_nx, wp_bk, wp_ct, wp_asg, wp_mlc, wp_molc, wp_mcomp, wp_callV, wp_callO, wp_macons, wpr_maown, anQ_own, wpr_aug, auQ_val, wpr, rdQ_val, rdQ_own, wpr_rdO, wpr_wrOp, wpr_mopO, wpr_mmut, wpr_setI, owQ_own, wp_setO, wp_tup, wp_lst, wp_olst, wp_list, wp_tuple, wp_range1, wp_range2, wp_part, wp_slice, wp_tru, wp_andV, wp_orV, wp_notV, seqQ_nx, seqQ_rt, seqQ_ro, seqQ_bk, seqQ_ct, gath, scat, scat1, pos, ownAt, clQ_nx, clQ_rt, clQ_ro, lpQ_nx, lpQ_ct, lpQ_bk, lpQ_rt, lpQ_ro, mrg1, q_I0, q_I, q_ixL, q_ixT, q_ixO, q_lenL, q_lenT, q_lenO, q_sum, q_listL, q_listT, q_abs, q_max2, q_min2, q_slL, q_neg, q_append, q_setI, q_cMul, q_cDiv, q_cPos, q_cPow, at0, at1, at2, at3, at4, at5, ix0, ix1, okW, isOwn, wipeR, restR, wp_chain, wp_zip, wp_enum, wp_str, wp_slO, wp_rdON, wp_put, wp_swap, wp_str0, wp_mownS, wp_keys, wp_mdcomp, endQ_nx, endQ_rt, endO_ro, q_isiI, q_isiB, q_isiS, q_isiT, q_isiL, q_isiTL, q_all, q_any, q_ltS, q_addS, q_inS, q_ninS, q_lenS, q_lenD, q_zipT, q_zipL, q_catT, q_catL, q_slT, q_slS, q_tupleL, q_tupleT, q_tupO, q_lstO, q_listNL, q_listNT, q_insert, q_upper, q_nu2I, q_nu2B, q_nu1I, q_nu1B, q_strI, q_strB, q_strS, q_ixA_T, q_ixA_L, q_ixA_S, q_ixS, q_eqII, q_neII, q_eqSS, q_neSS, q_eqBB, q_neBB, q_dgetS, q_dgetI, q_dinS, q_dinI, at6, at7, gT, gsCons, gsNil, gN, keyOfD, someQ_some, someQ_if, someQ_map, q_allM, q_anyM, i_BN, i_BB, i_BI, i_BS, i_BL, i_BT, i_BD, i_IN, i_IB, i_II, i_IS, i_IL, i_IT, i_ID, i_SN, i_SB, i_SI, i_SS, i_SL, i_ST, i_SD, i_TN, i_TB, i_TI, i_TS, i_TL, i_TT, i_TD, i_LN, i_LB, i_LI, i_LS, i_LL, i_LT, i_LD, sizeLine_eq]
      exact h _ _ _ (okB_mono 0 (k + 1) (Nat.zero_le _) _ h1) (by omega)
    unfold m__law_spoilt
    rw [wp_seq]
    simp [wp_set, wp_sret, wp_sretO, wp_expr, wp_for, wp_sif, wp_mif, wp_mand, wp_mor, wp_mnot, wp_mtest, wp_bnd, wp_ret, wp_some, wp_mcons, wp_nx, wp_bk, wp_ct, wp_asg, wp_mlc, wp_molc, wp_mcomp, wp_callV, wp_callO, wp_macons, wpr_maown, anQ_own, wpr_aug, auQ_val, wpr, rdQ_val, rdQ_own, wpr_rdO, wpr_wrOp, wpr_mopO, wpr_mmut, wpr_setI, owQ_own, wp_setO, wp_tup, wp_lst, wp_olst, wp_list, wp_tuple, wp_range1, wp_range2, wp_part, wp_slice, wp_tru, wp_andV, wp_orV, wp_notV, seqQ_rt, seqQ_ro, seqQ_bk, seqQ_ct, gath, scat, scat1, pos, ownAt, clQ_nx, clQ_rt, clQ_ro, lpQ_nx, lpQ_ct, lpQ_bk, lpQ_rt, lpQ_ro, mrg1, q_I0, q_I, q_ixL, q_ixT, q_ixO, q_lenL, q_lenT, q_lenO, q_sum, q_listL, q_listT, q_abs, q_max2, q_min2, q_slL, q_neg, q_append, q_setI, q_cMul, q_cDiv, q_cPos, q_cPow, at0, at1, at2, at3, at4, at5, ix0, ix1, okW, isOwn, wipeR, restR, wp_chain, wp_zip, wp_enum, wp_str, wp_slO, wp_rdON, wp_put, wp_swap, wp_str0, wp_mownS, wp_keys, wp_mdcomp, endQ_nx, endQ_rt, endO_ro, q_isiI, q_isiB, q_isiS, q_isiT, q_isiL, q_isiTL, q_all, q_any, q_ltS, q_addS, q_inS, q_ninS, q_lenS, q_lenD, q_zipT, q_zipL, q_catT, q_catL, q_slT, q_slS, q_tupleL, q_tupleT, q_tupO, q_lstO, q_listNL, q_listNT, q_insert, q_upper, q_nu2I, q_nu2B, q_nu1I, q_nu1B, q_strI, q_strB, q_strS, q_ixA_T, q_ixA_L, q_ixA_S, q_ixS, q_eqII, q_neII, q_eqSS, q_neSS, q_eqBB, q_neBB, q_dgetS, q_dgetI, q_dinS, q_dinI, at6, at7, gT, gsCons, gsNil, gN, keyOfD, someQ_some, someQ_if, someQ_map, q_allM, q_anyM, i_BN, i_BB, i_BI, i_BS, i_BL, i_BT, i_BD, i_IN, i_IB, i_II, i_IS, i_IL, i_IT, i_ID, i_SN, i_SB, i_SI, i_SS, i_SL, i_ST, i_SD, i_TN, i_TB, i_TI, i_TS, i_TL, i_TT, i_TD, i_LN, i_LB, i_LI, i_LS, i_LL, i_LT, i_LD, sizeLine_eq]
    refine take_step (by decide) fun v a b h0 h1 => ?_
    simp [wp_set, wp_sret, wp_sretO, wp_expr, wp_for, wp_sif, wp_mif, wp_mand, wp_mor, wp_mnot, wp_mtest, wp_bnd, wp_ret, wp_some, wp_mcons, wp_nx, wp_bk, wp_ct, wp_asg, wp_mlc, wp_molc, wp_mcomp, wp_callV, wp_callO, wp_macons, wpr_maown, anQ_own, wpr_aug, auQ_val, wpr, rdQ_val, rdQ_own, wpr_rdO, wpr_wrOp, wpr_mopO, wpr_mmut, wpr_setI, owQ_own, wp_setO, wp_tup, wp_lst, wp_olst, wp_list, wp_tuple, wp_range1, wp_range2, wp_part, wp_slice, wp_tru, wp_andV, wp_orV, wp_notV, seqQ_rt, seqQ_ro, seqQ_bk, seqQ_ct, gath, scat, scat1, pos, ownAt, clQ_nx, clQ_rt, clQ_ro, lpQ_nx, lpQ_ct, lpQ_bk, lpQ_rt, lpQ_ro, mrg1, q_I0, q_I, q_ixL, q_ixT, q_ixO, q_lenL, q_lenT, q_lenO, q_sum, q_listL, q_listT, q_abs, q_max2, q_min2, q_slL, q_neg, q_append, q_setI, q_cMul, q_cDiv, q_cPos, q_cPow, at0, at1, at2, at3, at4, at5, ix0, ix1, okW, isOwn, wipeR, restR, wp_chain, wp_zip, wp_enum, wp_str, wp_slO, wp_rdON, wp_put, wp_swap, wp_str0, wp_mownS, wp_keys, wp_mdcomp, endQ_nx, endQ_rt, endO_ro, q_isiI, q_isiB, q_isiS, q_isiT, q_isiL, q_isiTL, q_all, q_any, q_ltS, q_addS, q_inS, q_ninS, q_lenS, q_lenD, q_zipT, q_zipL, q_catT, q_catL, q_slT, q_slS, q_tupleL, q_tupleT, q_tupO, q_lstO, q_listNL, q_listNT, q_insert, q_upper, q_nu2I, q_nu2B, q_nu1I, q_nu1B, q_strI, q_strB, q_strS, q_ixA_T, q_ixA_L, q_ixA_S, q_ixS, q_eqII, q_neII, q_eqSS, q_neSS, q_eqBB, q_neBB, q_dgetS, q_dgetI, q_dinS, q_dinI, at6, at7, gT, gsCons, gsNil, gN, keyOfD, someQ_some, someQ_if, someQ_map, q_allM, q_anyM, i_BN, i_BB, i_BI, i_BS, i_BL, i_BT, i_BD, i_IN, i_IB, i_II, i_IS, i_IL, i_IT, i_ID, i_SN, i_SB, i_SI, i_SS, i_SL, i_ST, i_SD, i_TN, i_TB, i_TI, i_TS, i_TL, i_TT, i_TD, i_LN, i_LB, i_LI, i_LS, i_LL, i_LT, i_LD, sizeLine_eq]
    rw [seqQ_nx, wp_seq]
    cases d with
    | none =>
      simp [wp_set, wp_sret, wp_sretO, wp_expr, wp_for, wp_sif, wp_mif, wp_mand, wp_mor, wp_mnot, wp_mtest, wp_bnd, wp_ret, wp_some, wp_mcons, wp_nx, wp_bk, wp_ct, wp_asg, wp_mlc, wp_molc, wp_mcomp, wp_callV, wp_callO, wp_macons, wpr_maown, anQ_own, wpr_aug, auQ_val, wpr, rdQ_val, rdQ_own, wpr_rdO, wpr_wrOp, wpr_mopO, wpr_mmut, wpr_setI, owQ_own, wp_setO, wp_tup, wp_lst, wp_olst, wp_list, wp_tuple, wp_range1, wp_range2, wp_part, wp_slice, wp_tru, wp_andV, wp_orV, wp_notV, seqQ_rt, seqQ_ro, seqQ_bk, seqQ_ct, gath, scat, scat1, pos, ownAt, clQ_nx, clQ_rt, clQ_ro, lpQ_nx, lpQ_ct, lpQ_bk, lpQ_rt, lpQ_ro, mrg1, q_I0, q_I, q_ixL, q_ixT, q_ixO, q_lenL, q_lenT, q_lenO, q_sum, q_listL, q_listT, q_abs, q_max2, q_min2, q_slL, q_neg, q_append, q_setI, q_cMul, q_cDiv, q_cPos, q_cPow, at0, at1, at2, at3, at4, at5, ix0, ix1, okW, isOwn, wipeR, restR, wp_chain, wp_zip, wp_enum, wp_str, wp_slO, wp_rdON, wp_put, wp_swap, wp_str0, wp_mownS, wp_keys, wp_mdcomp, endQ_nx, endQ_rt, endO_ro, q_isiI, q_isiB, q_isiS, q_isiT, q_isiL, q_isiTL, q_all, q_any, q_ltS, q_addS, q_inS, q_ninS, q_lenS, q_lenD, q_zipT, q_zipL, q_catT, q_catL, q_slT, q_slS, q_tupleL, q_tupleT, q_tupO, q_lstO, q_listNL, q_listNT, q_insert, q_upper, q_nu2I, q_nu2B, q_nu1I, q_nu1B, q_strI, q_strB, q_strS, q_ixA_T, q_ixA_L, q_ixA_S, q_ixS, q_eqII, q_neII, q_eqSS, q_neSS, q_eqBB, q_neBB, q_dgetS, q_dgetI, q_dinS, q_dinI, at6, at7, gT, gsCons, gsNil, gN, keyOfD, someQ_some, someQ_if, someQ_map, q_allM, q_anyM, i_BN, i_BB, i_BI, i_BS, i_BL, i_BT, i_BD, i_IN, i_IB, i_II, i_IS, i_IL, i_IT, i_ID, i_SN, i_SB, i_SI, i_SS, i_SL, i_ST, i_SD, i_TN, i_TB, i_TI, i_TS, i_TL, i_TT, i_TD, i_LN, i_LB, i_LI, i_LS, i_LL, i_LT, i_LD, sizeLine_eq]
      rw [seqQ_nx, wp_seq]
      simp [wp_set, wp_sret, wp_sretO, wp_expr, wp_for, wp_sif, wp_mif, wp_mand, wp_mor, wp_mnot, wp_mtest, wp_bnd, wp_ret, wp_some, wp_mcons, wp_nx, wp_bk, wp_ct, wp_asg, wp_mlc, wp_molc, wp_mcomp, wp_callV, wp_callO, wp_macons, wpr_maown, anQ_own, wpr_aug, auQ_val, wpr, rdQ_val, rdQ_own, wpr_rdO, wpr_wrOp, wpr_mopO, wpr_mmut, wpr_setI, owQ_own, wp_setO, wp_tup, wp_lst, wp_olst, wp_list, wp_tuple, wp_range1, wp_range2, wp_part, wp_slice, wp_tru, wp_andV, wp_orV, wp_notV, seqQ_rt, seqQ_ro, seqQ_bk, seqQ_ct, gath, scat, scat1, pos, ownAt, clQ_nx, clQ_rt, clQ_ro, lpQ_nx, lpQ_ct, lpQ_bk, lpQ_rt, lpQ_ro, mrg1, q_I0, q_I, q_ixL, q_ixT, q_ixO, q_lenL, q_lenT, q_lenO, q_sum, q_listL, q_listT, q_abs, q_max2, q_min2, q_slL, q_neg, q_append, q_setI, q_cMul, q_cDiv, q_cPos, q_cPow, at0, at1, at2, at3, at4, at5, ix0, ix1, okW, isOwn, wipeR, restR, wp_chain, wp_zip, wp_enum, wp_str, wp_slO, wp_rdON, wp_put, wp_swap, wp_str0, wp_mownS, wp_keys, wp_mdcomp, endQ_nx, endQ_rt, endO_ro, q_isiI, q_isiB, q_isiS, q_isiT, q_isiL, q_isiTL, q_all, q_any, q_ltS, q_addS, q_inS, q_ninS, q_lenS, q_lenD, q_zipT, q_zipL, q_catT, q_catL, q_slT, q_slS, q_tupleL, q_tupleT, q_tupO, q_lstO, q_listNL, q_listNT, q_insert, q_upper, q_nu2I, q_nu2B, q_nu1I, q_nu1B, q_strI, q_strB, q_strS, q_ixA_T, q_ixA_L, q_ixA_S, q_ixS, q_eqII, q_neII, q_eqSS, q_neSS, q_eqBB, q_neBB, q_dgetS, q_dgetI, q_dinS, q_dinI, at6, at7, gT, gsCons, gsNil, gN, keyOfD, someQ_some, someQ_if, someQ_map, q_allM, q_anyM, i_BN, i_BB, i_BI, i_BS, i_BL, i_BT, i_BD, i_IN, i_IB, i_II, i_IS, i_IL, i_IT, i_ID, i_SN, i_SB, i_SI, i_SS, i_SL, i_ST, i_SD, i_TN, i_TB, i_TI, i_TS, i_TL, i_TT, i_TD, i_LN, i_LB, i_LI, i_LS, i_LL, i_LT, i_LD, sizeLine_eq]
      rw [seqQ_nx, wp_seq]
      simp [wp_set, wp_sret, wp_sretO, wp_expr, wp_for, wp_sif, wp_mif, wp_mand, wp_mor, wp_mnot, wp_mtest, wp_bnd, wp_ret, wp_some, wp_mcons, wp_nx, wp_bk, wp_ct, wp_asg, wp_mlc, wp_molc, wp_mcomp, wp_callV, wp_callO, wp_macons, wpr_maown, anQ_own, wpr_aug, auQ_val, wpr, rdQ_val, rdQ_own, wpr_rdO, wpr_wrOp, wpr_mopO, wpr_mmut, wpr_setI, owQ_own, wp_setO, wp_tup, wp_lst, wp_olst, wp_list, wp_tuple, wp_range1, wp_range2, wp_part, wp_slice, wp_tru, wp_andV, wp_orV, wp_notV, seqQ_rt, seqQ_ro, seqQ_bk, seqQ_ct, gath, scat, scat1, pos, ownAt, clQ_nx, clQ_rt, clQ_ro, lpQ_nx, lpQ_ct, lpQ_bk, lpQ_rt, lpQ_ro, mrg1, q_I0, q_I, q_ixL, q_ixT, q_ixO, q_lenL, q_lenT, q_lenO, q_sum, q_listL, q_listT, q_abs, q_max2, q_min2, q_slL, q_neg, q_append, q_setI, q_cMul, q_cDiv, q_cPos, q_cPow, at0, at1, at2, at3, at4, at5, ix0, ix1, okW, isOwn, wipeR, restR, wp_chain, wp_zip, wp_enum, wp_str, wp_slO, wp_rdON, wp_put, wp_swap, wp_str0, wp_mownS, wp_keys, wp_mdcomp, endQ_nx, endQ_rt, endO_ro, q_isiI, q_isiB, q_isiS, q_isiT, q_isiL, q_isiTL, q_all, q_any, q_ltS, q_addS, q_inS, q_ninS, q_lenS, q_lenD, q_zipT, q_zipL, q_catT, q_catL, q_slT, q_slS, q_tupleL, q_tupleT, q_tupO, q_lstO, q_listNL, q_listNT, q_insert, q_upper, q_nu2I, q_nu2B, q_nu1I, q_nu1B, q_strI, q_strB, q_strS, q_ixA_T, q_ixA_L, q_ixA_S, q_ixS, q_eqII, q_neII, q_eqSS, q_neSS, q_eqBB, q_neBB, q_dgetS, q_dgetI, q_dinS, q_dinI, at6, at7, gT, gsCons, gsNil, gN, keyOfD, someQ_some, someQ_if, someQ_map, q_allM, q_anyM, i_BN, i_BB, i_BI, i_BS, i_BL, i_BT, i_BD, i_IN, i_IB, i_II, i_IS, i_IL, i_IT, i_ID, i_SN, i_SB, i_SI, i_SS, i_SL, i_ST, i_SD, i_TN, i_TB, i_TI, i_TS, i_TL, i_TT, i_TD, i_LN, i_LB, i_LI, i_LS, i_LL, i_LT, i_LD, sizeLine_eq]
      exact hodd (σ := [_, _, _, _])
    | dict es => rw [okB] at hok; cases hok
    | bool c =>
      simp [wp_set, wp_sret, wp_sretO, wp_expr, wp_for, wp_sif, wp_mif, wp_mand, wp_mor, wp_mnot, wp_mtest, wp_bnd, wp_ret, wp_some, wp_mcons, wp_nx, wp_bk, wp_ct, wp_asg, wp_mlc, wp_molc, wp_mcomp, wp_callV, wp_callO, wp_macons, wpr_maown, anQ_own, wpr_aug, auQ_val, wpr, rdQ_val, rdQ_own, wpr_rdO, wpr_wrOp, wpr_mopO, wpr_mmut, wpr_setI, owQ_own, wp_setO, wp_tup, wp_lst, wp_olst, wp_list, wp_tuple, wp_range1, wp_range2, wp_part, wp_slice, wp_tru, wp_andV, wp_orV, wp_notV, seqQ_rt, seqQ_ro, seqQ_bk, seqQ_ct, gath, scat, scat1, pos, ownAt, clQ_nx, clQ_rt, clQ_ro, lpQ_nx, lpQ_ct, lpQ_bk, lpQ_rt, lpQ_ro, mrg1, q_I0, q_I, q_ixL, q_ixT, q_ixO, q_lenL, q_lenT, q_lenO, q_sum, q_listL, q_listT, q_abs, q_max2, q_min2, q_slL, q_neg, q_append, q_setI, q_cMul, q_cDiv, q_cPos, q_cPow, at0, at1, at2, at3, at4, at5, ix0, ix1, okW, isOwn, wipeR, restR, wp_chain, wp_zip, wp_enum, wp_str, wp_slO, wp_rdON, wp_put, wp_swap, wp_str0, wp_mownS, wp_keys, wp_mdcomp, endQ_nx, endQ_rt, endO_ro, q_isiI, q_isiB, q_isiS, q_isiT, q_isiL, q_isiTL, q_all, q_any, q_ltS, q_addS, q_inS, q_ninS, q_lenS, q_lenD, q_zipT, q_zipL, q_catT, q_catL, q_slT, q_slS, q_tupleL, q_tupleT, q_tupO, q_lstO, q_listNL, q_listNT, q_insert, q_upper, q_nu2I, q_nu2B, q_nu1I, q_nu1B, q_strI, q_strB, q_strS, q_ixA_T, q_ixA_L, q_ixA_S, q_ixS, q_eqII, q_neII, q_eqSS, q_neSS, q_eqBB, q_neBB, q_dgetS, q_dgetI, q_dinS, q_dinI, at6, at7, gT, gsCons, gsNil, gN, keyOfD, someQ_some, someQ_if, someQ_map, q_allM, q_anyM, i_BN, i_BB, i_BI, i_BS, i_BL, i_BT, i_BD, i_IN, i_IB, i_II, i_IS, i_IL, i_IT, i_ID, i_SN, i_SB, i_SI, i_SS, i_SL, i_ST, i_SD, i_TN, i_TB, i_TI, i_TS, i_TL, i_TT, i_TD, i_LN, i_LB, i_LI, i_LS, i_LL, i_LT, i_LD, sizeLine_eq]
      rw [seqQ_nx, wp_seq]
      simp [wp_set, wp_sret, wp_sretO, wp_expr, wp_for, wp_sif, wp_mif, wp_mand, wp_mor, wp_mnot, wp_mtest, wp_bnd, wp_ret, wp_some, wp_mcons, wp_nx, wp_bk, wp_ct, wp_asg, wp_mlc, wp_molc, wp_mcomp, wp_callV, wp_callO, wp_macons, wpr_maown, anQ_own, wpr_aug, auQ_val, wpr, rdQ_val, rdQ_own, wpr_rdO, wpr_wrOp, wpr_mopO, wpr_mmut, wpr_setI, owQ_own, wp_setO, wp_tup, wp_lst, wp_olst, wp_list, wp_tuple, wp_range1, wp_range2, wp_part, wp_slice, wp_tru, wp_andV, wp_orV, wp_notV, seqQ_rt, seqQ_ro, seqQ_bk, seqQ_ct, gath, scat, scat1, pos, ownAt, clQ_nx, clQ_rt, clQ_ro, lpQ_nx, lpQ_ct, lpQ_bk, lpQ_rt, lpQ_ro, mrg1, q_I0, q_I, q_ixL, q_ixT, q_ixO, q_lenL, q_lenT, q_lenO, q_sum, q_listL, q_listT, q_abs, q_max2, q_min2, q_slL, q_neg, q_append, q_setI, q_cMul, q_cDiv, q_cPos, q_cPow, at0, at1, at2, at3, at4, at5, ix0, ix1, okW, isOwn, wipeR, restR, wp_chain, wp_zip, wp_enum, wp_str, wp_slO, wp_rdON, wp_put, wp_swap, wp_str0, wp_mownS, wp_keys, wp_mdcomp, endQ_nx, endQ_rt, endO_ro, q_isiI, q_isiB, q_isiS, q_isiT, q_isiL, q_isiTL, q_all, q_any, q_ltS, q_addS, q_inS, q_ninS, q_lenS, q_lenD, q_zipT, q_zipL, q_catT, q_catL, q_slT, q_slS, q_tupleL, q_tupleT, q_tupO, q_lstO, q_listNL, q_listNT, q_insert, q_upper, q_nu2I, q_nu2B, q_nu1I, q_nu1B, q_strI, q_strB, q_strS, q_ixA_T, q_ixA_L, q_ixA_S, q_ixS, q_eqII, q_neII, q_eqSS, q_neSS, q_eqBB, q_neBB, q_dgetS, q_dgetI, q_dinS, q_dinI, at6, at7, gT, gsCons, gsNil, gN, keyOfD, someQ_some, someQ_if, someQ_map, q_allM, q_anyM, i_BN, i_BB, i_BI, i_BS, i_BL, i_BT, i_BD, i_IN, i_IB, i_II, i_IS, i_IL, i_IT, i_ID, i_SN, i_SB, i_SI, i_SS, i_SL, i_ST, i_SD, i_TN, i_TB, i_TI, i_TS, i_TL, i_TT, i_TD, i_LN, i_LB, i_LI, i_LS, i_LL, i_LT, i_LD, sizeLine_eq]
      rw [seqQ_nx, wp_seq]
      by_cases hv : 1 < v
      · simp [wp_set, wp_sret, wp_sretO, wp_expr, wp_for, wp_sif, wp_mif, wp_mand, wp_mor, wp_mnot, wp_mtest, wp_bnd, wp_ret, wp_some, wp_mcons, wp_nx, wp_bk, wp_ct, wp_asg, wp_mlc, wp_molc, wp_mcomp, wp_callV, wp_callO, wp_macons, wpr_maown, anQ_own, wpr_aug, auQ_val, wpr, rdQ_val, rdQ_own, wpr_rdO, wpr_wrOp, wpr_mopO, wpr_mmut, wpr_setI, owQ_own, wp_setO, wp_tup, wp_lst, wp_olst, wp_list, wp_tuple, wp_range1, wp_range2, wp_part, wp_slice, wp_tru, wp_andV, wp_orV, wp_notV, seqQ_rt, seqQ_ro, seqQ_bk, seqQ_ct, gath, scat, scat1, pos, ownAt, clQ_nx, clQ_rt, clQ_ro, lpQ_nx, lpQ_ct, lpQ_bk, lpQ_rt, lpQ_ro, mrg1, q_I0, q_I, q_ixL, q_ixT, q_ixO, q_lenL, q_lenT, q_lenO, q_sum, q_listL, q_listT, q_abs, q_max2, q_min2, q_slL, q_neg, q_append, q_setI, q_cMul, q_cDiv, q_cPos, q_cPow, at0, at1, at2, at3, at4, at5, ix0, ix1, okW, isOwn, wipeR, restR, wp_chain, wp_zip, wp_enum, wp_str, wp_slO, wp_rdON, wp_put, wp_swap, wp_str0, wp_mownS, wp_keys, wp_mdcomp, endQ_nx, endQ_rt, endO_ro, q_isiI, q_isiB, q_isiS, q_isiT, q_isiL, q_isiTL, q_all, q_any, q_ltS, q_addS, q_inS, q_ninS, q_lenS, q_lenD, q_zipT, q_zipL, q_catT, q_catL, q_slT, q_slS, q_tupleL, q_tupleT, q_tupO, q_lstO, q_listNL, q_listNT, q_insert, q_upper, q_nu2I, q_nu2B, q_nu1I, q_nu1B, q_strI, q_strB, q_strS, q_ixA_T, q_ixA_L, q_ixA_S, q_ixS, q_eqII, q_neII, q_eqSS, q_neSS, q_eqBB, q_neBB, q_dgetS, q_dgetI, q_dinS, q_dinI, at6, at7, gT, gsCons, gsNil, gN, keyOfD, someQ_some, someQ_if, someQ_map, q_allM, q_anyM, i_BN, i_BB, i_BI, i_BS, i_BL, i_BT, i_BD, i_IN, i_IB, i_II, i_IS, i_IL, i_IT, i_ID, i_SN, i_SB, i_SI, i_SS, i_SL, i_ST, i_SD, i_TN, i_TB, i_TI, i_TS, i_TL, i_TT, i_TD, i_LN, i_LB, i_LI, i_LS, i_LL, i_LT, i_LD, sizeLine_eq, hv]
        refine wp_atL (by omega) (by simp; omega) fun x hx => ?_
        simp only [List.mem_cons, List.not_mem_nil, or_false] at hx
        have hb : (if c = true then (1 : Int) else 0).natAbs ≤ 1 := by cases c <;> decide
        generalize (if c = true then (1 : Int) else 0) = z at hx hb
        rcases hx with rfl | rfl | rfl | rfl | rfl | rfl | rfl
        · exact h _ _ _ (okB_int.mpr (by omega)) (by simp [PyData.depth])
        · exact h _ _ _ (okB_int.mpr (by omega)) (by simp [PyData.depth])
        · exact h _ _ _ (okB_int.mpr (by omega)) (by simp [PyData.depth])
        · exact h _ _ _ (okB_int.mpr (by omega)) (by simp [PyData.depth])
        · exact h _ _ _ (okB_mono 0 _ (Nat.zero_le _) _ (by cases c <;> decide +kernel)) (by simp [PyData.depth])
        · exact h _ _ _ (okB_int.mpr (by omega)) (by simp [PyData.depth])
        · exact h _ _ _ (okB_tup.mpr ⟨by simp; omega, by simp [okB]⟩) (by simp [PyData.depth, PyData.depthAll])
      · simp [wp_set, wp_sret, wp_sretO, wp_expr, wp_for, wp_sif, wp_mif, wp_mand, wp_mor, wp_mnot, wp_mtest, wp_bnd, wp_ret, wp_some, wp_mcons, wp_nx, wp_bk, wp_ct, wp_asg, wp_mlc, wp_molc, wp_mcomp, wp_callV, wp_callO, wp_macons, wpr_maown, anQ_own, wpr_aug, auQ_val, wpr, rdQ_val, rdQ_own, wpr_rdO, wpr_wrOp, wpr_mopO, wpr_mmut, wpr_setI, owQ_own, wp_setO, wp_tup, wp_lst, wp_olst, wp_list, wp_tuple, wp_range1, wp_range2, wp_part, wp_slice, wp_tru, wp_andV, wp_orV, wp_notV, seqQ_rt, seqQ_ro, seqQ_bk, seqQ_ct, gath, scat, scat1, pos, ownAt, clQ_nx, clQ_rt, clQ_ro, lpQ_nx, lpQ_ct, lpQ_bk, lpQ_rt, lpQ_ro, mrg1, q_I0, q_I, q_ixL, q_ixT, q_ixO, q_lenL, q_lenT, q_lenO, q_sum, q_listL, q_listT, q_abs, q_max2, q_min2, q_slL, q_neg, q_append, q_setI, q_cMul, q_cDiv, q_cPos, q_cPow, at0, at1, at2, at3, at4, at5, ix0, ix1, okW, isOwn, wipeR, restR, wp_chain, wp_zip, wp_enum, wp_str, wp_slO, wp_rdON, wp_put, wp_swap, wp_str0, wp_mownS, wp_keys, wp_mdcomp, endQ_nx, endQ_rt, endO_ro, q_isiI, q_isiB, q_isiS, q_isiT, q_isiL, q_isiTL, q_all, q_any, q_ltS, q_addS, q_inS, q_ninS, q_lenS, q_lenD, q_zipT, q_zipL, q_catT, q_catL, q_slT, q_slS, q_tupleL, q_tupleT, q_tupO, q_lstO, q_listNL, q_listNT, q_insert, q_upper, q_nu2I, q_nu2B, q_nu1I, q_nu1B, q_strI, q_strB, q_strS, q_ixA_T, q_ixA_L, q_ixA_S, q_ixS, q_eqII, q_neII, q_eqSS, q_neSS, q_eqBB, q_neBB, q_dgetS, q_dgetI, q_dinS, q_dinI, at6, at7, gT, gsCons, gsNil, gN, keyOfD, someQ_some, someQ_if, someQ_map, q_allM, q_anyM, i_BN, i_BB, i_BI, i_BS, i_BL, i_BT, i_BD, i_IN, i_IB, i_II, i_IS, i_IL, i_IT, i_ID, i_SN, i_SB, i_SI, i_SS, i_SL, i_ST, i_SD, i_TN, i_TB, i_TI, i_TS, i_TL, i_TT, i_TD, i_LN, i_LB, i_LI, i_LS, i_LL, i_LT, i_LD, sizeLine_eq, hv]
        exact hodd (σ := [_, _, _, _])
    | int z =>
      have hz := okB_int.mp hok
      simp [wp_set, wp_sret, wp_sretO, wp_expr, wp_for, wp_sif, wp_mif, wp_mand, wp_mor, wp_mnot, wp_mtest, wp_bnd, wp_ret, wp_some, wp_mcons, wp_nx, wp_bk, wp_ct, wp_asg, wp_mlc, wp_molc, wp_mcomp, wp_callV, wp_callO, wp_macons, wpr_maown, anQ_own, wpr_aug, auQ_val, wpr, rdQ_val, rdQ_own, wpr_rdO, wpr_wrOp, wpr_mopO, wpr_mmut, wpr_setI, owQ_own, wp_setO, wp_tup, wp_lst, wp_olst, wp_list, wp_tuple, wp_range1, wp_range2, wp_part, wp_slice, wp_tru, wp_andV, wp_orV, wp_notV, seqQ_rt, seqQ_ro, seqQ_bk, seqQ_ct, gath, scat, scat1, pos, ownAt, clQ_nx, clQ_rt, clQ_ro, lpQ_nx, lpQ_ct, lpQ_bk, lpQ_rt, lpQ_ro, mrg1, q_I0, q_I, q_ixL, q_ixT, q_ixO, q_lenL, q_lenT, q_lenO, q_sum, q_listL, q_listT, q_abs, q_max2, q_min2, q_slL, q_neg, q_append, q_setI, q_cMul, q_cDiv, q_cPos, q_cPow, at0, at1, at2, at3, at4, at5, ix0, ix1, okW, isOwn, wipeR, restR, wp_chain, wp_zip, wp_enum, wp_str, wp_slO, wp_rdON, wp_put, wp_swap, wp_str0, wp_mownS, wp_keys, wp_mdcomp, endQ_nx, endQ_rt, endO_ro, q_isiI, q_isiB, q_isiS, q_isiT, q_isiL, q_isiTL, q_all, q_any, q_ltS, q_addS, q_inS, q_ninS, q_lenS, q_lenD, q_zipT, q_zipL, q_catT, q_catL, q_slT, q_slS, q_tupleL, q_tupleT, q_tupO, q_lstO, q_listNL, q_listNT, q_insert, q_upper, q_nu2I, q_nu2B, q_nu1I, q_nu1B, q_strI, q_strB, q_strS, q_ixA_T, q_ixA_L, q_ixA_S, q_ixS, q_eqII, q_neII, q_eqSS, q_neSS, q_eqBB, q_neBB, q_dgetS, q_dgetI, q_dinS, q_dinI, at6, at7, gT, gsCons, gsNil, gN, keyOfD, someQ_some, someQ_if, someQ_map, q_allM, q_anyM, i_BN, i_BB, i_BI, i_BS, i_BL, i_BT, i_BD, i_IN, i_IB, i_II, i_IS, i_IL, i_IT, i_ID, i_SN, i_SB, i_SI, i_SS, i_SL, i_ST, i_SD, i_TN, i_TB, i_TI, i_TS, i_TL, i_TT, i_TD, i_LN, i_LB, i_LI, i_LS, i_LL, i_LT, i_LD, sizeLine_eq]
      rw [seqQ_nx, wp_seq]
      simp [wp_set, wp_sret, wp_sretO, wp_expr, wp_for, wp_sif, wp_mif, wp_mand, wp_mor, wp_mnot, wp_mtest, wp_bnd, wp_ret, wp_some, wp_mcons, wp_nx, wp_bk, wp_ct, wp_asg, wp_mlc, wp_molc, wp_mcomp, wp_callV, wp_callO, wp_macons, wpr_maown, anQ_own, wpr_aug, auQ_val, wpr, rdQ_val, rdQ_own, wpr_rdO, wpr_wrOp, wpr_mopO, wpr_mmut, wpr_setI, owQ_own, wp_setO, wp_tup, wp_lst, wp_olst, wp_list, wp_tuple, wp_range1, wp_range2, wp_part, wp_slice, wp_tru, wp_andV, wp_orV, wp_notV, seqQ_rt, seqQ_ro, seqQ_bk, seqQ_ct, gath, scat, scat1, pos, ownAt, clQ_nx, clQ_rt, clQ_ro, lpQ_nx, lpQ_ct, lpQ_bk, lpQ_rt, lpQ_ro, mrg1, q_I0, q_I, q_ixL, q_ixT, q_ixO, q_lenL, q_lenT, q_lenO, q_sum, q_listL, q_listT, q_abs, q_max2, q_min2, q_slL, q_neg, q_append, q_setI, q_cMul, q_cDiv, q_cPos, q_cPow, at0, at1, at2, at3, at4, at5, ix0, ix1, okW, isOwn, wipeR, restR, wp_chain, wp_zip, wp_enum, wp_str, wp_slO, wp_rdON, wp_put, wp_swap, wp_str0, wp_mownS, wp_keys, wp_mdcomp, endQ_nx, endQ_rt, endO_ro, q_isiI, q_isiB, q_isiS, q_isiT, q_isiL, q_isiTL, q_all, q_any, q_ltS, q_addS, q_inS, q_ninS, q_lenS, q_lenD, q_zipT, q_zipL, q_catT, q_catL, q_slT, q_slS, q_tupleL, q_tupleT, q_tupO, q_lstO, q_listNL, q_listNT, q_insert, q_upper, q_nu2I, q_nu2B, q_nu1I, q_nu1B, q_strI, q_strB, q_strS, q_ixA_T, q_ixA_L, q_ixA_S, q_ixS, q_eqII, q_neII, q_eqSS, q_neSS, q_eqBB, q_neBB, q_dgetS, q_dgetI, q_dinS, q_dinI, at6, at7, gT, gsCons, gsNil, gN, keyOfD, someQ_some, someQ_if, someQ_map, q_allM, q_anyM, i_BN, i_BB, i_BI, i_BS, i_BL, i_BT, i_BD, i_IN, i_IB, i_II, i_IS, i_IL, i_IT, i_ID, i_SN, i_SB, i_SI, i_SS, i_SL, i_ST, i_SD, i_TN, i_TB, i_TI, i_TS, i_TL, i_TT, i_TD, i_LN, i_LB, i_LI, i_LS, i_LL, i_LT, i_LD, sizeLine_eq]
      rw [seqQ_nx, wp_seq]
      by_cases hv : 1 < v
      · have h31 : z.natAbs < 10 ^ 31 := by omega
        have hlog : z.natAbs.log2 < 1920 := log_ok h31
        simp [wp_set, wp_sret, wp_sretO, wp_expr, wp_for, wp_sif, wp_mif, wp_mand, wp_mor, wp_mnot, wp_mtest, wp_bnd, wp_ret, wp_some, wp_mcons, wp_nx, wp_bk, wp_ct, wp_asg, wp_mlc, wp_molc, wp_mcomp, wp_callV, wp_callO, wp_macons, wpr_maown, anQ_own, wpr_aug, auQ_val, wpr, rdQ_val, rdQ_own, wpr_rdO, wpr_wrOp, wpr_mopO, wpr_mmut, wpr_setI, owQ_own, wp_setO, wp_tup, wp_lst, wp_olst, wp_list, wp_tuple, wp_range1, wp_range2, wp_part, wp_slice, wp_tru, wp_andV, wp_orV, wp_notV, seqQ_rt, seqQ_ro, seqQ_bk, seqQ_ct, gath, scat, scat1, pos, ownAt, clQ_nx, clQ_rt, clQ_ro, lpQ_nx, lpQ_ct, lpQ_bk, lpQ_rt, lpQ_ro, mrg1, q_I0, q_I, q_ixL, q_ixT, q_ixO, q_lenL, q_lenT, q_lenO, q_sum, q_listL, q_listT, q_abs, q_max2, q_min2, q_slL, q_neg, q_append, q_setI, q_cMul, q_cDiv, q_cPos, q_cPow, at0, at1, at2, at3, at4, at5, ix0, ix1, okW, isOwn, wipeR, restR, wp_chain, wp_zip, wp_enum, wp_str, wp_slO, wp_rdON, wp_put, wp_swap, wp_str0, wp_mownS, wp_keys, wp_mdcomp, endQ_nx, endQ_rt, endO_ro, q_isiI, q_isiB, q_isiS, q_isiT, q_isiL, q_isiTL, q_all, q_any, q_ltS, q_addS, q_inS, q_ninS, q_lenS, q_lenD, q_zipT, q_zipL, q_catT, q_catL, q_slT, q_slS, q_tupleL, q_tupleT, q_tupO, q_lstO, q_listNL, q_listNT, q_insert, q_upper, q_nu2I, q_nu2B, q_nu1I, q_nu1B, q_strI, q_strB, q_strS, q_ixA_T, q_ixA_L, q_ixA_S, q_ixS, q_eqII, q_neII, q_eqSS, q_neSS, q_eqBB, q_neBB, q_dgetS, q_dgetI, q_dinS, q_dinI, at6, at7, gT, gsCons, gsNil, gN, keyOfD, someQ_some, someQ_if, someQ_map, q_allM, q_anyM, i_BN, i_BB, i_BI, i_BS, i_BL, i_BT, i_BD, i_IN, i_IB, i_II, i_IS, i_IL, i_IT, i_ID, i_SN, i_SB, i_SI, i_SS, i_SL, i_ST, i_SD, i_TN, i_TB, i_TI, i_TS, i_TL, i_TT, i_TD, i_LN, i_LB, i_LI, i_LS, i_LL, i_LT, i_LD, sizeLine_eq, hv, hlog]
        refine wp_atL (by omega) (by simp; omega) fun x hx => ?_
        simp only [List.mem_cons, List.not_mem_nil, or_false] at hx
        rcases hx with rfl | rfl | rfl | rfl | rfl | rfl | rfl
        · exact h _ _ _ (okB_int.mpr (by omega)) (by simp [PyData.depth])
        · exact h _ _ _ (okB_int.mpr (by omega)) (by simp [PyData.depth])
        · exact h _ _ _ (okB_int.mpr (by omega)) (by simp [PyData.depth])
        · exact h _ _ _ (okB_int.mpr (by omega)) (by simp [PyData.depth])
        · exact h _ _ _ (okB_mono 0 _ (Nat.zero_le _) _ (okB_str.mpr ⟨Nat.le_trans (int_len h31) (by decide), asc_int z⟩)) (by simp [PyData.depth])
        · exact h _ _ _ (okB_int.mpr (by omega)) (by simp [PyData.depth])
        · exact h _ _ _ (okB_tup.mpr ⟨by simp; omega, by simpa using okB_mono k (k + 1) (by omega) _ hok⟩) (by simp [PyData.depth, PyData.depthAll])
      · simp [wp_set, wp_sret, wp_sretO, wp_expr, wp_for, wp_sif, wp_mif, wp_mand, wp_mor, wp_mnot, wp_mtest, wp_bnd, wp_ret, wp_some, wp_mcons, wp_nx, wp_bk, wp_ct, wp_asg, wp_mlc, wp_molc, wp_mcomp, wp_callV, wp_callO, wp_macons, wpr_maown, anQ_own, wpr_aug, auQ_val, wpr, rdQ_val, rdQ_own, wpr_rdO, wpr_wrOp, wpr_mopO, wpr_mmut, wpr_setI, owQ_own, wp_setO, wp_tup, wp_lst, wp_olst, wp_list, wp_tuple, wp_range1, wp_range2, wp_part, wp_slice, wp_tru, wp_andV, wp_orV, wp_notV, seqQ_rt, seqQ_ro, seqQ_bk, seqQ_ct, gath, scat, scat1, pos, ownAt, clQ_nx, clQ_rt, clQ_ro, lpQ_nx, lpQ_ct, lpQ_bk, lpQ_rt, lpQ_ro, mrg1, q_I0, q_I, q_ixL, q_ixT, q_ixO, q_lenL, q_lenT, q_lenO, q_sum, q_listL, q_listT, q_abs, q_max2, q_min2, q_slL, q_neg, q_append, q_setI, q_cMul, q_cDiv, q_cPos, q_cPow, at0, at1, at2, at3, at4, at5, ix0, ix1, okW, isOwn, wipeR, restR, wp_chain, wp_zip, wp_enum, wp_str, wp_slO, wp_rdON, wp_put, wp_swap, wp_str0, wp_mownS, wp_keys, wp_mdcomp, endQ_nx, endQ_rt, endO_ro, q_isiI, q_isiB, q_isiS, q_isiT, q_isiL, q_isiTL, q_all, q_any, q_ltS, q_addS, q_inS, q_ninS, q_lenS, q_lenD, q_zipT, q_zipL, q_catT, q_catL, q_slT, q_slS, q_tupleL, q_tupleT, q_tupO, q_lstO, q_listNL, q_listNT, q_insert, q_upper, q_nu2I, q_nu2B, q_nu1I, q_nu1B, q_strI, q_strB, q_strS, q_ixA_T, q_ixA_L, q_ixA_S, q_ixS, q_eqII, q_neII, q_eqSS, q_neSS, q_eqBB, q_neBB, q_dgetS, q_dgetI, q_dinS, q_dinI, at6, at7, gT, gsCons, gsNil, gN, keyOfD, someQ_some, someQ_if, someQ_map, q_allM, q_anyM, i_BN, i_BB, i_BI, i_BS, i_BL, i_BT, i_BD, i_IN, i_IB, i_II, i_IS, i_IL, i_IT, i_ID, i_SN, i_SB, i_SI, i_SS, i_SL, i_ST, i_SD, i_TN, i_TB, i_TI, i_TS, i_TL, i_TT, i_TD, i_LN, i_LB, i_LI, i_LS, i_LL, i_LT, i_LD, sizeLine_eq, hv]
        exact hodd (σ := [_, _, _, _])
    | str s =>
      obtain ⟨hs, hasc⟩ := okB_str.mp hok
      have h3 : 3 ^ k ≤ 729 := Nat.le_trans (Nat.pow_le_pow_right (by decide) hk) (by decide)
      have h33 : 3 ^ (k + 1) = 3 * 3 ^ k := by rw [Nat.pow_succ, Nat.mul_comm]
      have h30 : 1 ≤ 3 ^ k := Nat.one_le_pow _ _ (by decide)
      simp [wp_set, wp_sret, wp_sretO, wp_expr, wp_for, wp_sif, wp_mif, wp_mand, wp_mor, wp_mnot, wp_mtest, wp_bnd, wp_ret, wp_some, wp_mcons, wp_nx, wp_bk, wp_ct, wp_asg, wp_mlc, wp_molc, wp_mcomp, wp_callV, wp_callO, wp_macons, wpr_maown, anQ_own, wpr_aug, auQ_val, wpr, rdQ_val, rdQ_own, wpr_rdO, wpr_wrOp, wpr_mopO, wpr_mmut, wpr_setI, owQ_own, wp_setO, wp_tup, wp_lst, wp_olst, wp_list, wp_tuple, wp_range1, wp_range2, wp_part, wp_slice, wp_tru, wp_andV, wp_orV, wp_notV, seqQ_rt, seqQ_ro, seqQ_bk, seqQ_ct, gath, scat, scat1, pos, ownAt, clQ_nx, clQ_rt, clQ_ro, lpQ_nx, lpQ_ct, lpQ_bk, lpQ_rt, lpQ_ro, mrg1, q_I0, q_I, q_ixL, q_ixT, q_ixO, q_lenL, q_lenT, q_lenO, q_sum, q_listL, q_listT, q_abs, q_max2, q_min2, q_slL, q_neg, q_append, q_setI, q_cMul, q_cDiv, q_cPos, q_cPow, at0, at1, at2, at3, at4, at5, ix0, ix1, okW, isOwn, wipeR, restR, wp_chain, wp_zip, wp_enum, wp_str, wp_slO, wp_rdON, wp_put, wp_swap, wp_str0, wp_mownS, wp_keys, wp_mdcomp, endQ_nx, endQ_rt, endO_ro, q_isiI, q_isiB, q_isiS, q_isiT, q_isiL, q_isiTL, q_all, q_any, q_ltS, q_addS, q_inS, q_ninS, q_lenS, q_lenD, q_zipT, q_zipL, q_catT, q_catL, q_slT, q_slS, q_tupleL, q_tupleT, q_tupO, q_lstO, q_listNL, q_listNT, q_insert, q_upper, q_nu2I, q_nu2B, q_nu1I, q_nu1B, q_strI, q_strB, q_strS, q_ixA_T, q_ixA_L, q_ixA_S, q_ixS, q_eqII, q_neII, q_eqSS, q_neSS, q_eqBB, q_neBB, q_dgetS, q_dgetI, q_dinS, q_dinI, at6, at7, gT, gsCons, gsNil, gN, keyOfD, someQ_some, someQ_if, someQ_map, q_allM, q_anyM, i_BN, i_BB, i_BI, i_BS, i_BL, i_BT, i_BD, i_IN, i_IB, i_II, i_IS, i_IL, i_IT, i_ID, i_SN, i_SB, i_SI, i_SS, i_SL, i_ST, i_SD, i_TN, i_TB, i_TI, i_TS, i_TL, i_TT, i_TD, i_LN, i_LB, i_LI, i_LS, i_LL, i_LT, i_LD, sizeLine_eq]
      rw [seqQ_nx, wp_seq]
      by_cases hv : 1 < v
      · have e1 : s.length + (PySem.Str.ofString "a").length ≤ 16777216 := by have : (PySem.Str.ofString "a").length = 1 := (by decide +kernel); omega
        have e2 : s.length + (PySem.Str.ofString " ").length ≤ 16777216 := by have : (PySem.Str.ofString " ").length = 1 := (by decide +kernel); omega
        have e3 : (PySem.Str.ofString "z").length + s.length ≤ 16777216 := by have : (PySem.Str.ofString "z").length = 1 := (by decide +kernel); omega
        have e4 : s.length + s.length ≤ 16777216 := by omega
        have e5 : s.length ≤ 16777216 := by omega
        have e6 : s.length ≤ 5592405 := by omega
        simp [wp_set, wp_sret, wp_sretO, wp_expr, wp_for, wp_sif, wp_mif, wp_mand, wp_mor, wp_mnot, wp_mtest, wp_bnd, wp_ret, wp_some, wp_mcons, wp_nx, wp_bk, wp_ct, wp_asg, wp_mlc, wp_molc, wp_mcomp, wp_callV, wp_callO, wp_macons, wpr_maown, anQ_own, wpr_aug, auQ_val, wpr, rdQ_val, rdQ_own, wpr_rdO, wpr_wrOp, wpr_mopO, wpr_mmut, wpr_setI, owQ_own, wp_setO, wp_tup, wp_lst, wp_olst, wp_list, wp_tuple, wp_range1, wp_range2, wp_part, wp_slice, wp_tru, wp_andV, wp_orV, wp_notV, seqQ_rt, seqQ_ro, seqQ_bk, seqQ_ct, gath, scat, scat1, pos, ownAt, clQ_nx, clQ_rt, clQ_ro, lpQ_nx, lpQ_ct, lpQ_bk, lpQ_rt, lpQ_ro, mrg1, q_I0, q_I, q_ixL, q_ixT, q_ixO, q_lenL, q_lenT, q_lenO, q_sum, q_listL, q_listT, q_abs, q_max2, q_min2, q_slL, q_neg, q_append, q_setI, q_cMul, q_cDiv, q_cPos, q_cPow, at0, at1, at2, at3, at4, at5, ix0, ix1, okW, isOwn, wipeR, restR, wp_chain, wp_zip, wp_enum, wp_str, wp_slO, wp_rdON, wp_put, wp_swap, wp_str0, wp_mownS, wp_keys, wp_mdcomp, endQ_nx, endQ_rt, endO_ro, q_isiI, q_isiB, q_isiS, q_isiT, q_isiL, q_isiTL, q_all, q_any, q_ltS, q_addS, q_inS, q_ninS, q_lenS, q_lenD, q_zipT, q_zipL, q_catT, q_catL, q_slT, q_slS, q_tupleL, q_tupleT, q_tupO, q_lstO, q_listNL, q_listNT, q_insert, q_upper, q_nu2I, q_nu2B, q_nu1I, q_nu1B, q_strI, q_strB, q_strS, q_ixA_T, q_ixA_L, q_ixA_S, q_ixS, q_eqII, q_neII, q_eqSS, q_neSS, q_eqBB, q_neBB, q_dgetS, q_dgetI, q_dinS, q_dinI, at6, at7, gT, gsCons, gsNil, gN, keyOfD, someQ_some, someQ_if, someQ_map, q_allM, q_anyM, i_BN, i_BB, i_BI, i_BS, i_BL, i_BT, i_BD, i_IN, i_IB, i_II, i_IS, i_IL, i_IT, i_ID, i_SN, i_SB, i_SI, i_SS, i_SL, i_ST, i_SD, i_TN, i_TB, i_TI, i_TS, i_TL, i_TT, i_TD, i_LN, i_LB, i_LI, i_LS, i_LL, i_LT, i_LD, sizeLine_eq, hv, e1, e2, e3, e4, e5, e6]
        refine wp_atL (by omega) (by simp; omega) fun x hx => ?_
        simp only [List.mem_cons, List.not_mem_nil, or_false] at hx
        have l1 : ∀ c : PySem.Str, c.length = 1 → asc c → okB (k + 1) (.str (s ++ c)) = true := fun c hc ha => okB_str.mpr ⟨by rw [app_len]; omega, asc_app hasc ha⟩
        rcases hx with rfl | rfl | rfl | rfl | rfl | rfl | rfl
        · exact h _ _ _ (l1 _ (by decide +kernel) (by decide +kernel)) (by simp [PyData.depth])
        · exact h _ _ _ (okB_str.mpr ⟨Nat.le_trans (cutS_length _ _ _) (by omega), asc_cut hasc _ _⟩) (by simp [PyData.depth])
        · exact h _ _ _ (l1 _ (by decide +kernel) (by decide +kernel)) (by simp [PyData.depth])
        · exact h _ _ _ (okB_str.mpr ⟨by rw [(up_ascii hasc).2]; omega, (up_ascii hasc).1⟩) (by simp [PyData.depth])
        · exact h _ _ _ (okB_str.mpr ⟨by rw [app_len]; omega, asc_app hasc hasc⟩) (by simp [PyData.depth])
        · exact h _ _ _ (okB_str.mpr ⟨by rw [app_len, show (PySem.Str.ofString "z").length = 1 by decide +kernel]; omega, asc_app (by decide +kernel) hasc⟩) (by simp [PyData.depth])
        · exact h _ _ _ (okB_mono 0 _ (Nat.zero_le _) _ (by decide +kernel)) (by simp [PyData.depth])
      · simp [wp_set, wp_sret, wp_sretO, wp_expr, wp_for, wp_sif, wp_mif, wp_mand, wp_mor, wp_mnot, wp_mtest, wp_bnd, wp_ret, wp_some, wp_mcons, wp_nx, wp_bk, wp_ct, wp_asg, wp_mlc, wp_molc, wp_mcomp, wp_callV, wp_callO, wp_macons, wpr_maown, anQ_own, wpr_aug, auQ_val, wpr, rdQ_val, rdQ_own, wpr_rdO, wpr_wrOp, wpr_mopO, wpr_mmut, wpr_setI, owQ_own, wp_setO, wp_tup, wp_lst, wp_olst, wp_list, wp_tuple, wp_range1, wp_range2, wp_part, wp_slice, wp_tru, wp_andV, wp_orV, wp_notV, seqQ_rt, seqQ_ro, seqQ_bk, seqQ_ct, gath, scat, scat1, pos, ownAt, clQ_nx, clQ_rt, clQ_ro, lpQ_nx, lpQ_ct, lpQ_bk, lpQ_rt, lpQ_ro, mrg1, q_I0, q_I, q_ixL, q_ixT, q_ixO, q_lenL, q_lenT, q_lenO, q_sum, q_listL, q_listT, q_abs, q_max2, q_min2, q_slL, q_neg, q_append, q_setI, q_cMul, q_cDiv, q_cPos, q_cPow, at0, at1, at2, at3, at4, at5, ix0, ix1, okW, isOwn, wipeR, restR, wp_chain, wp_zip, wp_enum, wp_str, wp_slO, wp_rdON, wp_put, wp_swap, wp_str0, wp_mownS, wp_keys, wp_mdcomp, endQ_nx, endQ_rt, endO_ro, q_isiI, q_isiB, q_isiS, q_isiT, q_isiL, q_isiTL, q_all, q_any, q_ltS, q_addS, q_inS, q_ninS, q_lenS, q_lenD, q_zipT, q_zipL, q_catT, q_catL, q_slT, q_slS, q_tupleL, q_tupleT, q_tupO, q_lstO, q_listNL, q_listNT, q_insert, q_upper, q_nu2I, q_nu2B, q_nu1I, q_nu1B, q_strI, q_strB, q_strS, q_ixA_T, q_ixA_L, q_ixA_S, q_ixS, q_eqII, q_neII, q_eqSS, q_neSS, q_eqBB, q_neBB, q_dgetS, q_dgetI, q_dinS, q_dinI, at6, at7, gT, gsCons, gsNil, gN, keyOfD, someQ_some, someQ_if, someQ_map, q_allM, q_anyM, i_BN, i_BB, i_BI, i_BS, i_BL, i_BT, i_BD, i_IN, i_IB, i_II, i_IS, i_IL, i_IT, i_ID, i_SN, i_SB, i_SI, i_SS, i_SL, i_ST, i_SD, i_TN, i_TB, i_TI, i_TS, i_TL, i_TT, i_TD, i_LN, i_LB, i_LI, i_LS, i_LL, i_LT, i_LD, sizeLine_eq, hv]
        rw [seqQ_nx, wp_seq]
        simp [wp_set, wp_sret, wp_sretO, wp_expr, wp_for, wp_sif, wp_mif, wp_mand, wp_mor, wp_mnot, wp_mtest, wp_bnd, wp_ret, wp_some, wp_mcons, wp_nx, wp_bk, wp_ct, wp_asg, wp_mlc, wp_molc, wp_mcomp, wp_callV, wp_callO, wp_macons, wpr_maown, anQ_own, wpr_aug, auQ_val, wpr, rdQ_val, rdQ_own, wpr_rdO, wpr_wrOp, wpr_mopO, wpr_mmut, wpr_setI, owQ_own, wp_setO, wp_tup, wp_lst, wp_olst, wp_list, wp_tuple, wp_range1, wp_range2, wp_part, wp_slice, wp_tru, wp_andV, wp_orV, wp_notV, seqQ_rt, seqQ_ro, seqQ_bk, seqQ_ct, gath, scat, scat1, pos, ownAt, clQ_nx, clQ_rt, clQ_ro, lpQ_nx, lpQ_ct, lpQ_bk, lpQ_rt, lpQ_ro, mrg1, q_I0, q_I, q_ixL, q_ixT, q_ixO, q_lenL, q_lenT, q_lenO, q_sum, q_listL, q_listT, q_abs, q_max2, q_min2, q_slL, q_neg, q_append, q_setI, q_cMul, q_cDiv, q_cPos, q_cPow, at0, at1, at2, at3, at4, at5, ix0, ix1, okW, isOwn, wipeR, restR, wp_chain, wp_zip, wp_enum, wp_str, wp_slO, wp_rdON, wp_put, wp_swap, wp_str0, wp_mownS, wp_keys, wp_mdcomp, endQ_nx, endQ_rt, endO_ro, q_isiI, q_isiB, q_isiS, q_isiT, q_isiL, q_isiTL, q_all, q_any, q_ltS, q_addS, q_inS, q_ninS, q_lenS, q_lenD, q_zipT, q_zipL, q_catT, q_catL, q_slT, q_slS, q_tupleL, q_tupleT, q_tupO, q_lstO, q_listNL, q_listNT, q_insert, q_upper, q_nu2I, q_nu2B, q_nu1I, q_nu1B, q_strI, q_strB, q_strS, q_ixA_T, q_ixA_L, q_ixA_S, q_ixS, q_eqII, q_neII, q_eqSS, q_neSS, q_eqBB, q_neBB, q_dgetS, q_dgetI, q_dinS, q_dinI, at6, at7, gT, gsCons, gsNil, gN, keyOfD, someQ_some, someQ_if, someQ_map, q_allM, q_anyM, i_BN, i_BB, i_BI, i_BS, i_BL, i_BT, i_BD, i_IN, i_IB, i_II, i_IS, i_IL, i_IT, i_ID, i_SN, i_SB, i_SI, i_SS, i_SL, i_ST, i_SD, i_TN, i_TB, i_TI, i_TS, i_TL, i_TT, i_TD, i_LN, i_LB, i_LI, i_LS, i_LL, i_LT, i_LD, sizeLine_eq]
        exact hodd (σ := [_, _, _, _])
    | tuple ds =>
      obtain ⟨hl, hds⟩ := okB_tup.mp hok
      have hdd : ∀ x ∈ ds, x.depth ≤ PyData.depthAll ds := fun x hx => depth_mem hx
      rw [PyData.depth] at hn
      have fin : ∀ (es : List D) (c : Bool) (a1 b1 : Int), es.length ≤ 100 + (k + 1) → (∀ x ∈ es, okB (k + 1) x = true ∧ x.depth ≤ PyData.depthAll ds + 3) → Q (if c then .tuple es else .list es) [bagS a1 b1, .val (.tuple ds)] := by
        intro es c a1 b1 h1 h2
        have hdep : PyData.depthAll es ≤ PyData.depthAll ds + 3 := depthAll_le fun x hx => (h2 x hx).2
        cases c
        · show Q (.list es) _
          exact h _ _ _ (okB_lst.mpr ⟨h1, fun x hx => (h2 x hx).1⟩) (by rw [PyData.depth, PyData.depth]; omega)
        · show Q (.tuple es) _
          exact h _ _ _ (okB_tup.mpr ⟨h1, fun x hx => (h2 x hx).1⟩) (by rw [PyData.depth, PyData.depth]; omega)
      have old : ∀ x ∈ ds, okB (k + 1) x = true ∧ x.depth ≤ PyData.depthAll ds + 3 := fun x hx => ⟨okB_mono k (k + 1) (by omega) x (hds x hx), by have := hdd x hx; omega⟩
      by_cases hc : 0 < ds.length ∧ 0 < v
      case neg =>
        by_cases hc0 : 0 < ds.length
        · have hc3 : ¬ 0 < v := fun z => hc ⟨hc0, z⟩
          simp [wp_set, wp_sret, wp_sretO, wp_expr, wp_for, wp_sif, wp_mif, wp_mand, wp_mor, wp_mnot, wp_mtest, wp_bnd, wp_ret, wp_some, wp_mcons, wp_nx, wp_bk, wp_ct, wp_asg, wp_mlc, wp_molc, wp_mcomp, wp_callV, wp_callO, wp_macons, wpr_maown, anQ_own, wpr_aug, auQ_val, wpr, rdQ_val, rdQ_own, wpr_rdO, wpr_wrOp, wpr_mopO, wpr_mmut, wpr_setI, owQ_own, wp_setO, wp_tup, wp_lst, wp_olst, wp_list, wp_tuple, wp_range1, wp_range2, wp_part, wp_slice, wp_tru, wp_andV, wp_orV, wp_notV, seqQ_rt, seqQ_ro, seqQ_bk, seqQ_ct, gath, scat, scat1, pos, ownAt, clQ_nx, clQ_rt, clQ_ro, lpQ_nx, lpQ_ct, lpQ_bk, lpQ_rt, lpQ_ro, mrg1, q_I0, q_I, q_ixL, q_ixT, q_ixO, q_lenL, q_lenT, q_lenO, q_sum, q_listL, q_listT, q_abs, q_max2, q_min2, q_slL, q_neg, q_append, q_setI, q_cMul, q_cDiv, q_cPos, q_cPow, at0, at1, at2, at3, at4, at5, ix0, ix1, okW, isOwn, wipeR, restR, wp_chain, wp_zip, wp_enum, wp_str, wp_slO, wp_rdON, wp_put, wp_swap, wp_str0, wp_mownS, wp_keys, wp_mdcomp, endQ_nx, endQ_rt, endO_ro, q_isiI, q_isiB, q_isiS, q_isiT, q_isiL, q_isiTL, q_all, q_any, q_ltS, q_addS, q_inS, q_ninS, q_lenS, q_lenD, q_zipT, q_zipL, q_catT, q_catL, q_slT, q_slS, q_tupleL, q_tupleT, q_tupO, q_lstO, q_listNL, q_listNT, q_insert, q_upper, q_nu2I, q_nu2B, q_nu1I, q_nu1B, q_strI, q_strB, q_strS, q_ixA_T, q_ixA_L, q_ixA_S, q_ixS, q_eqII, q_neII, q_eqSS, q_neSS, q_eqBB, q_neBB, q_dgetS, q_dgetI, q_dinS, q_dinI, at6, at7, gT, gsCons, gsNil, gN, keyOfD, someQ_some, someQ_if, someQ_map, q_allM, q_anyM, i_BN, i_BB, i_BI, i_BS, i_BL, i_BT, i_BD, i_IN, i_IB, i_II, i_IS, i_IL, i_IT, i_ID, i_SN, i_SB, i_SI, i_SS, i_SL, i_ST, i_SD, i_TN, i_TB, i_TI, i_TS, i_TL, i_TT, i_TD, i_LN, i_LB, i_LI, i_LS, i_LL, i_LT, i_LD, sizeLine_eq, hc0, hc3]
          rw [seqQ_nx, wp_seq]
          simp [wp_set, wp_sret, wp_sretO, wp_expr, wp_for, wp_sif, wp_mif, wp_mand, wp_mor, wp_mnot, wp_mtest, wp_bnd, wp_ret, wp_some, wp_mcons, wp_nx, wp_bk, wp_ct, wp_asg, wp_mlc, wp_molc, wp_mcomp, wp_callV, wp_callO, wp_macons, wpr_maown, anQ_own, wpr_aug, auQ_val, wpr, rdQ_val, rdQ_own, wpr_rdO, wpr_wrOp, wpr_mopO, wpr_mmut, wpr_setI, owQ_own, wp_setO, wp_tup, wp_lst, wp_olst, wp_list, wp_tuple, wp_range1, wp_range2, wp_part, wp_slice, wp_tru, wp_andV, wp_orV, wp_notV, seqQ_rt, seqQ_ro, seqQ_bk, seqQ_ct, gath, scat, scat1, pos, ownAt, clQ_nx, clQ_rt, clQ_ro, lpQ_nx, lpQ_ct, lpQ_bk, lpQ_rt, lpQ_ro, mrg1, q_I0, q_I, q_ixL, q_ixT, q_ixO, q_lenL, q_lenT, q_lenO, q_sum, q_listL, q_listT, q_abs, q_max2, q_min2, q_slL, q_neg, q_append, q_setI, q_cMul, q_cDiv, q_cPos, q_cPow, at0, at1, at2, at3, at4, at5, ix0, ix1, okW, isOwn, wipeR, restR, wp_chain, wp_zip, wp_enum, wp_str, wp_slO, wp_rdON, wp_put, wp_swap, wp_str0, wp_mownS, wp_keys, wp_mdcomp, endQ_nx, endQ_rt, endO_ro, q_isiI, q_isiB, q_isiS, q_isiT, q_isiL, q_isiTL, q_all, q_any, q_ltS, q_addS, q_inS, q_ninS, q_lenS, q_lenD, q_zipT, q_zipL, q_catT, q_catL, q_slT, q_slS, q_tupleL, q_tupleT, q_tupO, q_lstO, q_listNL, q_listNT, q_insert, q_upper, q_nu2I, q_nu2B, q_nu1I, q_nu1B, q_strI, q_strB, q_strS, q_ixA_T, q_ixA_L, q_ixA_S, q_ixS, q_eqII, q_neII, q_eqSS, q_neSS, q_eqBB, q_neBB, q_dgetS, q_dgetI, q_dinS, q_dinI, at6, at7, gT, gsCons, gsNil, gN, keyOfD, someQ_some, someQ_if, someQ_map, q_allM, q_anyM, i_BN, i_BB, i_BI, i_BS, i_BL, i_BT, i_BD, i_IN, i_IB, i_II, i_IS, i_IL, i_IT, i_ID, i_SN, i_SB, i_SI, i_SS, i_SL, i_ST, i_SD, i_TN, i_TB, i_TI, i_TS, i_TL, i_TT, i_TD, i_LN, i_LB, i_LI, i_LS, i_LL, i_LT, i_LD, sizeLine_eq]
          rw [seqQ_nx, wp_seq]
          simp [wp_set, wp_sret, wp_sretO, wp_expr, wp_for, wp_sif, wp_mif, wp_mand, wp_mor, wp_mnot, wp_mtest, wp_bnd, wp_ret, wp_some, wp_mcons, wp_nx, wp_bk, wp_ct, wp_asg, wp_mlc, wp_molc, wp_mcomp, wp_callV, wp_callO, wp_macons, wpr_maown, anQ_own, wpr_aug, auQ_val, wpr, rdQ_val, rdQ_own, wpr_rdO, wpr_wrOp, wpr_mopO, wpr_mmut, wpr_setI, owQ_own, wp_setO, wp_tup, wp_lst, wp_olst, wp_list, wp_tuple, wp_range1, wp_range2, wp_part, wp_slice, wp_tru, wp_andV, wp_orV, wp_notV, seqQ_rt, seqQ_ro, seqQ_bk, seqQ_ct, gath, scat, scat1, pos, ownAt, clQ_nx, clQ_rt, clQ_ro, lpQ_nx, lpQ_ct, lpQ_bk, lpQ_rt, lpQ_ro, mrg1, q_I0, q_I, q_ixL, q_ixT, q_ixO, q_lenL, q_lenT, q_lenO, q_sum, q_listL, q_listT, q_abs, q_max2, q_min2, q_slL, q_neg, q_append, q_setI, q_cMul, q_cDiv, q_cPos, q_cPow, at0, at1, at2, at3, at4, at5, ix0, ix1, okW, isOwn, wipeR, restR, wp_chain, wp_zip, wp_enum, wp_str, wp_slO, wp_rdON, wp_put, wp_swap, wp_str0, wp_mownS, wp_keys, wp_mdcomp, endQ_nx, endQ_rt, endO_ro, q_isiI, q_isiB, q_isiS, q_isiT, q_isiL, q_isiTL, q_all, q_any, q_ltS, q_addS, q_inS, q_ninS, q_lenS, q_lenD, q_zipT, q_zipL, q_catT, q_catL, q_slT, q_slS, q_tupleL, q_tupleT, q_tupO, q_lstO, q_listNL, q_listNT, q_insert, q_upper, q_nu2I, q_nu2B, q_nu1I, q_nu1B, q_strI, q_strB, q_strS, q_ixA_T, q_ixA_L, q_ixA_S, q_ixS, q_eqII, q_neII, q_eqSS, q_neSS, q_eqBB, q_neBB, q_dgetS, q_dgetI, q_dinS, q_dinI, at6, at7, gT, gsCons, gsNil, gN, keyOfD, someQ_some, someQ_if, someQ_map, q_allM, q_anyM, i_BN, i_BB, i_BI, i_BS, i_BL, i_BT, i_BD, i_IN, i_IB, i_II, i_IS, i_IL, i_IT, i_ID, i_SN, i_SB, i_SI, i_SS, i_SL, i_ST, i_SD, i_TN, i_TB, i_TI, i_TS, i_TL, i_TT, i_TD, i_LN, i_LB, i_LI, i_LS, i_LL, i_LT, i_LD, sizeLine_eq]
          exact hodd (σ := [_, _, _, _])
        · simp [wp_set, wp_sret, wp_sretO, wp_expr, wp_for, wp_sif, wp_mif, wp_mand, wp_mor, wp_mnot, wp_mtest, wp_bnd, wp_ret, wp_some, wp_mcons, wp_nx, wp_bk, wp_ct, wp_asg, wp_mlc, wp_molc, wp_mcomp, wp_callV, wp_callO, wp_macons, wpr_maown, anQ_own, wpr_aug, auQ_val, wpr, rdQ_val, rdQ_own, wpr_rdO, wpr_wrOp, wpr_mopO, wpr_mmut, wpr_setI, owQ_own, wp_setO, wp_tup, wp_lst, wp_olst, wp_list, wp_tuple, wp_range1, wp_range2, wp_part, wp_slice, wp_tru, wp_andV, wp_orV, wp_notV, seqQ_rt, seqQ_ro, seqQ_bk, seqQ_ct, gath, scat, scat1, pos, ownAt, clQ_nx, clQ_rt, clQ_ro, lpQ_nx, lpQ_ct, lpQ_bk, lpQ_rt, lpQ_ro, mrg1, q_I0, q_I, q_ixL, q_ixT, q_ixO, q_lenL, q_lenT, q_lenO, q_sum, q_listL, q_listT, q_abs, q_max2, q_min2, q_slL, q_neg, q_append, q_setI, q_cMul, q_cDiv, q_cPos, q_cPow, at0, at1, at2, at3, at4, at5, ix0, ix1, okW, isOwn, wipeR, restR, wp_chain, wp_zip, wp_enum, wp_str, wp_slO, wp_rdON, wp_put, wp_swap, wp_str0, wp_mownS, wp_keys, wp_mdcomp, endQ_nx, endQ_rt, endO_ro, q_isiI, q_isiB, q_isiS, q_isiT, q_isiL, q_isiTL, q_all, q_any, q_ltS, q_addS, q_inS, q_ninS, q_lenS, q_lenD, q_zipT, q_zipL, q_catT, q_catL, q_slT, q_slS, q_tupleL, q_tupleT, q_tupO, q_lstO, q_listNL, q_listNT, q_insert, q_upper, q_nu2I, q_nu2B, q_nu1I, q_nu1B, q_strI, q_strB, q_strS, q_ixA_T, q_ixA_L, q_ixA_S, q_ixS, q_eqII, q_neII, q_eqSS, q_neSS, q_eqBB, q_neBB, q_dgetS, q_dgetI, q_dinS, q_dinI, at6, at7, gT, gsCons, gsNil, gN, keyOfD, someQ_some, someQ_if, someQ_map, q_allM, q_anyM, i_BN, i_BB, i_BI, i_BS, i_BL, i_BT, i_BD, i_IN, i_IB, i_II, i_IS, i_IL, i_IT, i_ID, i_SN, i_SB, i_SI, i_SS, i_SL, i_ST, i_SD, i_TN, i_TB, i_TI, i_TS, i_TL, i_TT, i_TD, i_LN, i_LB, i_LI, i_LS, i_LL, i_LT, i_LD, sizeLine_eq, hc0]
          rw [seqQ_nx, wp_seq]
          simp [wp_set, wp_sret, wp_sretO, wp_expr, wp_for, wp_sif, wp_mif, wp_mand, wp_mor, wp_mnot, wp_mtest, wp_bnd, wp_ret, wp_some, wp_mcons, wp_nx, wp_bk, wp_ct, wp_asg, wp_mlc, wp_molc, wp_mcomp, wp_callV, wp_callO, wp_macons, wpr_maown, anQ_own, wpr_aug, auQ_val, wpr, rdQ_val, rdQ_own, wpr_rdO, wpr_wrOp, wpr_mopO, wpr_mmut, wpr_setI, owQ_own, wp_setO, wp_tup, wp_lst, wp_olst, wp_list, wp_tuple, wp_range1, wp_range2, wp_part, wp_slice, wp_tru, wp_andV, wp_orV, wp_notV, seqQ_rt, seqQ_ro, seqQ_bk, seqQ_ct, gath, scat, scat1, pos, ownAt, clQ_nx, clQ_rt, clQ_ro, lpQ_nx, lpQ_ct, lpQ_bk, lpQ_rt, lpQ_ro, mrg1, q_I0, q_I, q_ixL, q_ixT, q_ixO, q_lenL, q_lenT, q_lenO, q_sum, q_listL, q_listT, q_abs, q_max2, q_min2, q_slL, q_neg, q_append, q_setI, q_cMul, q_cDiv, q_cPos, q_cPow, at0, at1, at2, at3, at4, at5, ix0, ix1, okW, isOwn, wipeR, restR, wp_chain, wp_zip, wp_enum, wp_str, wp_slO, wp_rdON, wp_put, wp_swap, wp_str0, wp_mownS, wp_keys, wp_mdcomp, endQ_nx, endQ_rt, endO_ro, q_isiI, q_isiB, q_isiS, q_isiT, q_isiL, q_isiTL, q_all, q_any, q_ltS, q_addS, q_inS, q_ninS, q_lenS, q_lenD, q_zipT, q_zipL, q_catT, q_catL, q_slT, q_slS, q_tupleL, q_tupleT, q_tupO, q_lstO, q_listNL, q_listNT, q_insert, q_upper, q_nu2I, q_nu2B, q_nu1I, q_nu1B, q_strI, q_strB, q_strS, q_ixA_T, q_ixA_L, q_ixA_S, q_ixS, q_eqII, q_neII, q_eqSS, q_neSS, q_eqBB, q_neBB, q_dgetS, q_dgetI, q_dinS, q_dinI, at6, at7, gT, gsCons, gsNil, gN, keyOfD, someQ_some, someQ_if, someQ_map, q_allM, q_anyM, i_BN, i_BB, i_BI, i_BS, i_BL, i_BT, i_BD, i_IN, i_IB, i_II, i_IS, i_IL, i_IT, i_ID, i_SN, i_SB, i_SI, i_SS, i_SL, i_ST, i_SD, i_TN, i_TB, i_TI, i_TS, i_TL, i_TT, i_TD, i_LN, i_LB, i_LI, i_LS, i_LL, i_LT, i_LD, sizeLine_eq]
          rw [seqQ_nx, wp_seq]
          simp [wp_set, wp_sret, wp_sretO, wp_expr, wp_for, wp_sif, wp_mif, wp_mand, wp_mor, wp_mnot, wp_mtest, wp_bnd, wp_ret, wp_some, wp_mcons, wp_nx, wp_bk, wp_ct, wp_asg, wp_mlc, wp_molc, wp_mcomp, wp_callV, wp_callO, wp_macons, wpr_maown, anQ_own, wpr_aug, auQ_val, wpr, rdQ_val, rdQ_own, wpr_rdO, wpr_wrOp, wpr_mopO, wpr_mmut, wpr_setI, owQ_own, wp_setO, wp_tup, wp_lst, wp_olst, wp_list, wp_tuple, wp_range1, wp_range2, wp_part, wp_slice, wp_tru, wp_andV, wp_orV, wp_notV, seqQ_rt, seqQ_ro, seqQ_bk, seqQ_ct, gath, scat, scat1, pos, ownAt, clQ_nx, clQ_rt, clQ_ro, lpQ_nx, lpQ_ct, lpQ_bk, lpQ_rt, lpQ_ro, mrg1, q_I0, q_I, q_ixL, q_ixT, q_ixO, q_lenL, q_lenT, q_lenO, q_sum, q_listL, q_listT, q_abs, q_max2, q_min2, q_slL, q_neg, q_append, q_setI, q_cMul, q_cDiv, q_cPos, q_cPow, at0, at1, at2, at3, at4, at5, ix0, ix1, okW, isOwn, wipeR, restR, wp_chain, wp_zip, wp_enum, wp_str, wp_slO, wp_rdON, wp_put, wp_swap, wp_str0, wp_mownS, wp_keys, wp_mdcomp, endQ_nx, endQ_rt, endO_ro, q_isiI, q_isiB, q_isiS, q_isiT, q_isiL, q_isiTL, q_all, q_any, q_ltS, q_addS, q_inS, q_ninS, q_lenS, q_lenD, q_zipT, q_zipL, q_catT, q_catL, q_slT, q_slS, q_tupleL, q_tupleT, q_tupO, q_lstO, q_listNL, q_listNT, q_insert, q_upper, q_nu2I, q_nu2B, q_nu1I, q_nu1B, q_strI, q_strB, q_strS, q_ixA_T, q_ixA_L, q_ixA_S, q_ixS, q_eqII, q_neII, q_eqSS, q_neSS, q_eqBB, q_neBB, q_dgetS, q_dgetI, q_dinS, q_dinI, at6, at7, gT, gsCons, gsNil, gN, keyOfD, someQ_some, someQ_if, someQ_map, q_allM, q_anyM, i_BN, i_BB, i_BI, i_BS, i_BL, i_BT, i_BD, i_IN, i_IB, i_II, i_IS, i_IL, i_IT, i_ID, i_SN, i_SB, i_SI, i_SS, i_SL, i_ST, i_SD, i_TN, i_TB, i_TI, i_TS, i_TL, i_TT, i_TD, i_LN, i_LB, i_LI, i_LS, i_LL, i_LT, i_LD, sizeLine_eq]
          exact hodd (σ := [_, _, _, _])
      obtain ⟨hc1, hc2⟩ := hc
      have hle : ds.length ≤ 1000 := by omega
      simp [wp_set, wp_sret, wp_sretO, wp_expr, wp_for, wp_sif, wp_mif, wp_mand, wp_mor, wp_mnot, wp_mtest, wp_bnd, wp_ret, wp_some, wp_mcons, wp_nx, wp_bk, wp_ct, wp_asg, wp_mlc, wp_molc, wp_mcomp, wp_callV, wp_callO, wp_macons, wpr_maown, anQ_own, wpr_aug, auQ_val, wpr, rdQ_val, rdQ_own, wpr_rdO, wpr_wrOp, wpr_mopO, wpr_mmut, wpr_setI, owQ_own, wp_setO, wp_tup, wp_lst, wp_olst, wp_list, wp_tuple, wp_range1, wp_range2, wp_part, wp_slice, wp_tru, wp_andV, wp_orV, wp_notV, seqQ_rt, seqQ_ro, seqQ_bk, seqQ_ct, gath, scat, scat1, pos, ownAt, clQ_nx, clQ_rt, clQ_ro, lpQ_nx, lpQ_ct, lpQ_bk, lpQ_rt, lpQ_ro, mrg1, q_I0, q_I, q_ixL, q_ixT, q_ixO, q_lenL, q_lenT, q_lenO, q_sum, q_listL, q_listT, q_abs, q_max2, q_min2, q_slL, q_neg, q_append, q_setI, q_cMul, q_cDiv, q_cPos, q_cPow, at0, at1, at2, at3, at4, at5, ix0, ix1, okW, isOwn, wipeR, restR, wp_chain, wp_zip, wp_enum, wp_str, wp_slO, wp_rdON, wp_put, wp_swap, wp_str0, wp_mownS, wp_keys, wp_mdcomp, endQ_nx, endQ_rt, endO_ro, q_isiI, q_isiB, q_isiS, q_isiT, q_isiL, q_isiTL, q_all, q_any, q_ltS, q_addS, q_inS, q_ninS, q_lenS, q_lenD, q_zipT, q_zipL, q_catT, q_catL, q_slT, q_slS, q_tupleL, q_tupleT, q_tupO, q_lstO, q_listNL, q_listNT, q_insert, q_upper, q_nu2I, q_nu2B, q_nu1I, q_nu1B, q_strI, q_strB, q_strS, q_ixA_T, q_ixA_L, q_ixA_S, q_ixS, q_eqII, q_neII, q_eqSS, q_neSS, q_eqBB, q_neBB, q_dgetS, q_dgetI, q_dinS, q_dinI, at6, at7, gT, gsCons, gsNil, gN, keyOfD, someQ_some, someQ_if, someQ_map, q_allM, q_anyM, i_BN, i_BB, i_BI, i_BS, i_BL, i_BT, i_BD, i_IN, i_IB, i_II, i_IS, i_IL, i_IT, i_ID, i_SN, i_SB, i_SI, i_SS, i_SL, i_ST, i_SD, i_TN, i_TB, i_TI, i_TS, i_TL, i_TT, i_TD, i_LN, i_LB, i_LI, i_LS, i_LL, i_LT, i_LD, sizeLine_eq, hc1, hc2]
      rw [wp_seq]
      simp [wp_set, wp_sret, wp_sretO, wp_expr, wp_for, wp_sif, wp_mif, wp_mand, wp_mor, wp_mnot, wp_mtest, wp_bnd, wp_ret, wp_some, wp_mcons, wp_nx, wp_bk, wp_ct, wp_asg, wp_mlc, wp_molc, wp_mcomp, wp_callV, wp_callO, wp_macons, wpr_maown, anQ_own, wpr_aug, auQ_val, wpr, rdQ_val, rdQ_own, wpr_rdO, wpr_wrOp, wpr_mopO, wpr_mmut, wpr_setI, owQ_own, wp_setO, wp_tup, wp_lst, wp_olst, wp_list, wp_tuple, wp_range1, wp_range2, wp_part, wp_slice, wp_tru, wp_andV, wp_orV, wp_notV, seqQ_rt, seqQ_ro, seqQ_bk, seqQ_ct, gath, scat, scat1, pos, ownAt, clQ_nx, clQ_rt, clQ_ro, lpQ_nx, lpQ_ct, lpQ_bk, lpQ_rt, lpQ_ro, mrg1, q_I0, q_I, q_ixL, q_ixT, q_ixO, q_lenL, q_lenT, q_lenO, q_sum, q_listL, q_listT, q_abs, q_max2, q_min2, q_slL, q_neg, q_append, q_setI, q_cMul, q_cDiv, q_cPos, q_cPow, at0, at1, at2, at3, at4, at5, ix0, ix1, okW, isOwn, wipeR, restR, wp_chain, wp_zip, wp_enum, wp_str, wp_slO, wp_rdON, wp_put, wp_swap, wp_str0, wp_mownS, wp_keys, wp_mdcomp, endQ_nx, endQ_rt, endO_ro, q_isiI, q_isiB, q_isiS, q_isiT, q_isiL, q_isiTL, q_all, q_any, q_ltS, q_addS, q_inS, q_ninS, q_lenS, q_lenD, q_zipT, q_zipL, q_catT, q_catL, q_slT, q_slS, q_tupleL, q_tupleT, q_tupO, q_lstO, q_listNL, q_listNT, q_insert, q_upper, q_nu2I, q_nu2B, q_nu1I, q_nu1B, q_strI, q_strB, q_strS, q_ixA_T, q_ixA_L, q_ixA_S, q_ixS, q_eqII, q_neII, q_eqSS, q_neSS, q_eqBB, q_neBB, q_dgetS, q_dgetI, q_dinS, q_dinI, at6, at7, gT, gsCons, gsNil, gN, keyOfD, someQ_some, someQ_if, someQ_map, q_allM, q_anyM, i_BN, i_BB, i_BI, i_BS, i_BL, i_BT, i_BD, i_IN, i_IB, i_II, i_IS, i_IL, i_IT, i_ID, i_SN, i_SB, i_SI, i_SS, i_SL, i_ST, i_SD, i_TN, i_TB, i_TI, i_TS, i_TL, i_TT, i_TD, i_LN, i_LB, i_LI, i_LS, i_LL, i_LT, i_LD, sizeLine_eq]
      rw [seqQ_nx, wp_seq]
      simp [wp_set, wp_sret, wp_sretO, wp_expr, wp_for, wp_sif, wp_mif, wp_mand, wp_mor, wp_mnot, wp_mtest, wp_bnd, wp_ret, wp_some, wp_mcons, wp_nx, wp_bk, wp_ct, wp_asg, wp_mlc, wp_molc, wp_mcomp, wp_callV, wp_callO, wp_macons, wpr_maown, anQ_own, wpr_aug, auQ_val, wpr, rdQ_val, rdQ_own, wpr_rdO, wpr_wrOp, wpr_mopO, wpr_mmut, wpr_setI, owQ_own, wp_setO, wp_tup, wp_lst, wp_olst, wp_list, wp_tuple, wp_range1, wp_range2, wp_part, wp_slice, wp_tru, wp_andV, wp_orV, wp_notV, seqQ_rt, seqQ_ro, seqQ_bk, seqQ_ct, gath, scat, scat1, pos, ownAt, clQ_nx, clQ_rt, clQ_ro, lpQ_nx, lpQ_ct, lpQ_bk, lpQ_rt, lpQ_ro, mrg1, q_I0, q_I, q_ixL, q_ixT, q_ixO, q_lenL, q_lenT, q_lenO, q_sum, q_listL, q_listT, q_abs, q_max2, q_min2, q_slL, q_neg, q_append, q_setI, q_cMul, q_cDiv, q_cPos, q_cPow, at0, at1, at2, at3, at4, at5, ix0, ix1, okW, isOwn, wipeR, restR, wp_chain, wp_zip, wp_enum, wp_str, wp_slO, wp_rdON, wp_put, wp_swap, wp_str0, wp_mownS, wp_keys, wp_mdcomp, endQ_nx, endQ_rt, endO_ro, q_isiI, q_isiB, q_isiS, q_isiT, q_isiL, q_isiTL, q_all, q_any, q_ltS, q_addS, q_inS, q_ninS, q_lenS, q_lenD, q_zipT, q_zipL, q_catT, q_catL, q_slT, q_slS, q_tupleL, q_tupleT, q_tupO, q_lstO, q_listNL, q_listNT, q_insert, q_upper, q_nu2I, q_nu2B, q_nu1I, q_nu1B, q_strI, q_strB, q_strS, q_ixA_T, q_ixA_L, q_ixA_S, q_ixS, q_eqII, q_neII, q_eqSS, q_neSS, q_eqBB, q_neBB, q_dgetS, q_dgetI, q_dinS, q_dinI, at6, at7, gT, gsCons, gsNil, gN, keyOfD, someQ_some, someQ_if, someQ_map, q_allM, q_anyM, i_BN, i_BB, i_BI, i_BS, i_BL, i_BT, i_BD, i_IN, i_IB, i_II, i_IS, i_IL, i_IT, i_ID, i_SN, i_SB, i_SI, i_SS, i_SL, i_ST, i_SD, i_TN, i_TB, i_TI, i_TS, i_TL, i_TT, i_TD, i_LN, i_LB, i_LI, i_LS, i_LL, i_LT, i_LD, sizeLine_eq]
      refine take_step (by omega) fun at_ a b g0 g1 => ?_
      obtain ⟨j, x, rfl, hj, hjx, hx, hat, hix⟩ := at_mem g0 g1
      simp [wp_set, wp_sret, wp_sretO, wp_expr, wp_for, wp_sif, wp_mif, wp_mand, wp_mor, wp_mnot, wp_mtest, wp_bnd, wp_ret, wp_some, wp_mcons, wp_nx, wp_bk, wp_ct, wp_asg, wp_mlc, wp_molc, wp_mcomp, wp_callV, wp_callO, wp_macons, wpr_maown, anQ_own, wpr_aug, auQ_val, wpr, rdQ_val, rdQ_own, wpr_rdO, wpr_wrOp, wpr_mopO, wpr_mmut, wpr_setI, owQ_own, wp_setO, wp_tup, wp_lst, wp_olst, wp_list, wp_tuple, wp_range1, wp_range2, wp_part, wp_slice, wp_tru, wp_andV, wp_orV, wp_notV, seqQ_rt, seqQ_ro, seqQ_bk, seqQ_ct, gath, scat, scat1, pos, ownAt, clQ_nx, clQ_rt, clQ_ro, lpQ_nx, lpQ_ct, lpQ_bk, lpQ_rt, lpQ_ro, mrg1, q_I0, q_I, q_ixL, q_ixT, q_ixO, q_lenL, q_lenT, q_lenO, q_sum, q_listL, q_listT, q_abs, q_max2, q_min2, q_slL, q_neg, q_append, q_setI, q_cMul, q_cDiv, q_cPos, q_cPow, at0, at1, at2, at3, at4, at5, ix0, ix1, okW, isOwn, wipeR, restR, wp_chain, wp_zip, wp_enum, wp_str, wp_slO, wp_rdON, wp_put, wp_swap, wp_str0, wp_mownS, wp_keys, wp_mdcomp, endQ_nx, endQ_rt, endO_ro, q_isiI, q_isiB, q_isiS, q_isiT, q_isiL, q_isiTL, q_all, q_any, q_ltS, q_addS, q_inS, q_ninS, q_lenS, q_lenD, q_zipT, q_zipL, q_catT, q_catL, q_slT, q_slS, q_tupleL, q_tupleT, q_tupO, q_lstO, q_listNL, q_listNT, q_insert, q_upper, q_nu2I, q_nu2B, q_nu1I, q_nu1B, q_strI, q_strB, q_strS, q_ixA_T, q_ixA_L, q_ixA_S, q_ixS, q_eqII, q_neII, q_eqSS, q_neSS, q_eqBB, q_neBB, q_dgetS, q_dgetI, q_dinS, q_dinI, at6, at7, gT, gsCons, gsNil, gN, keyOfD, someQ_some, someQ_if, someQ_map, q_allM, q_anyM, i_BN, i_BB, i_BI, i_BS, i_BL, i_BT, i_BD, i_IN, i_IB, i_II, i_IS, i_IL, i_IT, i_ID, i_SN, i_SB, i_SI, i_SS, i_SL, i_ST, i_SD, i_TN, i_TB, i_TI, i_TS, i_TL, i_TT, i_TD, i_LN, i_LB, i_LI, i_LS, i_LL, i_LT, i_LD, sizeLine_eq]
      rw [seqQ_nx, wp_seq]
      by_cases w1 : v = 1
      · subst w1
        simp [wp_set, wp_sret, wp_sretO, wp_expr, wp_for, wp_sif, wp_mif, wp_mand, wp_mor, wp_mnot, wp_mtest, wp_bnd, wp_ret, wp_some, wp_mcons, wp_nx, wp_bk, wp_ct, wp_asg, wp_mlc, wp_molc, wp_mcomp, wp_callV, wp_callO, wp_macons, wpr_maown, anQ_own, wpr_aug, auQ_val, wpr, rdQ_val, rdQ_own, wpr_rdO, wpr_wrOp, wpr_mopO, wpr_mmut, wpr_setI, owQ_own, wp_setO, wp_tup, wp_lst, wp_olst, wp_list, wp_tuple, wp_range1, wp_range2, wp_part, wp_slice, wp_tru, wp_andV, wp_orV, wp_notV, seqQ_rt, seqQ_ro, seqQ_bk, seqQ_ct, gath, scat, scat1, pos, ownAt, clQ_nx, clQ_rt, clQ_ro, lpQ_nx, lpQ_ct, lpQ_bk, lpQ_rt, lpQ_ro, mrg1, q_I0, q_I, q_ixL, q_ixT, q_ixO, q_lenL, q_lenT, q_lenO, q_sum, q_listL, q_listT, q_abs, q_max2, q_min2, q_slL, q_neg, q_append, q_setI, q_cMul, q_cDiv, q_cPos, q_cPow, at0, at1, at2, at3, at4, at5, ix0, ix1, okW, isOwn, wipeR, restR, wp_chain, wp_zip, wp_enum, wp_str, wp_slO, wp_rdON, wp_put, wp_swap, wp_str0, wp_mownS, wp_keys, wp_mdcomp, endQ_nx, endQ_rt, endO_ro, q_isiI, q_isiB, q_isiS, q_isiT, q_isiL, q_isiTL, q_all, q_any, q_ltS, q_addS, q_inS, q_ninS, q_lenS, q_lenD, q_zipT, q_zipL, q_catT, q_catL, q_slT, q_slS, q_tupleL, q_tupleT, q_tupO, q_lstO, q_listNL, q_listNT, q_insert, q_upper, q_nu2I, q_nu2B, q_nu1I, q_nu1B, q_strI, q_strB, q_strS, q_ixA_T, q_ixA_L, q_ixA_S, q_ixS, q_eqII, q_neII, q_eqSS, q_neSS, q_eqBB, q_neBB, q_dgetS, q_dgetI, q_dinS, q_dinI, at6, at7, gT, gsCons, gsNil, gN, keyOfD, someQ_some, someQ_if, someQ_map, q_allM, q_anyM, i_BN, i_BB, i_BI, i_BS, i_BL, i_BT, i_BD, i_IN, i_IB, i_II, i_IS, i_IL, i_IT, i_ID, i_SN, i_SB, i_SI, i_SS, i_SL, i_ST, i_SD, i_TN, i_TB, i_TI, i_TS, i_TL, i_TT, i_TD, i_LN, i_LB, i_LI, i_LS, i_LL, i_LT, i_LD, sizeLine_eq]
        refine ⟨?_, ?_⟩
        · rw [cut_to _ _ (by omega), show (j : Int) + 1 = ((j + 1 : Nat) : Int) by omega, cut_from _ _ (by omega)]; simp; omega
        rw [cut_to _ _ (by omega), show (j : Int) + 1 = ((j + 1 : Nat) : Int) by omega, cut_from _ _ (by omega)]
        rw [seqQ_nx]
        simp [wp_set, wp_sret, wp_sretO, wp_expr, wp_for, wp_sif, wp_mif, wp_mand, wp_mor, wp_mnot, wp_mtest, wp_bnd, wp_ret, wp_some, wp_mcons, wp_nx, wp_bk, wp_ct, wp_asg, wp_mlc, wp_molc, wp_mcomp, wp_callV, wp_callO, wp_macons, wpr_maown, anQ_own, wpr_aug, auQ_val, wpr, rdQ_val, rdQ_own, wpr_rdO, wpr_wrOp, wpr_mopO, wpr_mmut, wpr_setI, owQ_own, wp_setO, wp_tup, wp_lst, wp_olst, wp_list, wp_tuple, wp_range1, wp_range2, wp_part, wp_slice, wp_tru, wp_andV, wp_orV, wp_notV, seqQ_rt, seqQ_ro, seqQ_bk, seqQ_ct, gath, scat, scat1, pos, ownAt, clQ_nx, clQ_rt, clQ_ro, lpQ_nx, lpQ_ct, lpQ_bk, lpQ_rt, lpQ_ro, mrg1, q_I0, q_I, q_ixL, q_ixT, q_ixO, q_lenL, q_lenT, q_lenO, q_sum, q_listL, q_listT, q_abs, q_max2, q_min2, q_slL, q_neg, q_append, q_setI, q_cMul, q_cDiv, q_cPos, q_cPow, at0, at1, at2, at3, at4, at5, ix0, ix1, okW, isOwn, wipeR, restR, wp_chain, wp_zip, wp_enum, wp_str, wp_slO, wp_rdON, wp_put, wp_swap, wp_str0, wp_mownS, wp_keys, wp_mdcomp, endQ_nx, endQ_rt, endO_ro, q_isiI, q_isiB, q_isiS, q_isiT, q_isiL, q_isiTL, q_all, q_any, q_ltS, q_addS, q_inS, q_ninS, q_lenS, q_lenD, q_zipT, q_zipL, q_catT, q_catL, q_slT, q_slS, q_tupleL, q_tupleT, q_tupO, q_lstO, q_listNL, q_listNT, q_insert, q_upper, q_nu2I, q_nu2B, q_nu1I, q_nu1B, q_strI, q_strB, q_strS, q_ixA_T, q_ixA_L, q_ixA_S, q_ixS, q_eqII, q_neII, q_eqSS, q_neSS, q_eqBB, q_neBB, q_dgetS, q_dgetI, q_dinS, q_dinI, at6, at7, gT, gsCons, gsNil, gN, keyOfD, someQ_some, someQ_if, someQ_map, q_allM, q_anyM, i_BN, i_BB, i_BI, i_BS, i_BL, i_BT, i_BD, i_IN, i_IB, i_II, i_IS, i_IL, i_IT, i_ID, i_SN, i_SB, i_SI, i_SS, i_SL, i_ST, i_SD, i_TN, i_TB, i_TI, i_TS, i_TL, i_TT, i_TD, i_LN, i_LB, i_LI, i_LS, i_LL, i_LT, i_LD, sizeLine_eq, seqQ_rt]
        refine fin _ true _ _ (by simp; omega) fun x hx => ?_
        rcases List.mem_append.mp hx with hx | hx
        · exact old x (List.mem_of_mem_take hx)
        · exact old x (List.mem_of_mem_drop hx)
      by_cases w2 : v = 2
      · subst w2
        simp [wp_set, wp_sret, wp_sretO, wp_expr, wp_for, wp_sif, wp_mif, wp_mand, wp_mor, wp_mnot, wp_mtest, wp_bnd, wp_ret, wp_some, wp_mcons, wp_nx, wp_bk, wp_ct, wp_asg, wp_mlc, wp_molc, wp_mcomp, wp_callV, wp_callO, wp_macons, wpr_maown, anQ_own, wpr_aug, auQ_val, wpr, rdQ_val, rdQ_own, wpr_rdO, wpr_wrOp, wpr_mopO, wpr_mmut, wpr_setI, owQ_own, wp_setO, wp_tup, wp_lst, wp_olst, wp_list, wp_tuple, wp_range1, wp_range2, wp_part, wp_slice, wp_tru, wp_andV, wp_orV, wp_notV, seqQ_rt, seqQ_ro, seqQ_bk, seqQ_ct, gath, scat, scat1, pos, ownAt, clQ_nx, clQ_rt, clQ_ro, lpQ_nx, lpQ_ct, lpQ_bk, lpQ_rt, lpQ_ro, mrg1, q_I0, q_I, q_ixL, q_ixT, q_ixO, q_lenL, q_lenT, q_lenO, q_sum, q_listL, q_listT, q_abs, q_max2, q_min2, q_slL, q_neg, q_append, q_setI, q_cMul, q_cDiv, q_cPos, q_cPow, at0, at1, at2, at3, at4, at5, ix0, ix1, okW, isOwn, wipeR, restR, wp_chain, wp_zip, wp_enum, wp_str, wp_slO, wp_rdON, wp_put, wp_swap, wp_str0, wp_mownS, wp_keys, wp_mdcomp, endQ_nx, endQ_rt, endO_ro, q_isiI, q_isiB, q_isiS, q_isiT, q_isiL, q_isiTL, q_all, q_any, q_ltS, q_addS, q_inS, q_ninS, q_lenS, q_lenD, q_zipT, q_zipL, q_catT, q_catL, q_slT, q_slS, q_tupleL, q_tupleT, q_tupO, q_lstO, q_listNL, q_listNT, q_insert, q_upper, q_nu2I, q_nu2B, q_nu1I, q_nu1B, q_strI, q_strB, q_strS, q_ixA_T, q_ixA_L, q_ixA_S, q_ixS, q_eqII, q_neII, q_eqSS, q_neSS, q_eqBB, q_neBB, q_dgetS, q_dgetI, q_dinS, q_dinI, at6, at7, gT, gsCons, gsNil, gN, keyOfD, someQ_some, someQ_if, someQ_map, q_allM, q_anyM, i_BN, i_BB, i_BI, i_BS, i_BL, i_BT, i_BD, i_IN, i_IB, i_II, i_IS, i_IL, i_IT, i_ID, i_SN, i_SB, i_SI, i_SS, i_SL, i_ST, i_SD, i_TN, i_TB, i_TI, i_TS, i_TL, i_TT, i_TD, i_LN, i_LB, i_LI, i_LS, i_LL, i_LT, i_LD, sizeLine_eq]
        refine ⟨?_, ?_⟩
        · rw [cut_from _ _ (by omega), show (j : Int) + 1 = ((j + 1 : Nat) : Int) by omega, cut_to _ _ (by omega)]; simp; omega
        rw [cut_from _ _ (by omega), show (j : Int) + 1 = ((j + 1 : Nat) : Int) by omega, cut_to _ _ (by omega)]
        rw [seqQ_nx]
        simp [wp_set, wp_sret, wp_sretO, wp_expr, wp_for, wp_sif, wp_mif, wp_mand, wp_mor, wp_mnot, wp_mtest, wp_bnd, wp_ret, wp_some, wp_mcons, wp_nx, wp_bk, wp_ct, wp_asg, wp_mlc, wp_molc, wp_mcomp, wp_callV, wp_callO, wp_macons, wpr_maown, anQ_own, wpr_aug, auQ_val, wpr, rdQ_val, rdQ_own, wpr_rdO, wpr_wrOp, wpr_mopO, wpr_mmut, wpr_setI, owQ_own, wp_setO, wp_tup, wp_lst, wp_olst, wp_list, wp_tuple, wp_range1, wp_range2, wp_part, wp_slice, wp_tru, wp_andV, wp_orV, wp_notV, seqQ_rt, seqQ_ro, seqQ_bk, seqQ_ct, gath, scat, scat1, pos, ownAt, clQ_nx, clQ_rt, clQ_ro, lpQ_nx, lpQ_ct, lpQ_bk, lpQ_rt, lpQ_ro, mrg1, q_I0, q_I, q_ixL, q_ixT, q_ixO, q_lenL, q_lenT, q_lenO, q_sum, q_listL, q_listT, q_abs, q_max2, q_min2, q_slL, q_neg, q_append, q_setI, q_cMul, q_cDiv, q_cPos, q_cPow, at0, at1, at2, at3, at4, at5, ix0, ix1, okW, isOwn, wipeR, restR, wp_chain, wp_zip, wp_enum, wp_str, wp_slO, wp_rdON, wp_put, wp_swap, wp_str0, wp_mownS, wp_keys, wp_mdcomp, endQ_nx, endQ_rt, endO_ro, q_isiI, q_isiB, q_isiS, q_isiT, q_isiL, q_isiTL, q_all, q_any, q_ltS, q_addS, q_inS, q_ninS, q_lenS, q_lenD, q_zipT, q_zipL, q_catT, q_catL, q_slT, q_slS, q_tupleL, q_tupleT, q_tupO, q_lstO, q_listNL, q_listNT, q_insert, q_upper, q_nu2I, q_nu2B, q_nu1I, q_nu1B, q_strI, q_strB, q_strS, q_ixA_T, q_ixA_L, q_ixA_S, q_ixS, q_eqII, q_neII, q_eqSS, q_neSS, q_eqBB, q_neBB, q_dgetS, q_dgetI, q_dinS, q_dinI, at6, at7, gT, gsCons, gsNil, gN, keyOfD, someQ_some, someQ_if, someQ_map, q_allM, q_anyM, i_BN, i_BB, i_BI, i_BS, i_BL, i_BT, i_BD, i_IN, i_IB, i_II, i_IS, i_IL, i_IT, i_ID, i_SN, i_SB, i_SI, i_SS, i_SL, i_ST, i_SD, i_TN, i_TB, i_TI, i_TS, i_TL, i_TT, i_TD, i_LN, i_LB, i_LI, i_LS, i_LL, i_LT, i_LD, sizeLine_eq, seqQ_rt]
        refine fin _ true _ _ (by simp; omega) fun x hx => ?_
        rcases List.mem_append.mp hx with hx | hx
        · exact old x (List.mem_of_mem_take hx)
        · exact old x (List.mem_of_mem_drop hx)
      by_cases w3 : v = 3
      · subst w3
        simp [wp_set, wp_sret, wp_sretO, wp_expr, wp_for, wp_sif, wp_mif, wp_mand, wp_mor, wp_mnot, wp_mtest, wp_bnd, wp_ret, wp_some, wp_mcons, wp_nx, wp_bk, wp_ct, wp_asg, wp_mlc, wp_molc, wp_mcomp, wp_callV, wp_callO, wp_macons, wpr_maown, anQ_own, wpr_aug, auQ_val, wpr, rdQ_val, rdQ_own, wpr_rdO, wpr_wrOp, wpr_mopO, wpr_mmut, wpr_setI, owQ_own, wp_setO, wp_tup, wp_lst, wp_olst, wp_list, wp_tuple, wp_range1, wp_range2, wp_part, wp_slice, wp_tru, wp_andV, wp_orV, wp_notV, seqQ_rt, seqQ_ro, seqQ_bk, seqQ_ct, gath, scat, scat1, pos, ownAt, clQ_nx, clQ_rt, clQ_ro, lpQ_nx, lpQ_ct, lpQ_bk, lpQ_rt, lpQ_ro, mrg1, q_I0, q_I, q_ixL, q_ixT, q_ixO, q_lenL, q_lenT, q_lenO, q_sum, q_listL, q_listT, q_abs, q_max2, q_min2, q_slL, q_neg, q_append, q_setI, q_cMul, q_cDiv, q_cPos, q_cPow, at0, at1, at2, at3, at4, at5, ix0, ix1, okW, isOwn, wipeR, restR, wp_chain, wp_zip, wp_enum, wp_str, wp_slO, wp_rdON, wp_put, wp_swap, wp_str0, wp_mownS, wp_keys, wp_mdcomp, endQ_nx, endQ_rt, endO_ro, q_isiI, q_isiB, q_isiS, q_isiT, q_isiL, q_isiTL, q_all, q_any, q_ltS, q_addS, q_inS, q_ninS, q_lenS, q_lenD, q_zipT, q_zipL, q_catT, q_catL, q_slT, q_slS, q_tupleL, q_tupleT, q_tupO, q_lstO, q_listNL, q_listNT, q_insert, q_upper, q_nu2I, q_nu2B, q_nu1I, q_nu1B, q_strI, q_strB, q_strS, q_ixA_T, q_ixA_L, q_ixA_S, q_ixS, q_eqII, q_neII, q_eqSS, q_neSS, q_eqBB, q_neBB, q_dgetS, q_dgetI, q_dinS, q_dinI, at6, at7, gT, gsCons, gsNil, gN, keyOfD, someQ_some, someQ_if, someQ_map, q_allM, q_anyM, i_BN, i_BB, i_BI, i_BS, i_BL, i_BT, i_BD, i_IN, i_IB, i_II, i_IS, i_IL, i_IT, i_ID, i_SN, i_SB, i_SI, i_SS, i_SL, i_ST, i_SD, i_TN, i_TB, i_TI, i_TS, i_TL, i_TT, i_TD, i_LN, i_LB, i_LI, i_LS, i_LL, i_LT, i_LD, sizeLine_eq]
        rw [wp_seq]
        simp [wp_set, wp_sret, wp_sretO, wp_expr, wp_for, wp_sif, wp_mif, wp_mand, wp_mor, wp_mnot, wp_mtest, wp_bnd, wp_ret, wp_some, wp_mcons, wp_nx, wp_bk, wp_ct, wp_asg, wp_mlc, wp_molc, wp_mcomp, wp_callV, wp_callO, wp_macons, wpr_maown, anQ_own, wpr_aug, auQ_val, wpr, rdQ_val, rdQ_own, wpr_rdO, wpr_wrOp, wpr_mopO, wpr_mmut, wpr_setI, owQ_own, wp_setO, wp_tup, wp_lst, wp_olst, wp_list, wp_tuple, wp_range1, wp_range2, wp_part, wp_slice, wp_tru, wp_andV, wp_orV, wp_notV, seqQ_rt, seqQ_ro, seqQ_bk, seqQ_ct, gath, scat, scat1, pos, ownAt, clQ_nx, clQ_rt, clQ_ro, lpQ_nx, lpQ_ct, lpQ_bk, lpQ_rt, lpQ_ro, mrg1, q_I0, q_I, q_ixL, q_ixT, q_ixO, q_lenL, q_lenT, q_lenO, q_sum, q_listL, q_listT, q_abs, q_max2, q_min2, q_slL, q_neg, q_append, q_setI, q_cMul, q_cDiv, q_cPos, q_cPow, at0, at1, at2, at3, at4, at5, ix0, ix1, okW, isOwn, wipeR, restR, wp_chain, wp_zip, wp_enum, wp_str, wp_slO, wp_rdON, wp_put, wp_swap, wp_str0, wp_mownS, wp_keys, wp_mdcomp, endQ_nx, endQ_rt, endO_ro, q_isiI, q_isiB, q_isiS, q_isiT, q_isiL, q_isiTL, q_all, q_any, q_ltS, q_addS, q_inS, q_ninS, q_lenS, q_lenD, q_zipT, q_zipL, q_catT, q_catL, q_slT, q_slS, q_tupleL, q_tupleT, q_tupO, q_lstO, q_listNL, q_listNT, q_insert, q_upper, q_nu2I, q_nu2B, q_nu1I, q_nu1B, q_strI, q_strB, q_strS, q_ixA_T, q_ixA_L, q_ixA_S, q_ixS, q_eqII, q_neII, q_eqSS, q_neSS, q_eqBB, q_neBB, q_dgetS, q_dgetI, q_dinS, q_dinI, at6, at7, gT, gsCons, gsNil, gN, keyOfD, someQ_some, someQ_if, someQ_map, q_allM, q_anyM, i_BN, i_BB, i_BI, i_BS, i_BL, i_BT, i_BD, i_IN, i_IB, i_II, i_IS, i_IL, i_IT, i_ID, i_SN, i_SB, i_SI, i_SS, i_SL, i_ST, i_SD, i_TN, i_TB, i_TI, i_TS, i_TL, i_TT, i_TD, i_LN, i_LB, i_LI, i_LS, i_LL, i_LT, i_LD, sizeLine_eq]
        refine take_step (by omega) fun ot a b g2 g3 => ?_
        obtain ⟨j2, x2, rfl, hj2, hjx2, hx2, hat2, hix2⟩ := at_mem g2 g3
        simp [wp_set, wp_sret, wp_sretO, wp_expr, wp_for, wp_sif, wp_mif, wp_mand, wp_mor, wp_mnot, wp_mtest, wp_bnd, wp_ret, wp_some, wp_mcons, wp_nx, wp_bk, wp_ct, wp_asg, wp_mlc, wp_molc, wp_mcomp, wp_callV, wp_callO, wp_macons, wpr_maown, anQ_own, wpr_aug, auQ_val, wpr, rdQ_val, rdQ_own, wpr_rdO, wpr_wrOp, wpr_mopO, wpr_mmut, wpr_setI, owQ_own, wp_setO, wp_tup, wp_lst, wp_olst, wp_list, wp_tuple, wp_range1, wp_range2, wp_part, wp_slice, wp_tru, wp_andV, wp_orV, wp_notV, seqQ_rt, seqQ_ro, seqQ_bk, seqQ_ct, gath, scat, scat1, pos, ownAt, clQ_nx, clQ_rt, clQ_ro, lpQ_nx, lpQ_ct, lpQ_bk, lpQ_rt, lpQ_ro, mrg1, q_I0, q_I, q_ixL, q_ixT, q_ixO, q_lenL, q_lenT, q_lenO, q_sum, q_listL, q_listT, q_abs, q_max2, q_min2, q_slL, q_neg, q_append, q_setI, q_cMul, q_cDiv, q_cPos, q_cPow, at0, at1, at2, at3, at4, at5, ix0, ix1, okW, isOwn, wipeR, restR, wp_chain, wp_zip, wp_enum, wp_str, wp_slO, wp_rdON, wp_put, wp_swap, wp_str0, wp_mownS, wp_keys, wp_mdcomp, endQ_nx, endQ_rt, endO_ro, q_isiI, q_isiB, q_isiS, q_isiT, q_isiL, q_isiTL, q_all, q_any, q_ltS, q_addS, q_inS, q_ninS, q_lenS, q_lenD, q_zipT, q_zipL, q_catT, q_catL, q_slT, q_slS, q_tupleL, q_tupleT, q_tupO, q_lstO, q_listNL, q_listNT, q_insert, q_upper, q_nu2I, q_nu2B, q_nu1I, q_nu1B, q_strI, q_strB, q_strS, q_ixA_T, q_ixA_L, q_ixA_S, q_ixS, q_eqII, q_neII, q_eqSS, q_neSS, q_eqBB, q_neBB, q_dgetS, q_dgetI, q_dinS, q_dinI, at6, at7, gT, gsCons, gsNil, gN, keyOfD, someQ_some, someQ_if, someQ_map, q_allM, q_anyM, i_BN, i_BB, i_BI, i_BS, i_BL, i_BT, i_BD, i_IN, i_IB, i_II, i_IS, i_IL, i_IT, i_ID, i_SN, i_SB, i_SI, i_SS, i_SL, i_ST, i_SD, i_TN, i_TB, i_TI, i_TS, i_TL, i_TT, i_TD, i_LN, i_LB, i_LI, i_LS, i_LL, i_LT, i_LD, sizeLine_eq]
        rw [seqQ_nx]
        simp [wp_set, wp_sret, wp_sretO, wp_expr, wp_for, wp_sif, wp_mif, wp_mand, wp_mor, wp_mnot, wp_mtest, wp_bnd, wp_ret, wp_some, wp_mcons, wp_nx, wp_bk, wp_ct, wp_asg, wp_mlc, wp_molc, wp_mcomp, wp_callV, wp_callO, wp_macons, wpr_maown, anQ_own, wpr_aug, auQ_val, wpr, rdQ_val, rdQ_own, wpr_rdO, wpr_wrOp, wpr_mopO, wpr_mmut, wpr_setI, owQ_own, wp_setO, wp_tup, wp_lst, wp_olst, wp_list, wp_tuple, wp_range1, wp_range2, wp_part, wp_slice, wp_tru, wp_andV, wp_orV, wp_notV, seqQ_rt, seqQ_ro, seqQ_bk, seqQ_ct, gath, scat, scat1, pos, ownAt, clQ_nx, clQ_rt, clQ_ro, lpQ_nx, lpQ_ct, lpQ_bk, lpQ_rt, lpQ_ro, mrg1, q_I0, q_I, q_ixL, q_ixT, q_ixO, q_lenL, q_lenT, q_lenO, q_sum, q_listL, q_listT, q_abs, q_max2, q_min2, q_slL, q_neg, q_append, q_setI, q_cMul, q_cDiv, q_cPos, q_cPow, at0, at1, at2, at3, at4, at5, ix0, ix1, okW, isOwn, wipeR, restR, wp_chain, wp_zip, wp_enum, wp_str, wp_slO, wp_rdON, wp_put, wp_swap, wp_str0, wp_mownS, wp_keys, wp_mdcomp, endQ_nx, endQ_rt, endO_ro, q_isiI, q_isiB, q_isiS, q_isiT, q_isiL, q_isiTL, q_all, q_any, q_ltS, q_addS, q_inS, q_ninS, q_lenS, q_lenD, q_zipT, q_zipL, q_catT, q_catL, q_slT, q_slS, q_tupleL, q_tupleT, q_tupO, q_lstO, q_listNL, q_listNT, q_insert, q_upper, q_nu2I, q_nu2B, q_nu1I, q_nu1B, q_strI, q_strB, q_strS, q_ixA_T, q_ixA_L, q_ixA_S, q_ixS, q_eqII, q_neII, q_eqSS, q_neSS, q_eqBB, q_neBB, q_dgetS, q_dgetI, q_dinS, q_dinI, at6, at7, gT, gsCons, gsNil, gN, keyOfD, someQ_some, someQ_if, someQ_map, q_allM, q_anyM, i_BN, i_BB, i_BI, i_BS, i_BL, i_BT, i_BD, i_IN, i_IB, i_II, i_IS, i_IL, i_IT, i_ID, i_SN, i_SB, i_SI, i_SS, i_SL, i_ST, i_SD, i_TN, i_TB, i_TI, i_TS, i_TL, i_TT, i_TD, i_LN, i_LB, i_LI, i_LS, i_LL, i_LT, i_LD, sizeLine_eq, hat, hat2, hix, hix2]
        refine ⟨_, _, ⟨rfl, rfl⟩, ?_⟩
        rw [seqQ_nx]
        simp [wp_set, wp_sret, wp_sretO, wp_expr, wp_for, wp_sif, wp_mif, wp_mand, wp_mor, wp_mnot, wp_mtest, wp_bnd, wp_ret, wp_some, wp_mcons, wp_nx, wp_bk, wp_ct, wp_asg, wp_mlc, wp_molc, wp_mcomp, wp_callV, wp_callO, wp_macons, wpr_maown, anQ_own, wpr_aug, auQ_val, wpr, rdQ_val, rdQ_own, wpr_rdO, wpr_wrOp, wpr_mopO, wpr_mmut, wpr_setI, owQ_own, wp_setO, wp_tup, wp_lst, wp_olst, wp_list, wp_tuple, wp_range1, wp_range2, wp_part, wp_slice, wp_tru, wp_andV, wp_orV, wp_notV, seqQ_rt, seqQ_ro, seqQ_bk, seqQ_ct, gath, scat, scat1, pos, ownAt, clQ_nx, clQ_rt, clQ_ro, lpQ_nx, lpQ_ct, lpQ_bk, lpQ_rt, lpQ_ro, mrg1, q_I0, q_I, q_ixL, q_ixT, q_ixO, q_lenL, q_lenT, q_lenO, q_sum, q_listL, q_listT, q_abs, q_max2, q_min2, q_slL, q_neg, q_append, q_setI, q_cMul, q_cDiv, q_cPos, q_cPow, at0, at1, at2, at3, at4, at5, ix0, ix1, okW, isOwn, wipeR, restR, wp_chain, wp_zip, wp_enum, wp_str, wp_slO, wp_rdON, wp_put, wp_swap, wp_str0, wp_mownS, wp_keys, wp_mdcomp, endQ_nx, endQ_rt, endO_ro, q_isiI, q_isiB, q_isiS, q_isiT, q_isiL, q_isiTL, q_all, q_any, q_ltS, q_addS, q_inS, q_ninS, q_lenS, q_lenD, q_zipT, q_zipL, q_catT, q_catL, q_slT, q_slS, q_tupleL, q_tupleT, q_tupO, q_lstO, q_listNL, q_listNT, q_insert, q_upper, q_nu2I, q_nu2B, q_nu1I, q_nu1B, q_strI, q_strB, q_strS, q_ixA_T, q_ixA_L, q_ixA_S, q_ixS, q_eqII, q_neII, q_eqSS, q_neSS, q_eqBB, q_neBB, q_dgetS, q_dgetI, q_dinS, q_dinI, at6, at7, gT, gsCons, gsNil, gN, keyOfD, someQ_some, someQ_if, someQ_map, q_allM, q_anyM, i_BN, i_BB, i_BI, i_BS, i_BL, i_BT, i_BD, i_IN, i_IB, i_II, i_IS, i_IL, i_IT, i_ID, i_SN, i_SB, i_SI, i_SS, i_SL, i_ST, i_SD, i_TN, i_TB, i_TI, i_TS, i_TL, i_TT, i_TD, i_LN, i_LB, i_LI, i_LS, i_LL, i_LT, i_LD, sizeLine_eq, seqQ_rt]
        refine fin _ true _ _ (by simp; omega) fun y hy => ?_
        rcases mem_set hy with hy | rfl
        · rcases mem_set hy with hy | rfl
          · exact old y hy
          · exact old _ hx2
        · exact old _ hx
      by_cases w4 : v = 4
      · subst w4
        simp [wp_set, wp_sret, wp_sretO, wp_expr, wp_for, wp_sif, wp_mif, wp_mand, wp_mor, wp_mnot, wp_mtest, wp_bnd, wp_ret, wp_some, wp_mcons, wp_nx, wp_bk, wp_ct, wp_asg, wp_mlc, wp_molc, wp_mcomp, wp_callV, wp_callO, wp_macons, wpr_maown, anQ_own, wpr_aug, auQ_val, wpr, rdQ_val, rdQ_own, wpr_rdO, wpr_wrOp, wpr_mopO, wpr_mmut, wpr_setI, owQ_own, wp_setO, wp_tup, wp_lst, wp_olst, wp_list, wp_tuple, wp_range1, wp_range2, wp_part, wp_slice, wp_tru, wp_andV, wp_orV, wp_notV, seqQ_rt, seqQ_ro, seqQ_bk, seqQ_ct, gath, scat, scat1, pos, ownAt, clQ_nx, clQ_rt, clQ_ro, lpQ_nx, lpQ_ct, lpQ_bk, lpQ_rt, lpQ_ro, mrg1, q_I0, q_I, q_ixL, q_ixT, q_ixO, q_lenL, q_lenT, q_lenO, q_sum, q_listL, q_listT, q_abs, q_max2, q_min2, q_slL, q_neg, q_append, q_setI, q_cMul, q_cDiv, q_cPos, q_cPow, at0, at1, at2, at3, at4, at5, ix0, ix1, okW, isOwn, wipeR, restR, wp_chain, wp_zip, wp_enum, wp_str, wp_slO, wp_rdON, wp_put, wp_swap, wp_str0, wp_mownS, wp_keys, wp_mdcomp, endQ_nx, endQ_rt, endO_ro, q_isiI, q_isiB, q_isiS, q_isiT, q_isiL, q_isiTL, q_all, q_any, q_ltS, q_addS, q_inS, q_ninS, q_lenS, q_lenD, q_zipT, q_zipL, q_catT, q_catL, q_slT, q_slS, q_tupleL, q_tupleT, q_tupO, q_lstO, q_listNL, q_listNT, q_insert, q_upper, q_nu2I, q_nu2B, q_nu1I, q_nu1B, q_strI, q_strB, q_strS, q_ixA_T, q_ixA_L, q_ixA_S, q_ixS, q_eqII, q_neII, q_eqSS, q_neSS, q_eqBB, q_neBB, q_dgetS, q_dgetI, q_dinS, q_dinI, at6, at7, gT, gsCons, gsNil, gN, keyOfD, someQ_some, someQ_if, someQ_map, q_allM, q_anyM, i_BN, i_BB, i_BI, i_BS, i_BL, i_BT, i_BD, i_IN, i_IB, i_II, i_IS, i_IL, i_IT, i_ID, i_SN, i_SB, i_SI, i_SS, i_SL, i_ST, i_SD, i_TN, i_TB, i_TI, i_TS, i_TL, i_TT, i_TD, i_LN, i_LB, i_LI, i_LS, i_LL, i_LT, i_LD, sizeLine_eq]
        exact fin ds false _ _ (by omega) old
      simp [wp_set, wp_sret, wp_sretO, wp_expr, wp_for, wp_sif, wp_mif, wp_mand, wp_mor, wp_mnot, wp_mtest, wp_bnd, wp_ret, wp_some, wp_mcons, wp_nx, wp_bk, wp_ct, wp_asg, wp_mlc, wp_molc, wp_mcomp, wp_callV, wp_callO, wp_macons, wpr_maown, anQ_own, wpr_aug, auQ_val, wpr, rdQ_val, rdQ_own, wpr_rdO, wpr_wrOp, wpr_mopO, wpr_mmut, wpr_setI, owQ_own, wp_setO, wp_tup, wp_lst, wp_olst, wp_list, wp_tuple, wp_range1, wp_range2, wp_part, wp_slice, wp_tru, wp_andV, wp_orV, wp_notV, seqQ_rt, seqQ_ro, seqQ_bk, seqQ_ct, gath, scat, scat1, pos, ownAt, clQ_nx, clQ_rt, clQ_ro, lpQ_nx, lpQ_ct, lpQ_bk, lpQ_rt, lpQ_ro, mrg1, q_I0, q_I, q_ixL, q_ixT, q_ixO, q_lenL, q_lenT, q_lenO, q_sum, q_listL, q_listT, q_abs, q_max2, q_min2, q_slL, q_neg, q_append, q_setI, q_cMul, q_cDiv, q_cPos, q_cPow, at0, at1, at2, at3, at4, at5, ix0, ix1, okW, isOwn, wipeR, restR, wp_chain, wp_zip, wp_enum, wp_str, wp_slO, wp_rdON, wp_put, wp_swap, wp_str0, wp_mownS, wp_keys, wp_mdcomp, endQ_nx, endQ_rt, endO_ro, q_isiI, q_isiB, q_isiS, q_isiT, q_isiL, q_isiTL, q_all, q_any, q_ltS, q_addS, q_inS, q_ninS, q_lenS, q_lenD, q_zipT, q_zipL, q_catT, q_catL, q_slT, q_slS, q_tupleL, q_tupleT, q_tupO, q_lstO, q_listNL, q_listNT, q_insert, q_upper, q_nu2I, q_nu2B, q_nu1I, q_nu1B, q_strI, q_strB, q_strS, q_ixA_T, q_ixA_L, q_ixA_S, q_ixS, q_eqII, q_neII, q_eqSS, q_neSS, q_eqBB, q_neBB, q_dgetS, q_dgetI, q_dinS, q_dinI, at6, at7, gT, gsCons, gsNil, gN, keyOfD, someQ_some, someQ_if, someQ_map, q_allM, q_anyM, i_BN, i_BB, i_BI, i_BS, i_BL, i_BT, i_BD, i_IN, i_IB, i_II, i_IS, i_IL, i_IT, i_ID, i_SN, i_SB, i_SI, i_SS, i_SL, i_ST, i_SD, i_TN, i_TB, i_TI, i_TS, i_TL, i_TT, i_TD, i_LN, i_LB, i_LI, i_LS, i_LL, i_LT, i_LD, sizeLine_eq, w1, w2, w3, w4, hat]
      refine ih k x a b (hds x hx) hk (by have := hdd x hx; omega) fun d' a' b' o1 o2 => ?_
      simp [wp_set, wp_sret, wp_sretO, wp_expr, wp_for, wp_sif, wp_mif, wp_mand, wp_mor, wp_mnot, wp_mtest, wp_bnd, wp_ret, wp_some, wp_mcons, wp_nx, wp_bk, wp_ct, wp_asg, wp_mlc, wp_molc, wp_mcomp, wp_callV, wp_callO, wp_macons, wpr_maown, anQ_own, wpr_aug, auQ_val, wpr, rdQ_val, rdQ_own, wpr_rdO, wpr_wrOp, wpr_mopO, wpr_mmut, wpr_setI, owQ_own, wp_setO, wp_tup, wp_lst, wp_olst, wp_list, wp_tuple, wp_range1, wp_range2, wp_part, wp_slice, wp_tru, wp_andV, wp_orV, wp_notV, seqQ_rt, seqQ_ro, seqQ_bk, seqQ_ct, gath, scat, scat1, pos, ownAt, clQ_nx, clQ_rt, clQ_ro, lpQ_nx, lpQ_ct, lpQ_bk, lpQ_rt, lpQ_ro, mrg1, q_I0, q_I, q_ixL, q_ixT, q_ixO, q_lenL, q_lenT, q_lenO, q_sum, q_listL, q_listT, q_abs, q_max2, q_min2, q_slL, q_neg, q_append, q_setI, q_cMul, q_cDiv, q_cPos, q_cPow, at0, at1, at2, at3, at4, at5, ix0, ix1, okW, isOwn, wipeR, restR, wp_chain, wp_zip, wp_enum, wp_str, wp_slO, wp_rdON, wp_put, wp_swap, wp_str0, wp_mownS, wp_keys, wp_mdcomp, endQ_nx, endQ_rt, endO_ro, q_isiI, q_isiB, q_isiS, q_isiT, q_isiL, q_isiTL, q_all, q_any, q_ltS, q_addS, q_inS, q_ninS, q_lenS, q_lenD, q_zipT, q_zipL, q_catT, q_catL, q_slT, q_slS, q_tupleL, q_tupleT, q_tupO, q_lstO, q_listNL, q_listNT, q_insert, q_upper, q_nu2I, q_nu2B, q_nu1I, q_nu1B, q_strI, q_strB, q_strS, q_ixA_T, q_ixA_L, q_ixA_S, q_ixS, q_eqII, q_neII, q_eqSS, q_neSS, q_eqBB, q_neBB, q_dgetS, q_dgetI, q_dinS, q_dinI, at6, at7, gT, gsCons, gsNil, gN, keyOfD, someQ_some, someQ_if, someQ_map, q_allM, q_anyM, i_BN, i_BB, i_BI, i_BS, i_BL, i_BT, i_BD, i_IN, i_IB, i_II, i_IS, i_IL, i_IT, i_ID, i_SN, i_SB, i_SI, i_SS, i_SL, i_ST, i_SD, i_TN, i_TB, i_TI, i_TS, i_TL, i_TT, i_TD, i_LN, i_LB, i_LI, i_LS, i_LL, i_LT, i_LD, sizeLine_eq, hix]
      rw [seqQ_nx]
      simp [wp_set, wp_sret, wp_sretO, wp_expr, wp_for, wp_sif, wp_mif, wp_mand, wp_mor, wp_mnot, wp_mtest, wp_bnd, wp_ret, wp_some, wp_mcons, wp_nx, wp_bk, wp_ct, wp_asg, wp_mlc, wp_molc, wp_mcomp, wp_callV, wp_callO, wp_macons, wpr_maown, anQ_own, wpr_aug, auQ_val, wpr, rdQ_val, rdQ_own, wpr_rdO, wpr_wrOp, wpr_mopO, wpr_mmut, wpr_setI, owQ_own, wp_setO, wp_tup, wp_lst, wp_olst, wp_list, wp_tuple, wp_range1, wp_range2, wp_part, wp_slice, wp_tru, wp_andV, wp_orV, wp_notV, seqQ_rt, seqQ_ro, seqQ_bk, seqQ_ct, gath, scat, scat1, pos, ownAt, clQ_nx, clQ_rt, clQ_ro, lpQ_nx, lpQ_ct, lpQ_bk, lpQ_rt, lpQ_ro, mrg1, q_I0, q_I, q_ixL, q_ixT, q_ixO, q_lenL, q_lenT, q_lenO, q_sum, q_listL, q_listT, q_abs, q_max2, q_min2, q_slL, q_neg, q_append, q_setI, q_cMul, q_cDiv, q_cPos, q_cPow, at0, at1, at2, at3, at4, at5, ix0, ix1, okW, isOwn, wipeR, restR, wp_chain, wp_zip, wp_enum, wp_str, wp_slO, wp_rdON, wp_put, wp_swap, wp_str0, wp_mownS, wp_keys, wp_mdcomp, endQ_nx, endQ_rt, endO_ro, q_isiI, q_isiB, q_isiS, q_isiT, q_isiL, q_isiTL, q_all, q_any, q_ltS, q_addS, q_inS, q_ninS, q_lenS, q_lenD, q_zipT, q_zipL, q_catT, q_catL, q_slT, q_slS, q_tupleL, q_tupleT, q_tupO, q_lstO, q_listNL, q_listNT, q_insert, q_upper, q_nu2I, q_nu2B, q_nu1I, q_nu1B, q_strI, q_strB, q_strS, q_ixA_T, q_ixA_L, q_ixA_S, q_ixS, q_eqII, q_neII, q_eqSS, q_neSS, q_eqBB, q_neBB, q_dgetS, q_dgetI, q_dinS, q_dinI, at6, at7, gT, gsCons, gsNil, gN, keyOfD, someQ_some, someQ_if, someQ_map, q_allM, q_anyM, i_BN, i_BB, i_BI, i_BS, i_BL, i_BT, i_BD, i_IN, i_IB, i_II, i_IS, i_IL, i_IT, i_ID, i_SN, i_SB, i_SI, i_SS, i_SL, i_ST, i_SD, i_TN, i_TB, i_TI, i_TS, i_TL, i_TT, i_TD, i_LN, i_LB, i_LI, i_LS, i_LL, i_LT, i_LD, sizeLine_eq, seqQ_rt]
      refine fin _ true _ _ (by simp; omega) fun y hy => ?_
      rcases mem_set hy with hy | rfl
      · exact old y hy
      · exact ⟨o1, by have := hdd x hx; omega⟩
    | list ds =>
      obtain ⟨hl, hds⟩ := okB_lst.mp hok
      have hdd : ∀ x ∈ ds, x.depth ≤ PyData.depthAll ds := fun x hx => depth_mem hx
      rw [PyData.depth] at hn
      have fin : ∀ (es : List D) (c : Bool) (a1 b1 : Int), es.length ≤ 100 + (k + 1) → (∀ x ∈ es, okB (k + 1) x = true ∧ x.depth ≤ PyData.depthAll ds + 3) → Q (if c then .tuple es else .list es) [bagS a1 b1, .val (.list ds)] := by
        intro es c a1 b1 h1 h2
        have hdep : PyData.depthAll es ≤ PyData.depthAll ds + 3 := depthAll_le fun x hx => (h2 x hx).2
        cases c
        · show Q (.list es) _
          exact h _ _ _ (okB_lst.mpr ⟨h1, fun x hx => (h2 x hx).1⟩) (by rw [PyData.depth, PyData.depth]; omega)
        · show Q (.tuple es) _
          exact h _ _ _ (okB_tup.mpr ⟨h1, fun x hx => (h2 x hx).1⟩) (by rw [PyData.depth, PyData.depth]; omega)
      have old : ∀ x ∈ ds, okB (k + 1) x = true ∧ x.depth ≤ PyData.depthAll ds + 3 := fun x hx => ⟨okB_mono k (k + 1) (by omega) x (hds x hx), by have := hdd x hx; omega⟩
      by_cases hc : 0 < ds.length ∧ 0 < v
      case neg =>
        by_cases hc0 : 0 < ds.length
        · have hc3 : ¬ 0 < v := fun z => hc ⟨hc0, z⟩
          simp [wp_set, wp_sret, wp_sretO, wp_expr, wp_for, wp_sif, wp_mif, wp_mand, wp_mor, wp_mnot, wp_mtest, wp_bnd, wp_ret, wp_some, wp_mcons, wp_nx, wp_bk, wp_ct, wp_asg, wp_mlc, wp_molc, wp_mcomp, wp_callV, wp_callO, wp_macons, wpr_maown, anQ_own, wpr_aug, auQ_val, wpr, rdQ_val, rdQ_own, wpr_rdO, wpr_wrOp, wpr_mopO, wpr_mmut, wpr_setI, owQ_own, wp_setO, wp_tup, wp_lst, wp_olst, wp_list, wp_tuple, wp_range1, wp_range2, wp_part, wp_slice, wp_tru, wp_andV, wp_orV, wp_notV, seqQ_rt, seqQ_ro, seqQ_bk, seqQ_ct, gath, scat, scat1, pos, ownAt, clQ_nx, clQ_rt, clQ_ro, lpQ_nx, lpQ_ct, lpQ_bk, lpQ_rt, lpQ_ro, mrg1, q_I0, q_I, q_ixL, q_ixT, q_ixO, q_lenL, q_lenT, q_lenO, q_sum, q_listL, q_listT, q_abs, q_max2, q_min2, q_slL, q_neg, q_append, q_setI, q_cMul, q_cDiv, q_cPos, q_cPow, at0, at1, at2, at3, at4, at5, ix0, ix1, okW, isOwn, wipeR, restR, wp_chain, wp_zip, wp_enum, wp_str, wp_slO, wp_rdON, wp_put, wp_swap, wp_str0, wp_mownS, wp_keys, wp_mdcomp, endQ_nx, endQ_rt, endO_ro, q_isiI, q_isiB, q_isiS, q_isiT, q_isiL, q_isiTL, q_all, q_any, q_ltS, q_addS, q_inS, q_ninS, q_lenS, q_lenD, q_zipT, q_zipL, q_catT, q_catL, q_slT, q_slS, q_tupleL, q_tupleT, q_tupO, q_lstO, q_listNL, q_listNT, q_insert, q_upper, q_nu2I, q_nu2B, q_nu1I, q_nu1B, q_strI, q_strB, q_strS, q_ixA_T, q_ixA_L, q_ixA_S, q_ixS, q_eqII, q_neII, q_eqSS, q_neSS, q_eqBB, q_neBB, q_dgetS, q_dgetI, q_dinS, q_dinI, at6, at7, gT, gsCons, gsNil, gN, keyOfD, someQ_some, someQ_if, someQ_map, q_allM, q_anyM, i_BN, i_BB, i_BI, i_BS, i_BL, i_BT, i_BD, i_IN, i_IB, i_II, i_IS, i_IL, i_IT, i_ID, i_SN, i_SB, i_SI, i_SS, i_SL, i_ST, i_SD, i_TN, i_TB, i_TI, i_TS, i_TL, i_TT, i_TD, i_LN, i_LB, i_LI, i_LS, i_LL, i_LT, i_LD, sizeLine_eq, hc0, hc3]
          rw [seqQ_nx, wp_seq]
          simp [wp_set, wp_sret, wp_sretO, wp_expr, wp_for, wp_sif, wp_mif, wp_mand, wp_mor, wp_mnot, wp_mtest, wp_bnd, wp_ret, wp_some, wp_mcons, wp_nx, wp_bk, wp_ct, wp_asg, wp_mlc, wp_molc, wp_mcomp, wp_callV, wp_callO, wp_macons, wpr_maown, anQ_own, wpr_aug, auQ_val, wpr, rdQ_val, rdQ_own, wpr_rdO, wpr_wrOp, wpr_mopO, wpr_mmut, wpr_setI, owQ_own, wp_setO, wp_tup, wp_lst, wp_olst, wp_list, wp_tuple, wp_range1, wp_range2, wp_part, wp_slice, wp_tru, wp_andV, wp_orV, wp_notV, seqQ_rt, seqQ_ro, seqQ_bk, seqQ_ct, gath, scat, scat1, pos, ownAt, clQ_nx, clQ_rt, clQ_ro, lpQ_nx, lpQ_ct, lpQ_bk, lpQ_rt, lpQ_ro, mrg1, q_I0, q_I, q_ixL, q_ixT, q_ixO, q_lenL, q_lenT, q_lenO, q_sum, q_listL, q_listT, q_abs, q_max2, q_min2, q_slL, q_neg, q_append, q_setI, q_cMul, q_cDiv, q_cPos, q_cPow, at0, at1, at2, at3, at4, at5, ix0, ix1, okW, isOwn, wipeR, restR, wp_chain, wp_zip, wp_enum, wp_str, wp_slO, wp_rdON, wp_put, wp_swap, wp_str0, wp_mownS, wp_keys, wp_mdcomp, endQ_nx, endQ_rt, endO_ro, q_isiI, q_isiB, q_isiS, q_isiT, q_isiL, q_isiTL, q_all, q_any, q_ltS, q_addS, q_inS, q_ninS, q_lenS, q_lenD, q_zipT, q_zipL, q_catT, q_catL, q_slT, q_slS, q_tupleL, q_tupleT, q_tupO, q_lstO, q_listNL, q_listNT, q_insert, q_upper, q_nu2I, q_nu2B, q_nu1I, q_nu1B, q_strI, q_strB, q_strS, q_ixA_T, q_ixA_L, q_ixA_S, q_ixS, q_eqII, q_neII, q_eqSS, q_neSS, q_eqBB, q_neBB, q_dgetS, q_dgetI, q_dinS, q_dinI, at6, at7, gT, gsCons, gsNil, gN, keyOfD, someQ_some, someQ_if, someQ_map, q_allM, q_anyM, i_BN, i_BB, i_BI, i_BS, i_BL, i_BT, i_BD, i_IN, i_IB, i_II, i_IS, i_IL, i_IT, i_ID, i_SN, i_SB, i_SI, i_SS, i_SL, i_ST, i_SD, i_TN, i_TB, i_TI, i_TS, i_TL, i_TT, i_TD, i_LN, i_LB, i_LI, i_LS, i_LL, i_LT, i_LD, sizeLine_eq]
          rw [seqQ_nx, wp_seq]
          simp [wp_set, wp_sret, wp_sretO, wp_expr, wp_for, wp_sif, wp_mif, wp_mand, wp_mor, wp_mnot, wp_mtest, wp_bnd, wp_ret, wp_some, wp_mcons, wp_nx, wp_bk, wp_ct, wp_asg, wp_mlc, wp_molc, wp_mcomp, wp_callV, wp_callO, wp_macons, wpr_maown, anQ_own, wpr_aug, auQ_val, wpr, rdQ_val, rdQ_own, wpr_rdO, wpr_wrOp, wpr_mopO, wpr_mmut, wpr_setI, owQ_own, wp_setO, wp_tup, wp_lst, wp_olst, wp_list, wp_tuple, wp_range1, wp_range2, wp_part, wp_slice, wp_tru, wp_andV, wp_orV, wp_notV, seqQ_rt, seqQ_ro, seqQ_bk, seqQ_ct, gath, scat, scat1, pos, ownAt, clQ_nx, clQ_rt, clQ_ro, lpQ_nx, lpQ_ct, lpQ_bk, lpQ_rt, lpQ_ro, mrg1, q_I0, q_I, q_ixL, q_ixT, q_ixO, q_lenL, q_lenT, q_lenO, q_sum, q_listL, q_listT, q_abs, q_max2, q_min2, q_slL, q_neg, q_append, q_setI, q_cMul, q_cDiv, q_cPos, q_cPow, at0, at1, at2, at3, at4, at5, ix0, ix1, okW, isOwn, wipeR, restR, wp_chain, wp_zip, wp_enum, wp_str, wp_slO, wp_rdON, wp_put, wp_swap, wp_str0, wp_mownS, wp_keys, wp_mdcomp, endQ_nx, endQ_rt, endO_ro, q_isiI, q_isiB, q_isiS, q_isiT, q_isiL, q_isiTL, q_all, q_any, q_ltS, q_addS, q_inS, q_ninS, q_lenS, q_lenD, q_zipT, q_zipL, q_catT, q_catL, q_slT, q_slS, q_tupleL, q_tupleT, q_tupO, q_lstO, q_listNL, q_listNT, q_insert, q_upper, q_nu2I, q_nu2B, q_nu1I, q_nu1B, q_strI, q_strB, q_strS, q_ixA_T, q_ixA_L, q_ixA_S, q_ixS, q_eqII, q_neII, q_eqSS, q_neSS, q_eqBB, q_neBB, q_dgetS, q_dgetI, q_dinS, q_dinI, at6, at7, gT, gsCons, gsNil, gN, keyOfD, someQ_some, someQ_if, someQ_map, q_allM, q_anyM, i_BN, i_BB, i_BI, i_BS, i_BL, i_BT, i_BD, i_IN, i_IB, i_II, i_IS, i_IL, i_IT, i_ID, i_SN, i_SB, i_SI, i_SS, i_SL, i_ST, i_SD, i_TN, i_TB, i_TI, i_TS, i_TL, i_TT, i_TD, i_LN, i_LB, i_LI, i_LS, i_LL, i_LT, i_LD, sizeLine_eq]
          exact hodd (σ := [_, _, _, _])
        · simp [wp_set, wp_sret, wp_sretO, wp_expr, wp_for, wp_sif, wp_mif, wp_mand, wp_mor, wp_mnot, wp_mtest, wp_bnd, wp_ret, wp_some, wp_mcons, wp_nx, wp_bk, wp_ct, wp_asg, wp_mlc, wp_molc, wp_mcomp, wp_callV, wp_callO, wp_macons, wpr_maown, anQ_own, wpr_aug, auQ_val, wpr, rdQ_val, rdQ_own, wpr_rdO, wpr_wrOp, wpr_mopO, wpr_mmut, wpr_setI, owQ_own, wp_setO, wp_tup, wp_lst, wp_olst, wp_list, wp_tuple, wp_range1, wp_range2, wp_part, wp_slice, wp_tru, wp_andV, wp_orV, wp_notV, seqQ_rt, seqQ_ro, seqQ_bk, seqQ_ct, gath, scat, scat1, pos, ownAt, clQ_nx, clQ_rt, clQ_ro, lpQ_nx, lpQ_ct, lpQ_bk, lpQ_rt, lpQ_ro, mrg1, q_I0, q_I, q_ixL, q_ixT, q_ixO, q_lenL, q_lenT, q_lenO, q_sum, q_listL, q_listT, q_abs, q_max2, q_min2, q_slL, q_neg, q_append, q_setI, q_cMul, q_cDiv, q_cPos, q_cPow, at0, at1, at2, at3, at4, at5, ix0, ix1, okW, isOwn, wipeR, restR, wp_chain, wp_zip, wp_enum, wp_str, wp_slO, wp_rdON, wp_put, wp_swap, wp_str0, wp_mownS, wp_keys, wp_mdcomp, endQ_nx, endQ_rt, endO_ro, q_isiI, q_isiB, q_isiS, q_isiT, q_isiL, q_isiTL, q_all, q_any, q_ltS, q_addS, q_inS, q_ninS, q_lenS, q_lenD, q_zipT, q_zipL, q_catT, q_catL, q_slT, q_slS, q_tupleL, q_tupleT, q_tupO, q_lstO, q_listNL, q_listNT, q_insert, q_upper, q_nu2I, q_nu2B, q_nu1I, q_nu1B, q_strI, q_strB, q_strS, q_ixA_T, q_ixA_L, q_ixA_S, q_ixS, q_eqII, q_neII, q_eqSS, q_neSS, q_eqBB, q_neBB, q_dgetS, q_dgetI, q_dinS, q_dinI, at6, at7, gT, gsCons, gsNil, gN, keyOfD, someQ_some, someQ_if, someQ_map, q_allM, q_anyM, i_BN, i_BB, i_BI, i_BS, i_BL, i_BT, i_BD, i_IN, i_IB, i_II, i_IS, i_IL, i_IT, i_ID, i_SN, i_SB, i_SI, i_SS, i_SL, i_ST, i_SD, i_TN, i_TB, i_TI, i_TS, i_TL, i_TT, i_TD, i_LN, i_LB, i_LI, i_LS, i_LL, i_LT, i_LD, sizeLine_eq, hc0]
          rw [seqQ_nx, wp_seq]
          simp [wp_set, wp_sret, wp_sretO, wp_expr, wp_for, wp_sif, wp_mif, wp_mand, wp_mor, wp_mnot, wp_mtest, wp_bnd, wp_ret, wp_some, wp_mcons, wp_nx, wp_bk, wp_ct, wp_asg, wp_mlc, wp_molc, wp_mcomp, wp_callV, wp_callO, wp_macons, wpr_maown, anQ_own, wpr_aug, auQ_val, wpr, rdQ_val, rdQ_own, wpr_rdO, wpr_wrOp, wpr_mopO, wpr_mmut, wpr_setI, owQ_own, wp_setO, wp_tup, wp_lst, wp_olst, wp_list, wp_tuple, wp_range1, wp_range2, wp_part, wp_slice, wp_tru, wp_andV, wp_orV, wp_notV, seqQ_rt, seqQ_ro, seqQ_bk, seqQ_ct, gath, scat, scat1, pos, ownAt, clQ_nx, clQ_rt, clQ_ro, lpQ_nx, lpQ_ct, lpQ_bk, lpQ_rt, lpQ_ro, mrg1, q_I0, q_I, q_ixL, q_ixT, q_ixO, q_lenL, q_lenT, q_lenO, q_sum, q_listL, q_listT, q_abs, q_max2, q_min2, q_slL, q_neg, q_append, q_setI, q_cMul, q_cDiv, q_cPos, q_cPow, at0, at1, at2, at3, at4, at5, ix0, ix1, okW, isOwn, wipeR, restR, wp_chain, wp_zip, wp_enum, wp_str, wp_slO, wp_rdON, wp_put, wp_swap, wp_str0, wp_mownS, wp_keys, wp_mdcomp, endQ_nx, endQ_rt, endO_ro, q_isiI, q_isiB, q_isiS, q_isiT, q_isiL, q_isiTL, q_all, q_any, q_ltS, q_addS, q_inS, q_ninS, q_lenS, q_lenD, q_zipT, q_zipL, q_catT, q_catL, q_slT, q_slS, q_tupleL, q_tupleT, q_tupO, q_lstO, q_listNL, q_listNT, q_insert, q_upper, q_nu2I, q_nu2B, q_nu1I, q_nu1B, q_strI, q_strB, q_strS, q_ixA_T, q_ixA_L, q_ixA_S, q_ixS, q_eqII, q_neII, q_eqSS, q_neSS, q_eqBB, q_neBB, q_dgetS, q_dgetI, q_dinS, q_dinI, at6, at7, gT, gsCons, gsNil, gN, keyOfD, someQ_some, someQ_if, someQ_map, q_allM, q_anyM, i_BN, i_BB, i_BI, i_BS, i_BL, i_BT, i_BD, i_IN, i_IB, i_II, i_IS, i_IL, i_IT, i_ID, i_SN, i_SB, i_SI, i_SS, i_SL, i_ST, i_SD, i_TN, i_TB, i_TI, i_TS, i_TL, i_TT, i_TD, i_LN, i_LB, i_LI, i_LS, i_LL, i_LT, i_LD, sizeLine_eq]
          rw [seqQ_nx, wp_seq]
          simp [wp_set, wp_sret, wp_sretO, wp_expr, wp_for, wp_sif, wp_mif, wp_mand, wp_mor, wp_mnot, wp_mtest, wp_bnd, wp_ret, wp_some, wp_mcons, wp_nx, wp_bk, wp_ct, wp_asg, wp_mlc, wp_molc, wp_mcomp, wp_callV, wp_callO, wp_macons, wpr_maown, anQ_own, wpr_aug, auQ_val, wpr, rdQ_val, rdQ_own, wpr_rdO, wpr_wrOp, wpr_mopO, wpr_mmut, wpr_setI, owQ_own, wp_setO, wp_tup, wp_lst, wp_olst, wp_list, wp_tuple, wp_range1, wp_range2, wp_part, wp_slice, wp_tru, wp_andV, wp_orV, wp_notV, seqQ_rt, seqQ_ro, seqQ_bk, seqQ_ct, gath, scat, scat1, pos, ownAt, clQ_nx, clQ_rt, clQ_ro, lpQ_nx, lpQ_ct, lpQ_bk, lpQ_rt, lpQ_ro, mrg1, q_I0, q_I, q_ixL, q_ixT, q_ixO, q_lenL, q_lenT, q_lenO, q_sum, q_listL, q_listT, q_abs, q_max2, q_min2, q_slL, q_neg, q_append, q_setI, q_cMul, q_cDiv, q_cPos, q_cPow, at0, at1, at2, at3, at4, at5, ix0, ix1, okW, isOwn, wipeR, restR, wp_chain, wp_zip, wp_enum, wp_str, wp_slO, wp_rdON, wp_put, wp_swap, wp_str0, wp_mownS, wp_keys, wp_mdcomp, endQ_nx, endQ_rt, endO_ro, q_isiI, q_isiB, q_isiS, q_isiT, q_isiL, q_isiTL, q_all, q_any, q_ltS, q_addS, q_inS, q_ninS, q_lenS, q_lenD, q_zipT, q_zipL, q_catT, q_catL, q_slT, q_slS, q_tupleL, q_tupleT, q_tupO, q_lstO, q_listNL, q_listNT, q_insert, q_upper, q_nu2I, q_nu2B, q_nu1I, q_nu1B, q_strI, q_strB, q_strS, q_ixA_T, q_ixA_L, q_ixA_S, q_ixS, q_eqII, q_neII, q_eqSS, q_neSS, q_eqBB, q_neBB, q_dgetS, q_dgetI, q_dinS, q_dinI, at6, at7, gT, gsCons, gsNil, gN, keyOfD, someQ_some, someQ_if, someQ_map, q_allM, q_anyM, i_BN, i_BB, i_BI, i_BS, i_BL, i_BT, i_BD, i_IN, i_IB, i_II, i_IS, i_IL, i_IT, i_ID, i_SN, i_SB, i_SI, i_SS, i_SL, i_ST, i_SD, i_TN, i_TB, i_TI, i_TS, i_TL, i_TT, i_TD, i_LN, i_LB, i_LI, i_LS, i_LL, i_LT, i_LD, sizeLine_eq]
          exact hodd (σ := [_, _, _, _])
      obtain ⟨hc1, hc2⟩ := hc
      have hle : ds.length ≤ 1000 := by omega
      simp [wp_set, wp_sret, wp_sretO, wp_expr, wp_for, wp_sif, wp_mif, wp_mand, wp_mor, wp_mnot, wp_mtest, wp_bnd, wp_ret, wp_some, wp_mcons, wp_nx, wp_bk, wp_ct, wp_asg, wp_mlc, wp_molc, wp_mcomp, wp_callV, wp_callO, wp_macons, wpr_maown, anQ_own, wpr_aug, auQ_val, wpr, rdQ_val, rdQ_own, wpr_rdO, wpr_wrOp, wpr_mopO, wpr_mmut, wpr_setI, owQ_own, wp_setO, wp_tup, wp_lst, wp_olst, wp_list, wp_tuple, wp_range1, wp_range2, wp_part, wp_slice, wp_tru, wp_andV, wp_orV, wp_notV, seqQ_rt, seqQ_ro, seqQ_bk, seqQ_ct, gath, scat, scat1, pos, ownAt, clQ_nx, clQ_rt, clQ_ro, lpQ_nx, lpQ_ct, lpQ_bk, lpQ_rt, lpQ_ro, mrg1, q_I0, q_I, q_ixL, q_ixT, q_ixO, q_lenL, q_lenT, q_lenO, q_sum, q_listL, q_listT, q_abs, q_max2, q_min2, q_slL, q_neg, q_append, q_setI, q_cMul, q_cDiv, q_cPos, q_cPow, at0, at1, at2, at3, at4, at5, ix0, ix1, okW, isOwn, wipeR, restR, wp_chain, wp_zip, wp_enum, wp_str, wp_slO, wp_rdON, wp_put, wp_swap, wp_str0, wp_mownS, wp_keys, wp_mdcomp, endQ_nx, endQ_rt, endO_ro, q_isiI, q_isiB, q_isiS, q_isiT, q_isiL, q_isiTL, q_all, q_any, q_ltS, q_addS, q_inS, q_ninS, q_lenS, q_lenD, q_zipT, q_zipL, q_catT, q_catL, q_slT, q_slS, q_tupleL, q_tupleT, q_tupO, q_lstO, q_listNL, q_listNT, q_insert, q_upper, q_nu2I, q_nu2B, q_nu1I, q_nu1B, q_strI, q_strB, q_strS, q_ixA_T, q_ixA_L, q_ixA_S, q_ixS, q_eqII, q_neII, q_eqSS, q_neSS, q_eqBB, q_neBB, q_dgetS, q_dgetI, q_dinS, q_dinI, at6, at7, gT, gsCons, gsNil, gN, keyOfD, someQ_some, someQ_if, someQ_map, q_allM, q_anyM, i_BN, i_BB, i_BI, i_BS, i_BL, i_BT, i_BD, i_IN, i_IB, i_II, i_IS, i_IL, i_IT, i_ID, i_SN, i_SB, i_SI, i_SS, i_SL, i_ST, i_SD, i_TN, i_TB, i_TI, i_TS, i_TL, i_TT, i_TD, i_LN, i_LB, i_LI, i_LS, i_LL, i_LT, i_LD, sizeLine_eq, hc1, hc2]
      rw [wp_seq]
      simp [wp_set, wp_sret, wp_sretO, wp_expr, wp_for, wp_sif, wp_mif, wp_mand, wp_mor, wp_mnot, wp_mtest, wp_bnd, wp_ret, wp_some, wp_mcons, wp_nx, wp_bk, wp_ct, wp_asg, wp_mlc, wp_molc, wp_mcomp, wp_callV, wp_callO, wp_macons, wpr_maown, anQ_own, wpr_aug, auQ_val, wpr, rdQ_val, rdQ_own, wpr_rdO, wpr_wrOp, wpr_mopO, wpr_mmut, wpr_setI, owQ_own, wp_setO, wp_tup, wp_lst, wp_olst, wp_list, wp_tuple, wp_range1, wp_range2, wp_part, wp_slice, wp_tru, wp_andV, wp_orV, wp_notV, seqQ_rt, seqQ_ro, seqQ_bk, seqQ_ct, gath, scat, scat1, pos, ownAt, clQ_nx, clQ_rt, clQ_ro, lpQ_nx, lpQ_ct, lpQ_bk, lpQ_rt, lpQ_ro, mrg1, q_I0, q_I, q_ixL, q_ixT, q_ixO, q_lenL, q_lenT, q_lenO, q_sum, q_listL, q_listT, q_abs, q_max2, q_min2, q_slL, q_neg, q_append, q_setI, q_cMul, q_cDiv, q_cPos, q_cPow, at0, at1, at2, at3, at4, at5, ix0, ix1, okW, isOwn, wipeR, restR, wp_chain, wp_zip, wp_enum, wp_str, wp_slO, wp_rdON, wp_put, wp_swap, wp_str0, wp_mownS, wp_keys, wp_mdcomp, endQ_nx, endQ_rt, endO_ro, q_isiI, q_isiB, q_isiS, q_isiT, q_isiL, q_isiTL, q_all, q_any, q_ltS, q_addS, q_inS, q_ninS, q_lenS, q_lenD, q_zipT, q_zipL, q_catT, q_catL, q_slT, q_slS, q_tupleL, q_tupleT, q_tupO, q_lstO, q_listNL, q_listNT, q_insert, q_upper, q_nu2I, q_nu2B, q_nu1I, q_nu1B, q_strI, q_strB, q_strS, q_ixA_T, q_ixA_L, q_ixA_S, q_ixS, q_eqII, q_neII, q_eqSS, q_neSS, q_eqBB, q_neBB, q_dgetS, q_dgetI, q_dinS, q_dinI, at6, at7, gT, gsCons, gsNil, gN, keyOfD, someQ_some, someQ_if, someQ_map, q_allM, q_anyM, i_BN, i_BB, i_BI, i_BS, i_BL, i_BT, i_BD, i_IN, i_IB, i_II, i_IS, i_IL, i_IT, i_ID, i_SN, i_SB, i_SI, i_SS, i_SL, i_ST, i_SD, i_TN, i_TB, i_TI, i_TS, i_TL, i_TT, i_TD, i_LN, i_LB, i_LI, i_LS, i_LL, i_LT, i_LD, sizeLine_eq]
      rw [seqQ_nx, wp_seq]
      simp [wp_set, wp_sret, wp_sretO, wp_expr, wp_for, wp_sif, wp_mif, wp_mand, wp_mor, wp_mnot, wp_mtest, wp_bnd, wp_ret, wp_some, wp_mcons, wp_nx, wp_bk, wp_ct, wp_asg, wp_mlc, wp_molc, wp_mcomp, wp_callV, wp_callO, wp_macons, wpr_maown, anQ_own, wpr_aug, auQ_val, wpr, rdQ_val, rdQ_own, wpr_rdO, wpr_wrOp, wpr_mopO, wpr_mmut, wpr_setI, owQ_own, wp_setO, wp_tup, wp_lst, wp_olst, wp_list, wp_tuple, wp_range1, wp_range2, wp_part, wp_slice, wp_tru, wp_andV, wp_orV, wp_notV, seqQ_rt, seqQ_ro, seqQ_bk, seqQ_ct, gath, scat, scat1, pos, ownAt, clQ_nx, clQ_rt, clQ_ro, lpQ_nx, lpQ_ct, lpQ_bk, lpQ_rt, lpQ_ro, mrg1, q_I0, q_I, q_ixL, q_ixT, q_ixO, q_lenL, q_lenT, q_lenO, q_sum, q_listL, q_listT, q_abs, q_max2, q_min2, q_slL, q_neg, q_append, q_setI, q_cMul, q_cDiv, q_cPos, q_cPow, at0, at1, at2, at3, at4, at5, ix0, ix1, okW, isOwn, wipeR, restR, wp_chain, wp_zip, wp_enum, wp_str, wp_slO, wp_rdON, wp_put, wp_swap, wp_str0, wp_mownS, wp_keys, wp_mdcomp, endQ_nx, endQ_rt, endO_ro, q_isiI, q_isiB, q_isiS, q_isiT, q_isiL, q_isiTL, q_all, q_any, q_ltS, q_addS, q_inS, q_ninS, q_lenS, q_lenD, q_zipT, q_zipL, q_catT, q_catL, q_slT, q_slS, q_tupleL, q_tupleT, q_tupO, q_lstO, q_listNL, q_listNT, q_insert, q_upper, q_nu2I, q_nu2B, q_nu1I, q_nu1B, q_strI, q_strB, q_strS, q_ixA_T, q_ixA_L, q_ixA_S, q_ixS, q_eqII, q_neII, q_eqSS, q_neSS, q_eqBB, q_neBB, q_dgetS, q_dgetI, q_dinS, q_dinI, at6, at7, gT, gsCons, gsNil, gN, keyOfD, someQ_some, someQ_if, someQ_map, q_allM, q_anyM, i_BN, i_BB, i_BI, i_BS, i_BL, i_BT, i_BD, i_IN, i_IB, i_II, i_IS, i_IL, i_IT, i_ID, i_SN, i_SB, i_SI, i_SS, i_SL, i_ST, i_SD, i_TN, i_TB, i_TI, i_TS, i_TL, i_TT, i_TD, i_LN, i_LB, i_LI, i_LS, i_LL, i_LT, i_LD, sizeLine_eq]
      refine take_step (by omega) fun at_ a b g0 g1 => ?_
      obtain ⟨j, x, rfl, hj, hjx, hx, hat, hix⟩ := at_mem g0 g1
      simp [wp_set, wp_sret, wp_sretO, wp_expr, wp_for, wp_sif, wp_mif, wp_mand, wp_mor, wp_mnot, wp_mtest, wp_bnd, wp_ret, wp_some, wp_mcons, wp_nx, wp_bk, wp_ct, wp_asg, wp_mlc, wp_molc, wp_mcomp, wp_callV, wp_callO, wp_macons, wpr_maown, anQ_own, wpr_aug, auQ_val, wpr, rdQ_val, rdQ_own, wpr_rdO, wpr_wrOp, wpr_mopO, wpr_mmut, wpr_setI, owQ_own, wp_setO, wp_tup, wp_lst, wp_olst, wp_list, wp_tuple, wp_range1, wp_range2, wp_part, wp_slice, wp_tru, wp_andV, wp_orV, wp_notV, seqQ_rt, seqQ_ro, seqQ_bk, seqQ_ct, gath, scat, scat1, pos, ownAt, clQ_nx, clQ_rt, clQ_ro, lpQ_nx, lpQ_ct, lpQ_bk, lpQ_rt, lpQ_ro, mrg1, q_I0, q_I, q_ixL, q_ixT, q_ixO, q_lenL, q_lenT, q_lenO, q_sum, q_listL, q_listT, q_abs, q_max2, q_min2, q_slL, q_neg, q_append, q_setI, q_cMul, q_cDiv, q_cPos, q_cPow, at0, at1, at2, at3, at4, at5, ix0, ix1, okW, isOwn, wipeR, restR, wp_chain, wp_zip, wp_enum, wp_str, wp_slO, wp_rdON, wp_put, wp_swap, wp_str0, wp_mownS, wp_keys, wp_mdcomp, endQ_nx, endQ_rt, endO_ro, q_isiI, q_isiB, q_isiS, q_isiT, q_isiL, q_isiTL, q_all, q_any, q_ltS, q_addS, q_inS, q_ninS, q_lenS, q_lenD, q_zipT, q_zipL, q_catT, q_catL, q_slT, q_slS, q_tupleL, q_tupleT, q_tupO, q_lstO, q_listNL, q_listNT, q_insert, q_upper, q_nu2I, q_nu2B, q_nu1I, q_nu1B, q_strI, q_strB, q_strS, q_ixA_T, q_ixA_L, q_ixA_S, q_ixS, q_eqII, q_neII, q_eqSS, q_neSS, q_eqBB, q_neBB, q_dgetS, q_dgetI, q_dinS, q_dinI, at6, at7, gT, gsCons, gsNil, gN, keyOfD, someQ_some, someQ_if, someQ_map, q_allM, q_anyM, i_BN, i_BB, i_BI, i_BS, i_BL, i_BT, i_BD, i_IN, i_IB, i_II, i_IS, i_IL, i_IT, i_ID, i_SN, i_SB, i_SI, i_SS, i_SL, i_ST, i_SD, i_TN, i_TB, i_TI, i_TS, i_TL, i_TT, i_TD, i_LN, i_LB, i_LI, i_LS, i_LL, i_LT, i_LD, sizeLine_eq]
      rw [seqQ_nx, wp_seq]
      by_cases w1 : v = 1
      · subst w1
        simp [wp_set, wp_sret, wp_sretO, wp_expr, wp_for, wp_sif, wp_mif, wp_mand, wp_mor, wp_mnot, wp_mtest, wp_bnd, wp_ret, wp_some, wp_mcons, wp_nx, wp_bk, wp_ct, wp_asg, wp_mlc, wp_molc, wp_mcomp, wp_callV, wp_callO, wp_macons, wpr_maown, anQ_own, wpr_aug, auQ_val, wpr, rdQ_val, rdQ_own, wpr_rdO, wpr_wrOp, wpr_mopO, wpr_mmut, wpr_setI, owQ_own, wp_setO, wp_tup, wp_lst, wp_olst, wp_list, wp_tuple, wp_range1, wp_range2, wp_part, wp_slice, wp_tru, wp_andV, wp_orV, wp_notV, seqQ_rt, seqQ_ro, seqQ_bk, seqQ_ct, gath, scat, scat1, pos, ownAt, clQ_nx, clQ_rt, clQ_ro, lpQ_nx, lpQ_ct, lpQ_bk, lpQ_rt, lpQ_ro, mrg1, q_I0, q_I, q_ixL, q_ixT, q_ixO, q_lenL, q_lenT, q_lenO, q_sum, q_listL, q_listT, q_abs, q_max2, q_min2, q_slL, q_neg, q_append, q_setI, q_cMul, q_cDiv, q_cPos, q_cPow, at0, at1, at2, at3, at4, at5, ix0, ix1, okW, isOwn, wipeR, restR, wp_chain, wp_zip, wp_enum, wp_str, wp_slO, wp_rdON, wp_put, wp_swap, wp_str0, wp_mownS, wp_keys, wp_mdcomp, endQ_nx, endQ_rt, endO_ro, q_isiI, q_isiB, q_isiS, q_isiT, q_isiL, q_isiTL, q_all, q_any, q_ltS, q_addS, q_inS, q_ninS, q_lenS, q_lenD, q_zipT, q_zipL, q_catT, q_catL, q_slT, q_slS, q_tupleL, q_tupleT, q_tupO, q_lstO, q_listNL, q_listNT, q_insert, q_upper, q_nu2I, q_nu2B, q_nu1I, q_nu1B, q_strI, q_strB, q_strS, q_ixA_T, q_ixA_L, q_ixA_S, q_ixS, q_eqII, q_neII, q_eqSS, q_neSS, q_eqBB, q_neBB, q_dgetS, q_dgetI, q_dinS, q_dinI, at6, at7, gT, gsCons, gsNil, gN, keyOfD, someQ_some, someQ_if, someQ_map, q_allM, q_anyM, i_BN, i_BB, i_BI, i_BS, i_BL, i_BT, i_BD, i_IN, i_IB, i_II, i_IS, i_IL, i_IT, i_ID, i_SN, i_SB, i_SI, i_SS, i_SL, i_ST, i_SD, i_TN, i_TB, i_TI, i_TS, i_TL, i_TT, i_TD, i_LN, i_LB, i_LI, i_LS, i_LL, i_LT, i_LD, sizeLine_eq]
        refine ⟨?_, ?_⟩
        · rw [cut_to _ _ (by omega), show (j : Int) + 1 = ((j + 1 : Nat) : Int) by omega, cut_from _ _ (by omega)]; simp; omega
        rw [cut_to _ _ (by omega), show (j : Int) + 1 = ((j + 1 : Nat) : Int) by omega, cut_from _ _ (by omega)]
        rw [seqQ_nx]
        simp [wp_set, wp_sret, wp_sretO, wp_expr, wp_for, wp_sif, wp_mif, wp_mand, wp_mor, wp_mnot, wp_mtest, wp_bnd, wp_ret, wp_some, wp_mcons, wp_nx, wp_bk, wp_ct, wp_asg, wp_mlc, wp_molc, wp_mcomp, wp_callV, wp_callO, wp_macons, wpr_maown, anQ_own, wpr_aug, auQ_val, wpr, rdQ_val, rdQ_own, wpr_rdO, wpr_wrOp, wpr_mopO, wpr_mmut, wpr_setI, owQ_own, wp_setO, wp_tup, wp_lst, wp_olst, wp_list, wp_tuple, wp_range1, wp_range2, wp_part, wp_slice, wp_tru, wp_andV, wp_orV, wp_notV, seqQ_rt, seqQ_ro, seqQ_bk, seqQ_ct, gath, scat, scat1, pos, ownAt, clQ_nx, clQ_rt, clQ_ro, lpQ_nx, lpQ_ct, lpQ_bk, lpQ_rt, lpQ_ro, mrg1, q_I0, q_I, q_ixL, q_ixT, q_ixO, q_lenL, q_lenT, q_lenO, q_sum, q_listL, q_listT, q_abs, q_max2, q_min2, q_slL, q_neg, q_append, q_setI, q_cMul, q_cDiv, q_cPos, q_cPow, at0, at1, at2, at3, at4, at5, ix0, ix1, okW, isOwn, wipeR, restR, wp_chain, wp_zip, wp_enum, wp_str, wp_slO, wp_rdON, wp_put, wp_swap, wp_str0, wp_mownS, wp_keys, wp_mdcomp, endQ_nx, endQ_rt, endO_ro, q_isiI, q_isiB, q_isiS, q_isiT, q_isiL, q_isiTL, q_all, q_any, q_ltS, q_addS, q_inS, q_ninS, q_lenS, q_lenD, q_zipT, q_zipL, q_catT, q_catL, q_slT, q_slS, q_tupleL, q_tupleT, q_tupO, q_lstO, q_listNL, q_listNT, q_insert, q_upper, q_nu2I, q_nu2B, q_nu1I, q_nu1B, q_strI, q_strB, q_strS, q_ixA_T, q_ixA_L, q_ixA_S, q_ixS, q_eqII, q_neII, q_eqSS, q_neSS, q_eqBB, q_neBB, q_dgetS, q_dgetI, q_dinS, q_dinI, at6, at7, gT, gsCons, gsNil, gN, keyOfD, someQ_some, someQ_if, someQ_map, q_allM, q_anyM, i_BN, i_BB, i_BI, i_BS, i_BL, i_BT, i_BD, i_IN, i_IB, i_II, i_IS, i_IL, i_IT, i_ID, i_SN, i_SB, i_SI, i_SS, i_SL, i_ST, i_SD, i_TN, i_TB, i_TI, i_TS, i_TL, i_TT, i_TD, i_LN, i_LB, i_LI, i_LS, i_LL, i_LT, i_LD, sizeLine_eq, seqQ_rt]
        refine fin _ false _ _ (by simp; omega) fun x hx => ?_
        rcases List.mem_append.mp hx with hx | hx
        · exact old x (List.mem_of_mem_take hx)
        · exact old x (List.mem_of_mem_drop hx)
      by_cases w2 : v = 2
      · subst w2
        simp [wp_set, wp_sret, wp_sretO, wp_expr, wp_for, wp_sif, wp_mif, wp_mand, wp_mor, wp_mnot, wp_mtest, wp_bnd, wp_ret, wp_some, wp_mcons, wp_nx, wp_bk, wp_ct, wp_asg, wp_mlc, wp_molc, wp_mcomp, wp_callV, wp_callO, wp_macons, wpr_maown, anQ_own, wpr_aug, auQ_val, wpr, rdQ_val, rdQ_own, wpr_rdO, wpr_wrOp, wpr_mopO, wpr_mmut, wpr_setI, owQ_own, wp_setO, wp_tup, wp_lst, wp_olst, wp_list, wp_tuple, wp_range1, wp_range2, wp_part, wp_slice, wp_tru, wp_andV, wp_orV, wp_notV, seqQ_rt, seqQ_ro, seqQ_bk, seqQ_ct, gath, scat, scat1, pos, ownAt, clQ_nx, clQ_rt, clQ_ro, lpQ_nx, lpQ_ct, lpQ_bk, lpQ_rt, lpQ_ro, mrg1, q_I0, q_I, q_ixL, q_ixT, q_ixO, q_lenL, q_lenT, q_lenO, q_sum, q_listL, q_listT, q_abs, q_max2, q_min2, q_slL, q_neg, q_append, q_setI, q_cMul, q_cDiv, q_cPos, q_cPow, at0, at1, at2, at3, at4, at5, ix0, ix1, okW, isOwn, wipeR, restR, wp_chain, wp_zip, wp_enum, wp_str, wp_slO, wp_rdON, wp_put, wp_swap, wp_str0, wp_mownS, wp_keys, wp_mdcomp, endQ_nx, endQ_rt, endO_ro, q_isiI, q_isiB, q_isiS, q_isiT, q_isiL, q_isiTL, q_all, q_any, q_ltS, q_addS, q_inS, q_ninS, q_lenS, q_lenD, q_zipT, q_zipL, q_catT, q_catL, q_slT, q_slS, q_tupleL, q_tupleT, q_tupO, q_lstO, q_listNL, q_listNT, q_insert, q_upper, q_nu2I, q_nu2B, q_nu1I, q_nu1B, q_strI, q_strB, q_strS, q_ixA_T, q_ixA_L, q_ixA_S, q_ixS, q_eqII, q_neII, q_eqSS, q_neSS, q_eqBB, q_neBB, q_dgetS, q_dgetI, q_dinS, q_dinI, at6, at7, gT, gsCons, gsNil, gN, keyOfD, someQ_some, someQ_if, someQ_map, q_allM, q_anyM, i_BN, i_BB, i_BI, i_BS, i_BL, i_BT, i_BD, i_IN, i_IB, i_II, i_IS, i_IL, i_IT, i_ID, i_SN, i_SB, i_SI, i_SS, i_SL, i_ST, i_SD, i_TN, i_TB, i_TI, i_TS, i_TL, i_TT, i_TD, i_LN, i_LB, i_LI, i_LS, i_LL, i_LT, i_LD, sizeLine_eq]
        refine ⟨?_, ?_⟩
        · rw [cut_from _ _ (by omega), show (j : Int) + 1 = ((j + 1 : Nat) : Int) by omega, cut_to _ _ (by omega)]; simp; omega
        rw [cut_from _ _ (by omega), show (j : Int) + 1 = ((j + 1 : Nat) : Int) by omega, cut_to _ _ (by omega)]
        rw [seqQ_nx]
        simp [wp_set, wp_sret, wp_sretO, wp_expr, wp_for, wp_sif, wp_mif, wp_mand, wp_mor, wp_mnot, wp_mtest, wp_bnd, wp_ret, wp_some, wp_mcons, wp_nx, wp_bk, wp_ct, wp_asg, wp_mlc, wp_molc, wp_mcomp, wp_callV, wp_callO, wp_macons, wpr_maown, anQ_own, wpr_aug, auQ_val, wpr, rdQ_val, rdQ_own, wpr_rdO, wpr_wrOp, wpr_mopO, wpr_mmut, wpr_setI, owQ_own, wp_setO, wp_tup, wp_lst, wp_olst, wp_list, wp_tuple, wp_range1, wp_range2, wp_part, wp_slice, wp_tru, wp_andV, wp_orV, wp_notV, seqQ_rt, seqQ_ro, seqQ_bk, seqQ_ct, gath, scat, scat1, pos, ownAt, clQ_nx, clQ_rt, clQ_ro, lpQ_nx, lpQ_ct, lpQ_bk, lpQ_rt, lpQ_ro, mrg1, q_I0, q_I, q_ixL, q_ixT, q_ixO, q_lenL, q_lenT, q_lenO, q_sum, q_listL, q_listT, q_abs, q_max2, q_min2, q_slL, q_neg, q_append, q_setI, q_cMul, q_cDiv, q_cPos, q_cPow, at0, at1, at2, at3, at4, at5, ix0, ix1, okW, isOwn, wipeR, restR, wp_chain, wp_zip, wp_enum, wp_str, wp_slO, wp_rdON, wp_put, wp_swap, wp_str0, wp_mownS, wp_keys, wp_mdcomp, endQ_nx, endQ_rt, endO_ro, q_isiI, q_isiB, q_isiS, q_isiT, q_isiL, q_isiTL, q_all, q_any, q_ltS, q_addS, q_inS, q_ninS, q_lenS, q_lenD, q_zipT, q_zipL, q_catT, q_catL, q_slT, q_slS, q_tupleL, q_tupleT, q_tupO, q_lstO, q_listNL, q_listNT, q_insert, q_upper, q_nu2I, q_nu2B, q_nu1I, q_nu1B, q_strI, q_strB, q_strS, q_ixA_T, q_ixA_L, q_ixA_S, q_ixS, q_eqII, q_neII, q_eqSS, q_neSS, q_eqBB, q_neBB, q_dgetS, q_dgetI, q_dinS, q_dinI, at6, at7, gT, gsCons, gsNil, gN, keyOfD, someQ_some, someQ_if, someQ_map, q_allM, q_anyM, i_BN, i_BB, i_BI, i_BS, i_BL, i_BT, i_BD, i_IN, i_IB, i_II, i_IS, i_IL, i_IT, i_ID, i_SN, i_SB, i_SI, i_SS, i_SL, i_ST, i_SD, i_TN, i_TB, i_TI, i_TS, i_TL, i_TT, i_TD, i_LN, i_LB, i_LI, i_LS, i_LL, i_LT, i_LD, sizeLine_eq, seqQ_rt]
        refine fin _ false _ _ (by simp; omega) fun x hx => ?_
        rcases List.mem_append.mp hx with hx | hx
        · exact old x (List.mem_of_mem_take hx)
        · exact old x (List.mem_of_mem_drop hx)
      by_cases w3 : v = 3
      · subst w3
        simp [wp_set, wp_sret, wp_sretO, wp_expr, wp_for, wp_sif, wp_mif, wp_mand, wp_mor, wp_mnot, wp_mtest, wp_bnd, wp_ret, wp_some, wp_mcons, wp_nx, wp_bk, wp_ct, wp_asg, wp_mlc, wp_molc, wp_mcomp, wp_callV, wp_callO, wp_macons, wpr_maown, anQ_own, wpr_aug, auQ_val, wpr, rdQ_val, rdQ_own, wpr_rdO, wpr_wrOp, wpr_mopO, wpr_mmut, wpr_setI, owQ_own, wp_setO, wp_tup, wp_lst, wp_olst, wp_list, wp_tuple, wp_range1, wp_range2, wp_part, wp_slice, wp_tru, wp_andV, wp_orV, wp_notV, seqQ_rt, seqQ_ro, seqQ_bk, seqQ_ct, gath, scat, scat1, pos, ownAt, clQ_nx, clQ_rt, clQ_ro, lpQ_nx, lpQ_ct, lpQ_bk, lpQ_rt, lpQ_ro, mrg1, q_I0, q_I, q_ixL, q_ixT, q_ixO, q_lenL, q_lenT, q_lenO, q_sum, q_listL, q_listT, q_abs, q_max2, q_min2, q_slL, q_neg, q_append, q_setI, q_cMul, q_cDiv, q_cPos, q_cPow, at0, at1, at2, at3, at4, at5, ix0, ix1, okW, isOwn, wipeR, restR, wp_chain, wp_zip, wp_enum, wp_str, wp_slO, wp_rdON, wp_put, wp_swap, wp_str0, wp_mownS, wp_keys, wp_mdcomp, endQ_nx, endQ_rt, endO_ro, q_isiI, q_isiB, q_isiS, q_isiT, q_isiL, q_isiTL, q_all, q_any, q_ltS, q_addS, q_inS, q_ninS, q_lenS, q_lenD, q_zipT, q_zipL, q_catT, q_catL, q_slT, q_slS, q_tupleL, q_tupleT, q_tupO, q_lstO, q_listNL, q_listNT, q_insert, q_upper, q_nu2I, q_nu2B, q_nu1I, q_nu1B, q_strI, q_strB, q_strS, q_ixA_T, q_ixA_L, q_ixA_S, q_ixS, q_eqII, q_neII, q_eqSS, q_neSS, q_eqBB, q_neBB, q_dgetS, q_dgetI, q_dinS, q_dinI, at6, at7, gT, gsCons, gsNil, gN, keyOfD, someQ_some, someQ_if, someQ_map, q_allM, q_anyM, i_BN, i_BB, i_BI, i_BS, i_BL, i_BT, i_BD, i_IN, i_IB, i_II, i_IS, i_IL, i_IT, i_ID, i_SN, i_SB, i_SI, i_SS, i_SL, i_ST, i_SD, i_TN, i_TB, i_TI, i_TS, i_TL, i_TT, i_TD, i_LN, i_LB, i_LI, i_LS, i_LL, i_LT, i_LD, sizeLine_eq]
        rw [wp_seq]
        simp [wp_set, wp_sret, wp_sretO, wp_expr, wp_for, wp_sif, wp_mif, wp_mand, wp_mor, wp_mnot, wp_mtest, wp_bnd, wp_ret, wp_some, wp_mcons, wp_nx, wp_bk, wp_ct, wp_asg, wp_mlc, wp_molc, wp_mcomp, wp_callV, wp_callO, wp_macons, wpr_maown, anQ_own, wpr_aug, auQ_val, wpr, rdQ_val, rdQ_own, wpr_rdO, wpr_wrOp, wpr_mopO, wpr_mmut, wpr_setI, owQ_own, wp_setO, wp_tup, wp_lst, wp_olst, wp_list, wp_tuple, wp_range1, wp_range2, wp_part, wp_slice, wp_tru, wp_andV, wp_orV, wp_notV, seqQ_rt, seqQ_ro, seqQ_bk, seqQ_ct, gath, scat, scat1, pos, ownAt, clQ_nx, clQ_rt, clQ_ro, lpQ_nx, lpQ_ct, lpQ_bk, lpQ_rt, lpQ_ro, mrg1, q_I0, q_I, q_ixL, q_ixT, q_ixO, q_lenL, q_lenT, q_lenO, q_sum, q_listL, q_listT, q_abs, q_max2, q_min2, q_slL, q_neg, q_append, q_setI, q_cMul, q_cDiv, q_cPos, q_cPow, at0, at1, at2, at3, at4, at5, ix0, ix1, okW, isOwn, wipeR, restR, wp_chain, wp_zip, wp_enum, wp_str, wp_slO, wp_rdON, wp_put, wp_swap, wp_str0, wp_mownS, wp_keys, wp_mdcomp, endQ_nx, endQ_rt, endO_ro, q_isiI, q_isiB, q_isiS, q_isiT, q_isiL, q_isiTL, q_all, q_any, q_ltS, q_addS, q_inS, q_ninS, q_lenS, q_lenD, q_zipT, q_zipL, q_catT, q_catL, q_slT, q_slS, q_tupleL, q_tupleT, q_tupO, q_lstO, q_listNL, q_listNT, q_insert, q_upper, q_nu2I, q_nu2B, q_nu1I, q_nu1B, q_strI, q_strB, q_strS, q_ixA_T, q_ixA_L, q_ixA_S, q_ixS, q_eqII, q_neII, q_eqSS, q_neSS, q_eqBB, q_neBB, q_dgetS, q_dgetI, q_dinS, q_dinI, at6, at7, gT, gsCons, gsNil, gN, keyOfD, someQ_some, someQ_if, someQ_map, q_allM, q_anyM, i_BN, i_BB, i_BI, i_BS, i_BL, i_BT, i_BD, i_IN, i_IB, i_II, i_IS, i_IL, i_IT, i_ID, i_SN, i_SB, i_SI, i_SS, i_SL, i_ST, i_SD, i_TN, i_TB, i_TI, i_TS, i_TL, i_TT, i_TD, i_LN, i_LB, i_LI, i_LS, i_LL, i_LT, i_LD, sizeLine_eq]
        refine take_step (by omega) fun ot a b g2 g3 => ?_
        obtain ⟨j2, x2, rfl, hj2, hjx2, hx2, hat2, hix2⟩ := at_mem g2 g3
        simp [wp_set, wp_sret, wp_sretO, wp_expr, wp_for, wp_sif, wp_mif, wp_mand, wp_mor, wp_mnot, wp_mtest, wp_bnd, wp_ret, wp_some, wp_mcons, wp_nx, wp_bk, wp_ct, wp_asg, wp_mlc, wp_molc, wp_mcomp, wp_callV, wp_callO, wp_macons, wpr_maown, anQ_own, wpr_aug, auQ_val, wpr, rdQ_val, rdQ_own, wpr_rdO, wpr_wrOp, wpr_mopO, wpr_mmut, wpr_setI, owQ_own, wp_setO, wp_tup, wp_lst, wp_olst, wp_list, wp_tuple, wp_range1, wp_range2, wp_part, wp_slice, wp_tru, wp_andV, wp_orV, wp_notV, seqQ_rt, seqQ_ro, seqQ_bk, seqQ_ct, gath, scat, scat1, pos, ownAt, clQ_nx, clQ_rt, clQ_ro, lpQ_nx, lpQ_ct, lpQ_bk, lpQ_rt, lpQ_ro, mrg1, q_I0, q_I, q_ixL, q_ixT, q_ixO, q_lenL, q_lenT, q_lenO, q_sum, q_listL, q_listT, q_abs, q_max2, q_min2, q_slL, q_neg, q_append, q_setI, q_cMul, q_cDiv, q_cPos, q_cPow, at0, at1, at2, at3, at4, at5, ix0, ix1, okW, isOwn, wipeR, restR, wp_chain, wp_zip, wp_enum, wp_str, wp_slO, wp_rdON, wp_put, wp_swap, wp_str0, wp_mownS, wp_keys, wp_mdcomp, endQ_nx, endQ_rt, endO_ro, q_isiI, q_isiB, q_isiS, q_isiT, q_isiL, q_isiTL, q_all, q_any, q_ltS, q_addS, q_inS, q_ninS, q_lenS, q_lenD, q_zipT, q_zipL, q_catT, q_catL, q_slT, q_slS, q_tupleL, q_tupleT, q_tupO, q_lstO, q_listNL, q_listNT, q_insert, q_upper, q_nu2I, q_nu2B, q_nu1I, q_nu1B, q_strI, q_strB, q_strS, q_ixA_T, q_ixA_L, q_ixA_S, q_ixS, q_eqII, q_neII, q_eqSS, q_neSS, q_eqBB, q_neBB, q_dgetS, q_dgetI, q_dinS, q_dinI, at6, at7, gT, gsCons, gsNil, gN, keyOfD, someQ_some, someQ_if, someQ_map, q_allM, q_anyM, i_BN, i_BB, i_BI, i_BS, i_BL, i_BT, i_BD, i_IN, i_IB, i_II, i_IS, i_IL, i_IT, i_ID, i_SN, i_SB, i_SI, i_SS, i_SL, i_ST, i_SD, i_TN, i_TB, i_TI, i_TS, i_TL, i_TT, i_TD, i_LN, i_LB, i_LI, i_LS, i_LL, i_LT, i_LD, sizeLine_eq]
        rw [seqQ_nx]
        simp [wp_set, wp_sret, wp_sretO, wp_expr, wp_for, wp_sif, wp_mif, wp_mand, wp_mor, wp_mnot, wp_mtest, wp_bnd, wp_ret, wp_some, wp_mcons, wp_nx, wp_bk, wp_ct, wp_asg, wp_mlc, wp_molc, wp_mcomp, wp_callV, wp_callO, wp_macons, wpr_maown, anQ_own, wpr_aug, auQ_val, wpr, rdQ_val, rdQ_own, wpr_rdO, wpr_wrOp, wpr_mopO, wpr_mmut, wpr_setI, owQ_own, wp_setO, wp_tup, wp_lst, wp_olst, wp_list, wp_tuple, wp_range1, wp_range2, wp_part, wp_slice, wp_tru, wp_andV, wp_orV, wp_notV, seqQ_rt, seqQ_ro, seqQ_bk, seqQ_ct, gath, scat, scat1, pos, ownAt, clQ_nx, clQ_rt, clQ_ro, lpQ_nx, lpQ_ct, lpQ_bk, lpQ_rt, lpQ_ro, mrg1, q_I0, q_I, q_ixL, q_ixT, q_ixO, q_lenL, q_lenT, q_lenO, q_sum, q_listL, q_listT, q_abs, q_max2, q_min2, q_slL, q_neg, q_append, q_setI, q_cMul, q_cDiv, q_cPos, q_cPow, at0, at1, at2, at3, at4, at5, ix0, ix1, okW, isOwn, wipeR, restR, wp_chain, wp_zip, wp_enum, wp_str, wp_slO, wp_rdON, wp_put, wp_swap, wp_str0, wp_mownS, wp_keys, wp_mdcomp, endQ_nx, endQ_rt, endO_ro, q_isiI, q_isiB, q_isiS, q_isiT, q_isiL, q_isiTL, q_all, q_any, q_ltS, q_addS, q_inS, q_ninS, q_lenS, q_lenD, q_zipT, q_zipL, q_catT, q_catL, q_slT, q_slS, q_tupleL, q_tupleT, q_tupO, q_lstO, q_listNL, q_listNT, q_insert, q_upper, q_nu2I, q_nu2B, q_nu1I, q_nu1B, q_strI, q_strB, q_strS, q_ixA_T, q_ixA_L, q_ixA_S, q_ixS, q_eqII, q_neII, q_eqSS, q_neSS, q_eqBB, q_neBB, q_dgetS, q_dgetI, q_dinS, q_dinI, at6, at7, gT, gsCons, gsNil, gN, keyOfD, someQ_some, someQ_if, someQ_map, q_allM, q_anyM, i_BN, i_BB, i_BI, i_BS, i_BL, i_BT, i_BD, i_IN, i_IB, i_II, i_IS, i_IL, i_IT, i_ID, i_SN, i_SB, i_SI, i_SS, i_SL, i_ST, i_SD, i_TN, i_TB, i_TI, i_TS, i_TL, i_TT, i_TD, i_LN, i_LB, i_LI, i_LS, i_LL, i_LT, i_LD, sizeLine_eq, hat, hat2, hix, hix2]
        refine ⟨_, _, ⟨rfl, rfl⟩, ?_⟩
        rw [seqQ_nx]
        simp [wp_set, wp_sret, wp_sretO, wp_expr, wp_for, wp_sif, wp_mif, wp_mand, wp_mor, wp_mnot, wp_mtest, wp_bnd, wp_ret, wp_some, wp_mcons, wp_nx, wp_bk, wp_ct, wp_asg, wp_mlc, wp_molc, wp_mcomp, wp_callV, wp_callO, wp_macons, wpr_maown, anQ_own, wpr_aug, auQ_val, wpr, rdQ_val, rdQ_own, wpr_rdO, wpr_wrOp, wpr_mopO, wpr_mmut, wpr_setI, owQ_own, wp_setO, wp_tup, wp_lst, wp_olst, wp_list, wp_tuple, wp_range1, wp_range2, wp_part, wp_slice, wp_tru, wp_andV, wp_orV, wp_notV, seqQ_rt, seqQ_ro, seqQ_bk, seqQ_ct, gath, scat, scat1, pos, ownAt, clQ_nx, clQ_rt, clQ_ro, lpQ_nx, lpQ_ct, lpQ_bk, lpQ_rt, lpQ_ro, mrg1, q_I0, q_I, q_ixL, q_ixT, q_ixO, q_lenL, q_lenT, q_lenO, q_sum, q_listL, q_listT, q_abs, q_max2, q_min2, q_slL, q_neg, q_append, q_setI, q_cMul, q_cDiv, q_cPos, q_cPow, at0, at1, at2, at3, at4, at5, ix0, ix1, okW, isOwn, wipeR, restR, wp_chain, wp_zip, wp_enum, wp_str, wp_slO, wp_rdON, wp_put, wp_swap, wp_str0, wp_mownS, wp_keys, wp_mdcomp, endQ_nx, endQ_rt, endO_ro, q_isiI, q_isiB, q_isiS, q_isiT, q_isiL, q_isiTL, q_all, q_any, q_ltS, q_addS, q_inS, q_ninS, q_lenS, q_lenD, q_zipT, q_zipL, q_catT, q_catL, q_slT, q_slS, q_tupleL, q_tupleT, q_tupO, q_lstO, q_listNL, q_listNT, q_insert, q_upper, q_nu2I, q_nu2B, q_nu1I, q_nu1B, q_strI, q_strB, q_strS, q_ixA_T, q_ixA_L, q_ixA_S, q_ixS, q_eqII, q_neII, q_eqSS, q_neSS, q_eqBB, q_neBB, q_dgetS, q_dgetI, q_dinS, q_dinI, at6, at7, gT, gsCons, gsNil, gN, keyOfD, someQ_some, someQ_if, someQ_map, q_allM, q_anyM, i_BN, i_BB, i_BI, i_BS, i_BL, i_BT, i_BD, i_IN, i_IB, i_II, i_IS, i_IL, i_IT, i_ID, i_SN, i_SB, i_SI, i_SS, i_SL, i_ST, i_SD, i_TN, i_TB, i_TI, i_TS, i_TL, i_TT, i_TD, i_LN, i_LB, i_LI, i_LS, i_LL, i_LT, i_LD, sizeLine_eq, seqQ_rt]
        refine fin _ false _ _ (by simp; omega) fun y hy => ?_
        rcases mem_set hy with hy | rfl
        · rcases mem_set hy with hy | rfl
          · exact old y hy
          · exact old _ hx2
        · exact old _ hx
      by_cases w4 : v = 4
      · subst w4
        simp [wp_set, wp_sret, wp_sretO, wp_expr, wp_for, wp_sif, wp_mif, wp_mand, wp_mor, wp_mnot, wp_mtest, wp_bnd, wp_ret, wp_some, wp_mcons, wp_nx, wp_bk, wp_ct, wp_asg, wp_mlc, wp_molc, wp_mcomp, wp_callV, wp_callO, wp_macons, wpr_maown, anQ_own, wpr_aug, auQ_val, wpr, rdQ_val, rdQ_own, wpr_rdO, wpr_wrOp, wpr_mopO, wpr_mmut, wpr_setI, owQ_own, wp_setO, wp_tup, wp_lst, wp_olst, wp_list, wp_tuple, wp_range1, wp_range2, wp_part, wp_slice, wp_tru, wp_andV, wp_orV, wp_notV, seqQ_rt, seqQ_ro, seqQ_bk, seqQ_ct, gath, scat, scat1, pos, ownAt, clQ_nx, clQ_rt, clQ_ro, lpQ_nx, lpQ_ct, lpQ_bk, lpQ_rt, lpQ_ro, mrg1, q_I0, q_I, q_ixL, q_ixT, q_ixO, q_lenL, q_lenT, q_lenO, q_sum, q_listL, q_listT, q_abs, q_max2, q_min2, q_slL, q_neg, q_append, q_setI, q_cMul, q_cDiv, q_cPos, q_cPow, at0, at1, at2, at3, at4, at5, ix0, ix1, okW, isOwn, wipeR, restR, wp_chain, wp_zip, wp_enum, wp_str, wp_slO, wp_rdON, wp_put, wp_swap, wp_str0, wp_mownS, wp_keys, wp_mdcomp, endQ_nx, endQ_rt, endO_ro, q_isiI, q_isiB, q_isiS, q_isiT, q_isiL, q_isiTL, q_all, q_any, q_ltS, q_addS, q_inS, q_ninS, q_lenS, q_lenD, q_zipT, q_zipL, q_catT, q_catL, q_slT, q_slS, q_tupleL, q_tupleT, q_tupO, q_lstO, q_listNL, q_listNT, q_insert, q_upper, q_nu2I, q_nu2B, q_nu1I, q_nu1B, q_strI, q_strB, q_strS, q_ixA_T, q_ixA_L, q_ixA_S, q_ixS, q_eqII, q_neII, q_eqSS, q_neSS, q_eqBB, q_neBB, q_dgetS, q_dgetI, q_dinS, q_dinI, at6, at7, gT, gsCons, gsNil, gN, keyOfD, someQ_some, someQ_if, someQ_map, q_allM, q_anyM, i_BN, i_BB, i_BI, i_BS, i_BL, i_BT, i_BD, i_IN, i_IB, i_II, i_IS, i_IL, i_IT, i_ID, i_SN, i_SB, i_SI, i_SS, i_SL, i_ST, i_SD, i_TN, i_TB, i_TI, i_TS, i_TL, i_TT, i_TD, i_LN, i_LB, i_LI, i_LS, i_LL, i_LT, i_LD, sizeLine_eq]
        exact fin ds true _ _ (by omega) old
      simp [wp_set, wp_sret, wp_sretO, wp_expr, wp_for, wp_sif, wp_mif, wp_mand, wp_mor, wp_mnot, wp_mtest, wp_bnd, wp_ret, wp_some, wp_mcons, wp_nx, wp_bk, wp_ct, wp_asg, wp_mlc, wp_molc, wp_mcomp, wp_callV, wp_callO, wp_macons, wpr_maown, anQ_own, wpr_aug, auQ_val, wpr, rdQ_val, rdQ_own, wpr_rdO, wpr_wrOp, wpr_mopO, wpr_mmut, wpr_setI, owQ_own, wp_setO, wp_tup, wp_lst, wp_olst, wp_list, wp_tuple, wp_range1, wp_range2, wp_part, wp_slice, wp_tru, wp_andV, wp_orV, wp_notV, seqQ_rt, seqQ_ro, seqQ_bk, seqQ_ct, gath, scat, scat1, pos, ownAt, clQ_nx, clQ_rt, clQ_ro, lpQ_nx, lpQ_ct, lpQ_bk, lpQ_rt, lpQ_ro, mrg1, q_I0, q_I, q_ixL, q_ixT, q_ixO, q_lenL, q_lenT, q_lenO, q_sum, q_listL, q_listT, q_abs, q_max2, q_min2, q_slL, q_neg, q_append, q_setI, q_cMul, q_cDiv, q_cPos, q_cPow, at0, at1, at2, at3, at4, at5, ix0, ix1, okW, isOwn, wipeR, restR, wp_chain, wp_zip, wp_enum, wp_str, wp_slO, wp_rdON, wp_put, wp_swap, wp_str0, wp_mownS, wp_keys, wp_mdcomp, endQ_nx, endQ_rt, endO_ro, q_isiI, q_isiB, q_isiS, q_isiT, q_isiL, q_isiTL, q_all, q_any, q_ltS, q_addS, q_inS, q_ninS, q_lenS, q_lenD, q_zipT, q_zipL, q_catT, q_catL, q_slT, q_slS, q_tupleL, q_tupleT, q_tupO, q_lstO, q_listNL, q_listNT, q_insert, q_upper, q_nu2I, q_nu2B, q_nu1I, q_nu1B, q_strI, q_strB, q_strS, q_ixA_T, q_ixA_L, q_ixA_S, q_ixS, q_eqII, q_neII, q_eqSS, q_neSS, q_eqBB, q_neBB, q_dgetS, q_dgetI, q_dinS, q_dinI, at6, at7, gT, gsCons, gsNil, gN, keyOfD, someQ_some, someQ_if, someQ_map, q_allM, q_anyM, i_BN, i_BB, i_BI, i_BS, i_BL, i_BT, i_BD, i_IN, i_IB, i_II, i_IS, i_IL, i_IT, i_ID, i_SN, i_SB, i_SI, i_SS, i_SL, i_ST, i_SD, i_TN, i_TB, i_TI, i_TS, i_TL, i_TT, i_TD, i_LN, i_LB, i_LI, i_LS, i_LL, i_LT, i_LD, sizeLine_eq, w1, w2, w3, w4, hat]
      refine ih k x a b (hds x hx) hk (by have := hdd x hx; omega) fun d' a' b' o1 o2 => ?_
      simp [wp_set, wp_sret, wp_sretO, wp_expr, wp_for, wp_sif, wp_mif, wp_mand, wp_mor, wp_mnot, wp_mtest, wp_bnd, wp_ret, wp_some, wp_mcons, wp_nx, wp_bk, wp_ct, wp_asg, wp_mlc, wp_molc, wp_mcomp, wp_callV, wp_callO, wp_macons, wpr_maown, anQ_own, wpr_aug, auQ_val, wpr, rdQ_val, rdQ_own, wpr_rdO, wpr_wrOp, wpr_mopO, wpr_mmut, wpr_setI, owQ_own, wp_setO, wp_tup, wp_lst, wp_olst, wp_list, wp_tuple, wp_range1, wp_range2, wp_part, wp_slice, wp_tru, wp_andV, wp_orV, wp_notV, seqQ_rt, seqQ_ro, seqQ_bk, seqQ_ct, gath, scat, scat1, pos, ownAt, clQ_nx, clQ_rt, clQ_ro, lpQ_nx, lpQ_ct, lpQ_bk, lpQ_rt, lpQ_ro, mrg1, q_I0, q_I, q_ixL, q_ixT, q_ixO, q_lenL, q_lenT, q_lenO, q_sum, q_listL, q_listT, q_abs, q_max2, q_min2, q_slL, q_neg, q_append, q_setI, q_cMul, q_cDiv, q_cPos, q_cPow, at0, at1, at2, at3, at4, at5, ix0, ix1, okW, isOwn, wipeR, restR, wp_chain, wp_zip, wp_enum, wp_str, wp_slO, wp_rdON, wp_put, wp_swap, wp_str0, wp_mownS, wp_keys, wp_mdcomp, endQ_nx, endQ_rt, endO_ro, q_isiI, q_isiB, q_isiS, q_isiT, q_isiL, q_isiTL, q_all, q_any, q_ltS, q_addS, q_inS, q_ninS, q_lenS, q_lenD, q_zipT, q_zipL, q_catT, q_catL, q_slT, q_slS, q_tupleL, q_tupleT, q_tupO, q_lstO, q_listNL, q_listNT, q_insert, q_upper, q_nu2I, q_nu2B, q_nu1I, q_nu1B, q_strI, q_strB, q_strS, q_ixA_T, q_ixA_L, q_ixA_S, q_ixS, q_eqII, q_neII, q_eqSS, q_neSS, q_eqBB, q_neBB, q_dgetS, q_dgetI, q_dinS, q_dinI, at6, at7, gT, gsCons, gsNil, gN, keyOfD, someQ_some, someQ_if, someQ_map, q_allM, q_anyM, i_BN, i_BB, i_BI, i_BS, i_BL, i_BT, i_BD, i_IN, i_IB, i_II, i_IS, i_IL, i_IT, i_ID, i_SN, i_SB, i_SI, i_SS, i_SL, i_ST, i_SD, i_TN, i_TB, i_TI, i_TS, i_TL, i_TT, i_TD, i_LN, i_LB, i_LI, i_LS, i_LL, i_LT, i_LD, sizeLine_eq, hix]
      rw [seqQ_nx]
      simp [wp_set, wp_sret, wp_sretO, wp_expr, wp_for, wp_sif, wp_mif, wp_mand, wp_mor, wp_mnot, wp_mtest, wp_bnd, wp_ret, wp_some, wp_mcons, wp_nx, wp_bk, wp_ct, wp_asg, wp_mlc, wp_molc, wp_mcomp, wp_callV, wp_callO, wp_macons, wpr_maown, anQ_own, wpr_aug, auQ_val, wpr, rdQ_val, rdQ_own, wpr_rdO, wpr_wrOp, wpr_mopO, wpr_mmut, wpr_setI, owQ_own, wp_setO, wp_tup, wp_lst, wp_olst, wp_list, wp_tuple, wp_range1, wp_range2, wp_part, wp_slice, wp_tru, wp_andV, wp_orV, wp_notV, seqQ_rt, seqQ_ro, seqQ_bk, seqQ_ct, gath, scat, scat1, pos, ownAt, clQ_nx, clQ_rt, clQ_ro, lpQ_nx, lpQ_ct, lpQ_bk, lpQ_rt, lpQ_ro, mrg1, q_I0, q_I, q_ixL, q_ixT, q_ixO, q_lenL, q_lenT, q_lenO, q_sum, q_listL, q_listT, q_abs, q_max2, q_min2, q_slL, q_neg, q_append, q_setI, q_cMul, q_cDiv, q_cPos, q_cPow, at0, at1, at2, at3, at4, at5, ix0, ix1, okW, isOwn, wipeR, restR, wp_chain, wp_zip, wp_enum, wp_str, wp_slO, wp_rdON, wp_put, wp_swap, wp_str0, wp_mownS, wp_keys, wp_mdcomp, endQ_nx, endQ_rt, endO_ro, q_isiI, q_isiB, q_isiS, q_isiT, q_isiL, q_isiTL, q_all, q_any, q_ltS, q_addS, q_inS, q_ninS, q_lenS, q_lenD, q_zipT, q_zipL, q_catT, q_catL, q_slT, q_slS, q_tupleL, q_tupleT, q_tupO, q_lstO, q_listNL, q_listNT, q_insert, q_upper, q_nu2I, q_nu2B, q_nu1I, q_nu1B, q_strI, q_strB, q_strS, q_ixA_T, q_ixA_L, q_ixA_S, q_ixS, q_eqII, q_neII, q_eqSS, q_neSS, q_eqBB, q_neBB, q_dgetS, q_dgetI, q_dinS, q_dinI, at6, at7, gT, gsCons, gsNil, gN, keyOfD, someQ_some, someQ_if, someQ_map, q_allM, q_anyM, i_BN, i_BB, i_BI, i_BS, i_BL, i_BT, i_BD, i_IN, i_IB, i_II, i_IS, i_IL, i_IT, i_ID, i_SN, i_SB, i_SI, i_SS, i_SL, i_ST, i_SD, i_TN, i_TB, i_TI, i_TS, i_TL, i_TT, i_TD, i_LN, i_LB, i_LI, i_LS, i_LL, i_LT, i_LD, sizeLine_eq, seqQ_rt]
      refine fin _ false _ _ (by simp; omega) fun y hy => ?_
      rcases mem_set hy with hy | rfl
      · exact old y hy
      · exact ⟨o1, by have := hdd x hx; omega⟩
end RG
set_option Elab.async false
set_option linter.all false
set_option maxRecDepth 100000
set_option maxHeartbeats 8000000
/-! RGg: the law's trees and costs -/
namespace RG
open PySem PySem.Spec PyProof.Rows L2 DL
def names8 : List PySem.Str := [PySem.Str.ofString "abel", PySem.Str.ofString "bo", PySem.Str.ofString "cy", PySem.Str.ofString "dee", PySem.Str.ofString "eve", PySem.Str.ofString "fay", PySem.Str.ofString "gus", PySem.Str.ofString "hal"]
/-- what the law's trees keep of each store -/
structure Bnd (kind : Int) (t : St) : Prop where
  d1 : 1 ≤ t.delay
  d9 : t.delay ≤ 9
  b0 : 0 ≤ t.base
  b29 : t.base ≤ 29
  s0 : 0 ≤ t.start
  s29 : t.start ≤ 29
  w : 0 < kind → t.waits = true
  sb : kind = 2 → t.start ≤ t.base
structure GoodTree (kind : Int) (ts : List St) : Prop where
  l1 : 1 ≤ ts.length
  l8 : ts.length ≤ 8
  tr : treeT ts = true
  nm : ∀ t ∈ ts, t.name ∈ names8
  ab : ∀ t ∈ ts, t.above = "" ∨ t.above ∈ names8
  bd : ∀ t ∈ ts, Bnd kind t
theorem name8 : ∀ x ∈ names8, nameB (.str x) = true ∧ asc x ∧ x.length ≤ 8 ∧ x ≠ "" := by decide +kernel
/-- no way up comes back -/
theorem wayUp_rank {ab : PySem.Str → PySem.Str} {rk : PySem.Str → Nat} (h : ∀ x : PySem.Str, x ≠ "" → ab x = "" ∨ rk (ab x) < rk x) : ∀ (n : Nat) (x : PySem.Str) (y : PySem.Str), y ∈ wayUp ab n x → x ≠ "" ∧ rk y ≤ rk x
  | 0, _, _, hy => by simp [wayUp] at hy
  | n + 1, x, y, hy => by
    unfold wayUp at hy
    split at hy
    · cases hy
    · rename_i hx
      refine ⟨hx, ?_⟩
      rcases List.mem_cons.mp hy with rfl | hy
      · exact Nat.le_refl _
      · obtain ⟨h1, h2⟩ := wayUp_rank h n _ y hy
        rcases h x hx with e | e
        · exact absurd e h1
        · omega
/-! sorting stores by their names -/
theorem le_tD {t u : St} (h : PySem.W.dataLe false id (tD t) (tD u) = true) (hn : t.name ≠ u.name) : ltN t.name u.name := by
  have hne : t.name.cps.toList ≠ u.name.cps.toList := fun e => hn (by
    have : t.name.cps = u.name.cps := Array.toList_inj.mp e
    cases ht : t.name
    cases hu : u.name
    rw [ht, hu] at this
    exact congrArg _ this)
  have h2 : (!PyProof.Rows.lexLt itemOrd (PySem.W.keyToks (tD u)) (PySem.W.keyToks (tD t))) = true := h
  have e : ∀ z : St, ∃ r, PySem.W.keyToks (tD z) = .inl 1 :: .inr z.name.cps.toList :: r := fun z => by
    unfold tD PySem.W.keyToks PySem.W.keyToksAll
    exact ⟨_, rfl⟩
  obtain ⟨r1, e1⟩ := e u
  obtain ⟨r2, e2⟩ := e t
  rw [e1, e2, PyProof.Rows.lexLt, PyProof.Rows.lexLt, Bool.not_eq_true'] at h2
  have b1 : itemOrd.blt (.inl 1) (.inl 1) = false := rfl
  rw [b1, Bool.false_or, Bool.not_false, Bool.true_and] at h2
  by_cases q : ltN t.name u.name
  · exact q
  by_cases q2 : ltN u.name t.name
  · have b2 : itemOrd.blt (.inr u.name.cps.toList) (.inr t.name.cps.toList) = true := decide_eq_true q2
    rw [b2, Bool.true_or] at h2
    cases h2
  · exact absurd (List.le_antisymm (List.not_lt.mp q2) (List.not_lt.mp q)) hne
theorem pair_sorted : ∀ {ts : List St}, ts.Pairwise (fun t u => ltN t.name u.name) → sortedT ts = true
  | [], _ => rfl
  | [t], _ => rfl
  | t :: u :: r, h => by
    unfold sortedT
    rw [decide_eq_true (List.rel_of_pairwise_cons h List.mem_cons_self), Bool.true_and]
    exact pair_sorted (List.Pairwise.of_cons h)
/-- sorted(found), found of stores of different names -/
theorem sort_stores {fs : List St} (hn : (fs.map St.name).Nodup) : ∃ ts : List St, (fs.map tD).mergeSort (PySem.W.dataLe false id) = ts.map tD ∧ ts.Perm fs ∧ sortedT ts = true := by
  let le : St → St → Bool := fun t u => PySem.W.dataLe false id (tD t) (tD u)
  have hm : (fs.mergeSort le).map tD = (fs.map tD).mergeSort (PySem.W.dataLe false id) := PySem.W.sort_maps (r := le) tD fun _ _ _ _ => rfl
  refine ⟨fs.mergeSort le, hm.symm, List.mergeSort_perm _ _, pair_sorted ?_⟩
  have hs : (fs.mergeSort le).Pairwise fun a b => le a b = true := PySem.W.sort_pairwise (PySem.W.sortLe_total (listOrd itemOrd) false fun t : St => PySem.W.keyToks (tD t)) fs
  have hnd : (fs.mergeSort le).Pairwise fun a b => a.name ≠ b.name := by
    have : ((fs.mergeSort le).map St.name).Nodup := (List.Perm.nodup_iff ((List.mergeSort_perm fs le).map St.name)).mpr hn
    exact List.pairwise_map.mp this
  exact (List.pairwise_and_iff.mpr ⟨hs, hnd⟩).imp fun h => le_tD h.1 h.2
theorem names_len : names8.length = 8 := rfl
theorem names_get {m i : Nat} {d : D} (h : ((names8.take m).map PyData.str)[i]? = some d) : ∃ x, d = .str x ∧ names8[i]? = some x ∧ i < m := by
  rw [List.getElem?_map] at h
  cases e : (names8.take m)[i]? with
  | none => rw [e] at h; cases h
  | some x =>
    rw [e] at h
    cases h
    rw [List.getElem?_take] at e
    split at e
    · exact ⟨x, rfl, e, by assumption⟩
    · cases e
structure Gen (kind : Int) (os : List PySem.Str) (i : Nat) (fs : List St) : Prop where
  nm : fs.map St.name = os.take i
  up : ∀ (j : Nat) (t : St), fs[j]? = some t → (t.above = "" ∨ t.above ∈ os.take j) ∧ Bnd kind t
theorem tree_gen {a b kind : Int} (hk : kind = 0 ∨ kind = 1 ∨ kind = 2) {Q : D → List (Sl Empty) → Prop} (h : ∀ ts a' b', GoodTree kind ts → Q (.tuple (ts.map tD)) [bagS a' b', .val (.int kind)]) : callQ g__law_tree [bagS a b, .val (.int kind)] Q := by
  refine call_close ?_
  unfold m__law_tree
  rw [wp_seq]
  simp [wp_set, wp_sret, wp_sretO, wp_expr, wp_for, wp_sif, wp_mif, wp_mand, wp_mor, wp_mnot, wp_mtest, wp_bnd, wp_ret, wp_some, wp_mcons, wp_nx, wp_bk, wp_ct, wp_asg, wp_mlc, wp_molc, wp_mcomp, wp_callV, wp_callO, wp_macons, wpr_maown, anQ_own, wpr_aug, auQ_val, wpr, rdQ_val, rdQ_own, wpr_rdO, wpr_wrOp, wpr_mopO, wpr_mmut, wpr_setI, owQ_own, wp_setO, wp_tup, wp_lst, wp_olst, wp_list, wp_tuple, wp_range1, wp_range2, wp_part, wp_slice, wp_tru, wp_andV, wp_orV, wp_notV, seqQ_rt, seqQ_ro, seqQ_bk, seqQ_ct, gath, scat, scat1, pos, ownAt, clQ_nx, clQ_rt, clQ_ro, lpQ_nx, lpQ_ct, lpQ_bk, lpQ_rt, lpQ_ro, mrg1, q_I0, q_I, q_ixL, q_ixT, q_ixO, q_lenL, q_lenT, q_lenO, q_sum, q_listL, q_listT, q_abs, q_max2, q_min2, q_slL, q_neg, q_append, q_setI, q_cMul, q_cDiv, q_cPos, q_cPow, at0, at1, at2, at3, at4, at5, ix0, ix1, okW, isOwn, wipeR, restR, wp_chain, wp_zip, wp_enum, wp_str, wp_slO, wp_rdON, wp_put, wp_swap, wp_str0, wp_mownS, wp_keys, wp_mdcomp, endQ_nx, endQ_rt, endO_ro, q_isiI, q_isiB, q_isiS, q_isiT, q_isiL, q_isiTL, q_all, q_any, q_ltS, q_addS, q_inS, q_ninS, q_lenS, q_lenD, q_zipT, q_zipL, q_catT, q_catL, q_slT, q_slS, q_tupleL, q_tupleT, q_tupO, q_lstO, q_listNL, q_listNT, q_insert, q_upper, q_nu2I, q_nu2B, q_nu1I, q_nu1B, q_strI, q_strB, q_strS, q_ixA_T, q_ixA_L, q_ixA_S, q_ixS, q_eqII, q_neII, q_eqSS, q_neSS, q_eqBB, q_neBB, q_dgetS, q_dgetI, q_dinS, q_dinI, at6, at7, gT, gsCons, gsNil, gN, keyOfD, someQ_some, someQ_if, someQ_map, q_allM, q_anyM, i_BN, i_BB, i_BI, i_BS, i_BL, i_BT, i_BD, i_IN, i_IB, i_II, i_IS, i_IL, i_IT, i_ID, i_SN, i_SB, i_SI, i_SS, i_SL, i_ST, i_SD, i_TN, i_TB, i_TI, i_TS, i_TL, i_TT, i_TD, i_LN, i_LB, i_LI, i_LS, i_LL, i_LT, i_LD, sizeLine_eq]
  refine take_step (by decide) fun v a b h0 h1 => ?_
  simp [wp_set, wp_sret, wp_sretO, wp_expr, wp_for, wp_sif, wp_mif, wp_mand, wp_mor, wp_mnot, wp_mtest, wp_bnd, wp_ret, wp_some, wp_mcons, wp_nx, wp_bk, wp_ct, wp_asg, wp_mlc, wp_molc, wp_mcomp, wp_callV, wp_callO, wp_macons, wpr_maown, anQ_own, wpr_aug, auQ_val, wpr, rdQ_val, rdQ_own, wpr_rdO, wpr_wrOp, wpr_mopO, wpr_mmut, wpr_setI, owQ_own, wp_setO, wp_tup, wp_lst, wp_olst, wp_list, wp_tuple, wp_range1, wp_range2, wp_part, wp_slice, wp_tru, wp_andV, wp_orV, wp_notV, seqQ_rt, seqQ_ro, seqQ_bk, seqQ_ct, gath, scat, scat1, pos, ownAt, clQ_nx, clQ_rt, clQ_ro, lpQ_nx, lpQ_ct, lpQ_bk, lpQ_rt, lpQ_ro, mrg1, q_I0, q_I, q_ixL, q_ixT, q_ixO, q_lenL, q_lenT, q_lenO, q_sum, q_listL, q_listT, q_abs, q_max2, q_min2, q_slL, q_neg, q_append, q_setI, q_cMul, q_cDiv, q_cPos, q_cPow, at0, at1, at2, at3, at4, at5, ix0, ix1, okW, isOwn, wipeR, restR, wp_chain, wp_zip, wp_enum, wp_str, wp_slO, wp_rdON, wp_put, wp_swap, wp_str0, wp_mownS, wp_keys, wp_mdcomp, endQ_nx, endQ_rt, endO_ro, q_isiI, q_isiB, q_isiS, q_isiT, q_isiL, q_isiTL, q_all, q_any, q_ltS, q_addS, q_inS, q_ninS, q_lenS, q_lenD, q_zipT, q_zipL, q_catT, q_catL, q_slT, q_slS, q_tupleL, q_tupleT, q_tupO, q_lstO, q_listNL, q_listNT, q_insert, q_upper, q_nu2I, q_nu2B, q_nu1I, q_nu1B, q_strI, q_strB, q_strS, q_ixA_T, q_ixA_L, q_ixA_S, q_ixS, q_eqII, q_neII, q_eqSS, q_neSS, q_eqBB, q_neBB, q_dgetS, q_dgetI, q_dinS, q_dinI, at6, at7, gT, gsCons, gsNil, gN, keyOfD, someQ_some, someQ_if, someQ_map, q_allM, q_anyM, i_BN, i_BB, i_BI, i_BS, i_BL, i_BT, i_BD, i_IN, i_IB, i_II, i_IS, i_IL, i_IT, i_ID, i_SN, i_SB, i_SI, i_SS, i_SL, i_ST, i_SD, i_TN, i_TB, i_TI, i_TS, i_TL, i_TT, i_TD, i_LN, i_LB, i_LI, i_LS, i_LL, i_LT, i_LD, sizeLine_eq]
  refine wp_atL h0 (by simpa using h1) fun x hx => ?_
  have hx : ∃ c : Int, x = .int c ∧ 2 ≤ c ∧ c ≤ 8 := by
    simp only [List.mem_cons, List.not_mem_nil, or_false] at hx
    rcases hx with rfl | rfl | rfl <;> exact ⟨_, rfl, by decide, by decide⟩
  obtain ⟨c, rfl, hc2, hc8⟩ := hx
  simp [wp_set, wp_sret, wp_sretO, wp_expr, wp_for, wp_sif, wp_mif, wp_mand, wp_mor, wp_mnot, wp_mtest, wp_bnd, wp_ret, wp_some, wp_mcons, wp_nx, wp_bk, wp_ct, wp_asg, wp_mlc, wp_molc, wp_mcomp, wp_callV, wp_callO, wp_macons, wpr_maown, anQ_own, wpr_aug, auQ_val, wpr, rdQ_val, rdQ_own, wpr_rdO, wpr_wrOp, wpr_mopO, wpr_mmut, wpr_setI, owQ_own, wp_setO, wp_tup, wp_lst, wp_olst, wp_list, wp_tuple, wp_range1, wp_range2, wp_part, wp_slice, wp_tru, wp_andV, wp_orV, wp_notV, seqQ_rt, seqQ_ro, seqQ_bk, seqQ_ct, gath, scat, scat1, pos, ownAt, clQ_nx, clQ_rt, clQ_ro, lpQ_nx, lpQ_ct, lpQ_bk, lpQ_rt, lpQ_ro, mrg1, q_I0, q_I, q_ixL, q_ixT, q_ixO, q_lenL, q_lenT, q_lenO, q_sum, q_listL, q_listT, q_abs, q_max2, q_min2, q_slL, q_neg, q_append, q_setI, q_cMul, q_cDiv, q_cPos, q_cPow, at0, at1, at2, at3, at4, at5, ix0, ix1, okW, isOwn, wipeR, restR, wp_chain, wp_zip, wp_enum, wp_str, wp_slO, wp_rdON, wp_put, wp_swap, wp_str0, wp_mownS, wp_keys, wp_mdcomp, endQ_nx, endQ_rt, endO_ro, q_isiI, q_isiB, q_isiS, q_isiT, q_isiL, q_isiTL, q_all, q_any, q_ltS, q_addS, q_inS, q_ninS, q_lenS, q_lenD, q_zipT, q_zipL, q_catT, q_catL, q_slT, q_slS, q_tupleL, q_tupleT, q_tupO, q_lstO, q_listNL, q_listNT, q_insert, q_upper, q_nu2I, q_nu2B, q_nu1I, q_nu1B, q_strI, q_strB, q_strS, q_ixA_T, q_ixA_L, q_ixA_S, q_ixS, q_eqII, q_neII, q_eqSS, q_neSS, q_eqBB, q_neBB, q_dgetS, q_dgetI, q_dinS, q_dinI, at6, at7, gT, gsCons, gsNil, gN, keyOfD, someQ_some, someQ_if, someQ_map, q_allM, q_anyM, i_BN, i_BB, i_BI, i_BS, i_BL, i_BT, i_BD, i_IN, i_IB, i_II, i_IS, i_IL, i_IT, i_ID, i_SN, i_SB, i_SI, i_SS, i_SL, i_ST, i_SD, i_TN, i_TB, i_TI, i_TS, i_TL, i_TT, i_TD, i_LN, i_LB, i_LI, i_LS, i_LL, i_LT, i_LD, sizeLine_eq]
  refine take_step (by omega) fun v a b h0 h1 => ?_
  obtain ⟨m, hm⟩ : ∃ m : Nat, 1 + v = (m : Int) := ⟨(1 + v).toNat, by omega⟩
  have hm1 : 1 ≤ m := by omega
  have hm8 : m ≤ 8 := by omega
  simp [wp_set, wp_sret, wp_sretO, wp_expr, wp_for, wp_sif, wp_mif, wp_mand, wp_mor, wp_mnot, wp_mtest, wp_bnd, wp_ret, wp_some, wp_mcons, wp_nx, wp_bk, wp_ct, wp_asg, wp_mlc, wp_molc, wp_mcomp, wp_callV, wp_callO, wp_macons, wpr_maown, anQ_own, wpr_aug, auQ_val, wpr, rdQ_val, rdQ_own, wpr_rdO, wpr_wrOp, wpr_mopO, wpr_mmut, wpr_setI, owQ_own, wp_setO, wp_tup, wp_lst, wp_olst, wp_list, wp_tuple, wp_range1, wp_range2, wp_part, wp_slice, wp_tru, wp_andV, wp_orV, wp_notV, seqQ_rt, seqQ_ro, seqQ_bk, seqQ_ct, gath, scat, scat1, pos, ownAt, clQ_nx, clQ_rt, clQ_ro, lpQ_nx, lpQ_ct, lpQ_bk, lpQ_rt, lpQ_ro, mrg1, q_I0, q_I, q_ixL, q_ixT, q_ixO, q_lenL, q_lenT, q_lenO, q_sum, q_listL, q_listT, q_abs, q_max2, q_min2, q_slL, q_neg, q_append, q_setI, q_cMul, q_cDiv, q_cPos, q_cPow, at0, at1, at2, at3, at4, at5, ix0, ix1, okW, isOwn, wipeR, restR, wp_chain, wp_zip, wp_enum, wp_str, wp_slO, wp_rdON, wp_put, wp_swap, wp_str0, wp_mownS, wp_keys, wp_mdcomp, endQ_nx, endQ_rt, endO_ro, q_isiI, q_isiB, q_isiS, q_isiT, q_isiL, q_isiTL, q_all, q_any, q_ltS, q_addS, q_inS, q_ninS, q_lenS, q_lenD, q_zipT, q_zipL, q_catT, q_catL, q_slT, q_slS, q_tupleL, q_tupleT, q_tupO, q_lstO, q_listNL, q_listNT, q_insert, q_upper, q_nu2I, q_nu2B, q_nu1I, q_nu1B, q_strI, q_strB, q_strS, q_ixA_T, q_ixA_L, q_ixA_S, q_ixS, q_eqII, q_neII, q_eqSS, q_neSS, q_eqBB, q_neBB, q_dgetS, q_dgetI, q_dinS, q_dinI, at6, at7, gT, gsCons, gsNil, gN, keyOfD, someQ_some, someQ_if, someQ_map, q_allM, q_anyM, i_BN, i_BB, i_BI, i_BS, i_BL, i_BT, i_BD, i_IN, i_IB, i_II, i_IS, i_IL, i_IT, i_ID, i_SN, i_SB, i_SI, i_SS, i_SL, i_ST, i_SD, i_TN, i_TB, i_TI, i_TS, i_TL, i_TT, i_TD, i_LN, i_LB, i_LI, i_LS, i_LL, i_LT, i_LD, sizeLine_eq]
  rw [hm]
  rw [seqQ_nx, wp_seq]
  simp [wp_set, wp_sret, wp_sretO, wp_expr, wp_for, wp_sif, wp_mif, wp_mand, wp_mor, wp_mnot, wp_mtest, wp_bnd, wp_ret, wp_some, wp_mcons, wp_nx, wp_bk, wp_ct, wp_asg, wp_mlc, wp_molc, wp_mcomp, wp_callV, wp_callO, wp_macons, wpr_maown, anQ_own, wpr_aug, auQ_val, wpr, rdQ_val, rdQ_own, wpr_rdO, wpr_wrOp, wpr_mopO, wpr_mmut, wpr_setI, owQ_own, wp_setO, wp_tup, wp_lst, wp_olst, wp_list, wp_tuple, wp_range1, wp_range2, wp_part, wp_slice, wp_tru, wp_andV, wp_orV, wp_notV, seqQ_rt, seqQ_ro, seqQ_bk, seqQ_ct, gath, scat, scat1, pos, ownAt, clQ_nx, clQ_rt, clQ_ro, lpQ_nx, lpQ_ct, lpQ_bk, lpQ_rt, lpQ_ro, mrg1, q_I0, q_I, q_ixL, q_ixT, q_ixO, q_lenL, q_lenT, q_lenO, q_sum, q_listL, q_listT, q_abs, q_max2, q_min2, q_slL, q_neg, q_append, q_setI, q_cMul, q_cDiv, q_cPos, q_cPow, at0, at1, at2, at3, at4, at5, ix0, ix1, okW, isOwn, wipeR, restR, wp_chain, wp_zip, wp_enum, wp_str, wp_slO, wp_rdON, wp_put, wp_swap, wp_str0, wp_mownS, wp_keys, wp_mdcomp, endQ_nx, endQ_rt, endO_ro, q_isiI, q_isiB, q_isiS, q_isiT, q_isiL, q_isiTL, q_all, q_any, q_ltS, q_addS, q_inS, q_ninS, q_lenS, q_lenD, q_zipT, q_zipL, q_catT, q_catL, q_slT, q_slS, q_tupleL, q_tupleT, q_tupO, q_lstO, q_listNL, q_listNT, q_insert, q_upper, q_nu2I, q_nu2B, q_nu1I, q_nu1B, q_strI, q_strB, q_strS, q_ixA_T, q_ixA_L, q_ixA_S, q_ixS, q_eqII, q_neII, q_eqSS, q_neSS, q_eqBB, q_neBB, q_dgetS, q_dgetI, q_dinS, q_dinI, at6, at7, gT, gsCons, gsNil, gN, keyOfD, someQ_some, someQ_if, someQ_map, q_allM, q_anyM, i_BN, i_BB, i_BI, i_BS, i_BL, i_BT, i_BD, i_IN, i_IB, i_II, i_IS, i_IL, i_IT, i_ID, i_SN, i_SB, i_SI, i_SS, i_SL, i_ST, i_SD, i_TN, i_TB, i_TI, i_TS, i_TL, i_TT, i_TD, i_LN, i_LB, i_LI, i_LS, i_LL, i_LT, i_LD, sizeLine_eq]
  rw [cut_to _ m (by simpa using hm8), show List.take m [PyData.str (PySem.Str.ofString "abel"), PyData.str (PySem.Str.ofString "bo"), PyData.str (PySem.Str.ofString "cy"), PyData.str (PySem.Str.ofString "dee"), PyData.str (PySem.Str.ofString "eve"), PyData.str (PySem.Str.ofString "fay"), PyData.str (PySem.Str.ofString "gus"), PyData.str (PySem.Str.ofString "hal")] = (names8.take m).map PyData.str by rw [List.map_take]; rfl]
  rw [seqQ_nx, wp_seq]
  simp [wp_set, wp_sret, wp_sretO, wp_expr, wp_for, wp_sif, wp_mif, wp_mand, wp_mor, wp_mnot, wp_mtest, wp_bnd, wp_ret, wp_some, wp_mcons, wp_nx, wp_bk, wp_ct, wp_asg, wp_mlc, wp_molc, wp_mcomp, wp_callV, wp_callO, wp_macons, wpr_maown, anQ_own, wpr_aug, auQ_val, wpr, rdQ_val, rdQ_own, wpr_rdO, wpr_wrOp, wpr_mopO, wpr_mmut, wpr_setI, owQ_own, wp_setO, wp_tup, wp_lst, wp_olst, wp_list, wp_tuple, wp_range1, wp_range2, wp_part, wp_slice, wp_tru, wp_andV, wp_orV, wp_notV, seqQ_rt, seqQ_ro, seqQ_bk, seqQ_ct, gath, scat, scat1, pos, ownAt, clQ_nx, clQ_rt, clQ_ro, lpQ_nx, lpQ_ct, lpQ_bk, lpQ_rt, lpQ_ro, mrg1, q_I0, q_I, q_ixL, q_ixT, q_ixO, q_lenL, q_lenT, q_lenO, q_sum, q_listL, q_listT, q_abs, q_max2, q_min2, q_slL, q_neg, q_append, q_setI, q_cMul, q_cDiv, q_cPos, q_cPow, at0, at1, at2, at3, at4, at5, ix0, ix1, okW, isOwn, wipeR, restR, wp_chain, wp_zip, wp_enum, wp_str, wp_slO, wp_rdON, wp_put, wp_swap, wp_str0, wp_mownS, wp_keys, wp_mdcomp, endQ_nx, endQ_rt, endO_ro, q_isiI, q_isiB, q_isiS, q_isiT, q_isiL, q_isiTL, q_all, q_any, q_ltS, q_addS, q_inS, q_ninS, q_lenS, q_lenD, q_zipT, q_zipL, q_catT, q_catL, q_slT, q_slS, q_tupleL, q_tupleT, q_tupO, q_lstO, q_listNL, q_listNT, q_insert, q_upper, q_nu2I, q_nu2B, q_nu1I, q_nu1B, q_strI, q_strB, q_strS, q_ixA_T, q_ixA_L, q_ixA_S, q_ixS, q_eqII, q_neII, q_eqSS, q_neSS, q_eqBB, q_neBB, q_dgetS, q_dgetI, q_dinS, q_dinI, at6, at7, gT, gsCons, gsNil, gN, keyOfD, someQ_some, someQ_if, someQ_map, q_allM, q_anyM, i_BN, i_BB, i_BI, i_BS, i_BL, i_BT, i_BD, i_IN, i_IB, i_II, i_IS, i_IL, i_IT, i_ID, i_SN, i_SB, i_SI, i_SS, i_SL, i_ST, i_SD, i_TN, i_TB, i_TI, i_TS, i_TL, i_TT, i_TD, i_LN, i_LB, i_LI, i_LS, i_LL, i_LT, i_LD, sizeLine_eq, -List.map_map, -List.map_take]
  rw [seqQ_nx, wp_seq]
  simp [wp_set, wp_sret, wp_sretO, wp_expr, wp_for, wp_sif, wp_mif, wp_mand, wp_mor, wp_mnot, wp_mtest, wp_bnd, wp_ret, wp_some, wp_mcons, wp_nx, wp_bk, wp_ct, wp_asg, wp_mlc, wp_molc, wp_mcomp, wp_callV, wp_callO, wp_macons, wpr_maown, anQ_own, wpr_aug, auQ_val, wpr, rdQ_val, rdQ_own, wpr_rdO, wpr_wrOp, wpr_mopO, wpr_mmut, wpr_setI, owQ_own, wp_setO, wp_tup, wp_lst, wp_olst, wp_list, wp_tuple, wp_range1, wp_range2, wp_part, wp_slice, wp_tru, wp_andV, wp_orV, wp_notV, seqQ_rt, seqQ_ro, seqQ_bk, seqQ_ct, gath, scat, scat1, pos, ownAt, clQ_nx, clQ_rt, clQ_ro, lpQ_nx, lpQ_ct, lpQ_bk, lpQ_rt, lpQ_ro, mrg1, q_I0, q_I, q_ixL, q_ixT, q_ixO, q_lenL, q_lenT, q_lenO, q_sum, q_listL, q_listT, q_abs, q_max2, q_min2, q_slL, q_neg, q_append, q_setI, q_cMul, q_cDiv, q_cPos, q_cPow, at0, at1, at2, at3, at4, at5, ix0, ix1, okW, isOwn, wipeR, restR, wp_chain, wp_zip, wp_enum, wp_str, wp_slO, wp_rdON, wp_put, wp_swap, wp_str0, wp_mownS, wp_keys, wp_mdcomp, endQ_nx, endQ_rt, endO_ro, q_isiI, q_isiB, q_isiS, q_isiT, q_isiL, q_isiTL, q_all, q_any, q_ltS, q_addS, q_inS, q_ninS, q_lenS, q_lenD, q_zipT, q_zipL, q_catT, q_catL, q_slT, q_slS, q_tupleL, q_tupleT, q_tupO, q_lstO, q_listNL, q_listNT, q_insert, q_upper, q_nu2I, q_nu2B, q_nu1I, q_nu1B, q_strI, q_strB, q_strS, q_ixA_T, q_ixA_L, q_ixA_S, q_ixS, q_eqII, q_neII, q_eqSS, q_neSS, q_eqBB, q_neBB, q_dgetS, q_dgetI, q_dinS, q_dinI, at6, at7, gT, gsCons, gsNil, gN, keyOfD, someQ_some, someQ_if, someQ_map, q_allM, q_anyM, i_BN, i_BB, i_BI, i_BS, i_BL, i_BT, i_BD, i_IN, i_IB, i_II, i_IS, i_IL, i_IT, i_ID, i_SN, i_SB, i_SI, i_SS, i_SL, i_ST, i_SD, i_TN, i_TB, i_TI, i_TS, i_TL, i_TT, i_TD, i_LN, i_LB, i_LI, i_LS, i_LL, i_LT, i_LD, sizeLine_eq, -List.map_map, -List.map_take]
  refine wp_loop (fun i (ρ : List (Sl Empty)) => ∃ a b x, ∃ os : List PySem.Str, os.Perm (names8.take i) ∧ ρ = [bagS a b, .val (.int kind), .val (.int m), .val (.list ((names8.take m).map PyData.str)), .own (.seq (os.map PyData.str)), x, .un, .un, .un, .un, .un, .un, .un, .un]) ⟨_, _, _, [], List.Perm.refl _, rfl⟩ ?_ ?_
  · rintro i d ρ hd ⟨a, b, x, os, hp, rfl⟩
    obtain ⟨y, rfl, hy, him⟩ := names_get hd
    refine ⟨_, rfl, ?_⟩
    have hol : os.length = i := by rw [hp.length_eq, List.length_take, names_len]; omega
    simp [wp_set, wp_sret, wp_sretO, wp_expr, wp_for, wp_sif, wp_mif, wp_mand, wp_mor, wp_mnot, wp_mtest, wp_bnd, wp_ret, wp_some, wp_mcons, wp_nx, wp_bk, wp_ct, wp_asg, wp_mlc, wp_molc, wp_mcomp, wp_callV, wp_callO, wp_macons, wpr_maown, anQ_own, wpr_aug, auQ_val, wpr, rdQ_val, rdQ_own, wpr_rdO, wpr_wrOp, wpr_mopO, wpr_mmut, wpr_setI, owQ_own, wp_setO, wp_tup, wp_lst, wp_olst, wp_list, wp_tuple, wp_range1, wp_range2, wp_part, wp_slice, wp_tru, wp_andV, wp_orV, wp_notV, seqQ_rt, seqQ_ro, seqQ_bk, seqQ_ct, gath, scat, scat1, pos, ownAt, clQ_nx, clQ_rt, clQ_ro, lpQ_nx, lpQ_ct, lpQ_bk, lpQ_rt, lpQ_ro, mrg1, q_I0, q_I, q_ixL, q_ixT, q_ixO, q_lenL, q_lenT, q_lenO, q_sum, q_listL, q_listT, q_abs, q_max2, q_min2, q_slL, q_neg, q_append, q_setI, q_cMul, q_cDiv, q_cPos, q_cPow, at0, at1, at2, at3, at4, at5, ix0, ix1, okW, isOwn, wipeR, restR, wp_chain, wp_zip, wp_enum, wp_str, wp_slO, wp_rdON, wp_put, wp_swap, wp_str0, wp_mownS, wp_keys, wp_mdcomp, endQ_nx, endQ_rt, endO_ro, q_isiI, q_isiB, q_isiS, q_isiT, q_isiL, q_isiTL, q_all, q_any, q_ltS, q_addS, q_inS, q_ninS, q_lenS, q_lenD, q_zipT, q_zipL, q_catT, q_catL, q_slT, q_slS, q_tupleL, q_tupleT, q_tupO, q_lstO, q_listNL, q_listNT, q_insert, q_upper, q_nu2I, q_nu2B, q_nu1I, q_nu1B, q_strI, q_strB, q_strS, q_ixA_T, q_ixA_L, q_ixA_S, q_ixS, q_eqII, q_neII, q_eqSS, q_neSS, q_eqBB, q_neBB, q_dgetS, q_dgetI, q_dinS, q_dinI, at6, at7, gT, gsCons, gsNil, gN, keyOfD, someQ_some, someQ_if, someQ_map, q_allM, q_anyM, i_BN, i_BB, i_BI, i_BS, i_BL, i_BT, i_BD, i_IN, i_IB, i_II, i_IS, i_IL, i_IT, i_ID, i_SN, i_SB, i_SI, i_SS, i_SL, i_ST, i_SD, i_TN, i_TB, i_TI, i_TS, i_TL, i_TT, i_TD, i_LN, i_LB, i_LI, i_LS, i_LL, i_LT, i_LD, sizeLine_eq, -List.map_map, -List.map_take]
    refine take_step (by rw [hol]; omega) fun v a b h0 h1 => ?_
    have hv : v < 2 ^ 63 := by omega
    simp [wp_set, wp_sret, wp_sretO, wp_expr, wp_for, wp_sif, wp_mif, wp_mand, wp_mor, wp_mnot, wp_mtest, wp_bnd, wp_ret, wp_some, wp_mcons, wp_nx, wp_bk, wp_ct, wp_asg, wp_mlc, wp_molc, wp_mcomp, wp_callV, wp_callO, wp_macons, wpr_maown, anQ_own, wpr_aug, auQ_val, wpr, rdQ_val, rdQ_own, wpr_rdO, wpr_wrOp, wpr_mopO, wpr_mmut, wpr_setI, owQ_own, wp_setO, wp_tup, wp_lst, wp_olst, wp_list, wp_tuple, wp_range1, wp_range2, wp_part, wp_slice, wp_tru, wp_andV, wp_orV, wp_notV, seqQ_rt, seqQ_ro, seqQ_bk, seqQ_ct, gath, scat, scat1, pos, ownAt, clQ_nx, clQ_rt, clQ_ro, lpQ_nx, lpQ_ct, lpQ_bk, lpQ_rt, lpQ_ro, mrg1, q_I0, q_I, q_ixL, q_ixT, q_ixO, q_lenL, q_lenT, q_lenO, q_sum, q_listL, q_listT, q_abs, q_max2, q_min2, q_slL, q_neg, q_append, q_setI, q_cMul, q_cDiv, q_cPos, q_cPow, at0, at1, at2, at3, at4, at5, ix0, ix1, okW, isOwn, wipeR, restR, wp_chain, wp_zip, wp_enum, wp_str, wp_slO, wp_rdON, wp_put, wp_swap, wp_str0, wp_mownS, wp_keys, wp_mdcomp, endQ_nx, endQ_rt, endO_ro, q_isiI, q_isiB, q_isiS, q_isiT, q_isiL, q_isiTL, q_all, q_any, q_ltS, q_addS, q_inS, q_ninS, q_lenS, q_lenD, q_zipT, q_zipL, q_catT, q_catL, q_slT, q_slS, q_tupleL, q_tupleT, q_tupO, q_lstO, q_listNL, q_listNT, q_insert, q_upper, q_nu2I, q_nu2B, q_nu1I, q_nu1B, q_strI, q_strB, q_strS, q_ixA_T, q_ixA_L, q_ixA_S, q_ixS, q_eqII, q_neII, q_eqSS, q_neSS, q_eqBB, q_neBB, q_dgetS, q_dgetI, q_dinS, q_dinI, at6, at7, gT, gsCons, gsNil, gN, keyOfD, someQ_some, someQ_if, someQ_map, q_allM, q_anyM, i_BN, i_BB, i_BI, i_BS, i_BL, i_BT, i_BD, i_IN, i_IB, i_II, i_IS, i_IL, i_IT, i_ID, i_SN, i_SB, i_SI, i_SS, i_SL, i_ST, i_SD, i_TN, i_TB, i_TI, i_TS, i_TL, i_TT, i_TD, i_LN, i_LB, i_LI, i_LS, i_LL, i_LT, i_LD, sizeLine_eq, -List.map_map, -List.map_take]
    refine ⟨⟨by omega, h0, by omega⟩, _, _, _, os.take v.toNat ++ [y] ++ os.drop v.toNat, ?_, ⟨rfl, rfl⟩, ?_, rfl⟩
    · rw [List.take_add_one, hy, List.append_assoc]
      refine (List.perm_middle).trans ?_
      show (y :: (os.take v.toNat ++ os.drop v.toNat)).Perm (names8.take i ++ [y])
      rw [List.take_append_drop]
      exact (List.Perm.cons y hp).trans (List.perm_append_singleton y _).symm
    · simp
  · rintro ρ ⟨a, b, x, os, hp, rfl⟩
    have hol : os.length = m := by
      rw [hp.length_eq, List.length_take, List.length_map, List.length_take, names_len]
      omega
    have hmem : ∀ y ∈ os, y ∈ names8 := fun y hy => List.mem_of_mem_take (hp.subset hy)
    have hnd : os.Nodup := (List.Perm.nodup_iff hp).mpr (List.Nodup.sublist (List.take_sublist _ _) (by decide +kernel))
    rw [seqQ_nx, wp_seq]
    simp [wp_set, wp_sret, wp_sretO, wp_expr, wp_for, wp_sif, wp_mif, wp_mand, wp_mor, wp_mnot, wp_mtest, wp_bnd, wp_ret, wp_some, wp_mcons, wp_nx, wp_bk, wp_ct, wp_asg, wp_mlc, wp_molc, wp_mcomp, wp_callV, wp_callO, wp_macons, wpr_maown, anQ_own, wpr_aug, auQ_val, wpr, rdQ_val, rdQ_own, wpr_rdO, wpr_wrOp, wpr_mopO, wpr_mmut, wpr_setI, owQ_own, wp_setO, wp_tup, wp_lst, wp_olst, wp_list, wp_tuple, wp_range1, wp_range2, wp_part, wp_slice, wp_tru, wp_andV, wp_orV, wp_notV, seqQ_rt, seqQ_ro, seqQ_bk, seqQ_ct, gath, scat, scat1, pos, ownAt, clQ_nx, clQ_rt, clQ_ro, lpQ_nx, lpQ_ct, lpQ_bk, lpQ_rt, lpQ_ro, mrg1, q_I0, q_I, q_ixL, q_ixT, q_ixO, q_lenL, q_lenT, q_lenO, q_sum, q_listL, q_listT, q_abs, q_max2, q_min2, q_slL, q_neg, q_append, q_setI, q_cMul, q_cDiv, q_cPos, q_cPow, at0, at1, at2, at3, at4, at5, ix0, ix1, okW, isOwn, wipeR, restR, wp_chain, wp_zip, wp_enum, wp_str, wp_slO, wp_rdON, wp_put, wp_swap, wp_str0, wp_mownS, wp_keys, wp_mdcomp, endQ_nx, endQ_rt, endO_ro, q_isiI, q_isiB, q_isiS, q_isiT, q_isiL, q_isiTL, q_all, q_any, q_ltS, q_addS, q_inS, q_ninS, q_lenS, q_lenD, q_zipT, q_zipL, q_catT, q_catL, q_slT, q_slS, q_tupleL, q_tupleT, q_tupO, q_lstO, q_listNL, q_listNT, q_insert, q_upper, q_nu2I, q_nu2B, q_nu1I, q_nu1B, q_strI, q_strB, q_strS, q_ixA_T, q_ixA_L, q_ixA_S, q_ixS, q_eqII, q_neII, q_eqSS, q_neSS, q_eqBB, q_neBB, q_dgetS, q_dgetI, q_dinS, q_dinI, at6, at7, gT, gsCons, gsNil, gN, keyOfD, someQ_some, someQ_if, someQ_map, q_allM, q_anyM, i_BN, i_BB, i_BI, i_BS, i_BL, i_BT, i_BD, i_IN, i_IB, i_II, i_IS, i_IL, i_IT, i_ID, i_SN, i_SB, i_SI, i_SS, i_SL, i_ST, i_SD, i_TN, i_TB, i_TI, i_TS, i_TL, i_TT, i_TD, i_LN, i_LB, i_LI, i_LS, i_LL, i_LT, i_LD, sizeLine_eq, -List.map_map, -List.map_take]
    refine take_step (by decide) fun rv a b h0 h1 => ?_
    simp [wp_set, wp_sret, wp_sretO, wp_expr, wp_for, wp_sif, wp_mif, wp_mand, wp_mor, wp_mnot, wp_mtest, wp_bnd, wp_ret, wp_some, wp_mcons, wp_nx, wp_bk, wp_ct, wp_asg, wp_mlc, wp_molc, wp_mcomp, wp_callV, wp_callO, wp_macons, wpr_maown, anQ_own, wpr_aug, auQ_val, wpr, rdQ_val, rdQ_own, wpr_rdO, wpr_wrOp, wpr_mopO, wpr_mmut, wpr_setI, owQ_own, wp_setO, wp_tup, wp_lst, wp_olst, wp_list, wp_tuple, wp_range1, wp_range2, wp_part, wp_slice, wp_tru, wp_andV, wp_orV, wp_notV, seqQ_rt, seqQ_ro, seqQ_bk, seqQ_ct, gath, scat, scat1, pos, ownAt, clQ_nx, clQ_rt, clQ_ro, lpQ_nx, lpQ_ct, lpQ_bk, lpQ_rt, lpQ_ro, mrg1, q_I0, q_I, q_ixL, q_ixT, q_ixO, q_lenL, q_lenT, q_lenO, q_sum, q_listL, q_listT, q_abs, q_max2, q_min2, q_slL, q_neg, q_append, q_setI, q_cMul, q_cDiv, q_cPos, q_cPow, at0, at1, at2, at3, at4, at5, ix0, ix1, okW, isOwn, wipeR, restR, wp_chain, wp_zip, wp_enum, wp_str, wp_slO, wp_rdON, wp_put, wp_swap, wp_str0, wp_mownS, wp_keys, wp_mdcomp, endQ_nx, endQ_rt, endO_ro, q_isiI, q_isiB, q_isiS, q_isiT, q_isiL, q_isiTL, q_all, q_any, q_ltS, q_addS, q_inS, q_ninS, q_lenS, q_lenD, q_zipT, q_zipL, q_catT, q_catL, q_slT, q_slS, q_tupleL, q_tupleT, q_tupO, q_lstO, q_listNL, q_listNT, q_insert, q_upper, q_nu2I, q_nu2B, q_nu1I, q_nu1B, q_strI, q_strB, q_strS, q_ixA_T, q_ixA_L, q_ixA_S, q_ixS, q_eqII, q_neII, q_eqSS, q_neSS, q_eqBB, q_neBB, q_dgetS, q_dgetI, q_dinS, q_dinI, at6, at7, gT, gsCons, gsNil, gN, keyOfD, someQ_some, someQ_if, someQ_map, q_allM, q_anyM, i_BN, i_BB, i_BI, i_BS, i_BL, i_BT, i_BD, i_IN, i_IB, i_II, i_IS, i_IL, i_IT, i_ID, i_SN, i_SB, i_SI, i_SS, i_SL, i_ST, i_SD, i_TN, i_TB, i_TI, i_TS, i_TL, i_TT, i_TD, i_LN, i_LB, i_LI, i_LS, i_LL, i_LT, i_LD, sizeLine_eq, -List.map_map, -List.map_take]
    generalize decide (rv = 0) = row
    rw [seqQ_nx, wp_seq]
    simp [wp_set, wp_sret, wp_sretO, wp_expr, wp_for, wp_sif, wp_mif, wp_mand, wp_mor, wp_mnot, wp_mtest, wp_bnd, wp_ret, wp_some, wp_mcons, wp_nx, wp_bk, wp_ct, wp_asg, wp_mlc, wp_molc, wp_mcomp, wp_callV, wp_callO, wp_macons, wpr_maown, anQ_own, wpr_aug, auQ_val, wpr, rdQ_val, rdQ_own, wpr_rdO, wpr_wrOp, wpr_mopO, wpr_mmut, wpr_setI, owQ_own, wp_setO, wp_tup, wp_lst, wp_olst, wp_list, wp_tuple, wp_range1, wp_range2, wp_part, wp_slice, wp_tru, wp_andV, wp_orV, wp_notV, seqQ_rt, seqQ_ro, seqQ_bk, seqQ_ct, gath, scat, scat1, pos, ownAt, clQ_nx, clQ_rt, clQ_ro, lpQ_nx, lpQ_ct, lpQ_bk, lpQ_rt, lpQ_ro, mrg1, q_I0, q_I, q_ixL, q_ixT, q_ixO, q_lenL, q_lenT, q_lenO, q_sum, q_listL, q_listT, q_abs, q_max2, q_min2, q_slL, q_neg, q_append, q_setI, q_cMul, q_cDiv, q_cPos, q_cPow, at0, at1, at2, at3, at4, at5, ix0, ix1, okW, isOwn, wipeR, restR, wp_chain, wp_zip, wp_enum, wp_str, wp_slO, wp_rdON, wp_put, wp_swap, wp_str0, wp_mownS, wp_keys, wp_mdcomp, endQ_nx, endQ_rt, endO_ro, q_isiI, q_isiB, q_isiS, q_isiT, q_isiL, q_isiTL, q_all, q_any, q_ltS, q_addS, q_inS, q_ninS, q_lenS, q_lenD, q_zipT, q_zipL, q_catT, q_catL, q_slT, q_slS, q_tupleL, q_tupleT, q_tupO, q_lstO, q_listNL, q_listNT, q_insert, q_upper, q_nu2I, q_nu2B, q_nu1I, q_nu1B, q_strI, q_strB, q_strS, q_ixA_T, q_ixA_L, q_ixA_S, q_ixS, q_eqII, q_neII, q_eqSS, q_neSS, q_eqBB, q_neBB, q_dgetS, q_dgetI, q_dinS, q_dinI, at6, at7, gT, gsCons, gsNil, gN, keyOfD, someQ_some, someQ_if, someQ_map, q_allM, q_anyM, i_BN, i_BB, i_BI, i_BS, i_BL, i_BT, i_BD, i_IN, i_IB, i_II, i_IS, i_IL, i_IT, i_ID, i_SN, i_SB, i_SI, i_SS, i_SL, i_ST, i_SD, i_TN, i_TB, i_TI, i_TS, i_TL, i_TT, i_TD, i_LN, i_LB, i_LI, i_LS, i_LL, i_LT, i_LD, sizeLine_eq, -List.map_map, -List.map_take]
    rw [seqQ_nx, wp_seq]
    simp [wp_set, wp_sret, wp_sretO, wp_expr, wp_for, wp_sif, wp_mif, wp_mand, wp_mor, wp_mnot, wp_mtest, wp_bnd, wp_ret, wp_some, wp_mcons, wp_nx, wp_bk, wp_ct, wp_asg, wp_mlc, wp_molc, wp_mcomp, wp_callV, wp_callO, wp_macons, wpr_maown, anQ_own, wpr_aug, auQ_val, wpr, rdQ_val, rdQ_own, wpr_rdO, wpr_wrOp, wpr_mopO, wpr_mmut, wpr_setI, owQ_own, wp_setO, wp_tup, wp_lst, wp_olst, wp_list, wp_tuple, wp_range1, wp_range2, wp_part, wp_slice, wp_tru, wp_andV, wp_orV, wp_notV, seqQ_rt, seqQ_ro, seqQ_bk, seqQ_ct, gath, scat, scat1, pos, ownAt, clQ_nx, clQ_rt, clQ_ro, lpQ_nx, lpQ_ct, lpQ_bk, lpQ_rt, lpQ_ro, mrg1, q_I0, q_I, q_ixL, q_ixT, q_ixO, q_lenL, q_lenT, q_lenO, q_sum, q_listL, q_listT, q_abs, q_max2, q_min2, q_slL, q_neg, q_append, q_setI, q_cMul, q_cDiv, q_cPos, q_cPow, at0, at1, at2, at3, at4, at5, ix0, ix1, okW, isOwn, wipeR, restR, wp_chain, wp_zip, wp_enum, wp_str, wp_slO, wp_rdON, wp_put, wp_swap, wp_str0, wp_mownS, wp_keys, wp_mdcomp, endQ_nx, endQ_rt, endO_ro, q_isiI, q_isiB, q_isiS, q_isiT, q_isiL, q_isiTL, q_all, q_any, q_ltS, q_addS, q_inS, q_ninS, q_lenS, q_lenD, q_zipT, q_zipL, q_catT, q_catL, q_slT, q_slS, q_tupleL, q_tupleT, q_tupO, q_lstO, q_listNL, q_listNT, q_insert, q_upper, q_nu2I, q_nu2B, q_nu1I, q_nu1B, q_strI, q_strB, q_strS, q_ixA_T, q_ixA_L, q_ixA_S, q_ixS, q_eqII, q_neII, q_eqSS, q_neSS, q_eqBB, q_neBB, q_dgetS, q_dgetI, q_dinS, q_dinI, at6, at7, gT, gsCons, gsNil, gN, keyOfD, someQ_some, someQ_if, someQ_map, q_allM, q_anyM, i_BN, i_BB, i_BI, i_BS, i_BL, i_BT, i_BD, i_IN, i_IB, i_II, i_IS, i_IL, i_IT, i_ID, i_SN, i_SB, i_SI, i_SS, i_SL, i_ST, i_SD, i_TN, i_TB, i_TI, i_TS, i_TL, i_TT, i_TD, i_LN, i_LB, i_LI, i_LS, i_LL, i_LT, i_LD, sizeLine_eq, -List.map_map, -List.map_take]
    refine ⟨by omega, ?_⟩
    refine wp_loop (fun i (ρ : List (Sl Empty)) => ∃ a b x8 x9 x10 x11 x12 x13, ∃ fs : List St, Gen kind os i fs ∧ ρ = [bagS a b, .val (.int kind), .val (.int m), .val (.list ((names8.take m).map PyData.str)), .own (.seq (os.map PyData.str)), x, .val (.bool row), .own (.seq (fs.map tD)), x8, x9, x10, x11, x12, x13]) ⟨_, _, _, _, _, _, _, _, [], ⟨rfl, fun j t e => by simp at e⟩, rfl⟩ ?_ ?_
    · rintro i d ρ hd ⟨a, b, x8, x9, x10, x11, x12, x13, fs, hG, rfl⟩
      obtain ⟨hi, rfl⟩ := rng_get hd
      refine ⟨_, rfl, ?_⟩
      have hil : i < os.length := by omega
      obtain ⟨y, hy⟩ : ∃ y, os[i]? = some y := ⟨os[i], List.getElem?_eq_getElem hil⟩
      have hyo : atI (os.map PyData.str) (i : Int) = some (.str y) := at_lt (by rw [List.getElem?_map, hy]; rfl)
      simp only [List.set_cons_succ, List.set_cons_zero, Int.zero_add]
      rw [wp_seq]
      have habove : ∀ {R : D → List (Sl Empty) → Prop} {σ : List (Sl Empty)} {a b : Int}, (∀ (z : PySem.Str) (a b : Int), (z = "" ∨ z ∈ os.take i) → R (.str z) ([bagS a b, .val (.int kind), .val (.int m), .val (.list ((names8.take m).map PyData.str)), .own (.seq (os.map PyData.str)), x, .val (.bool row), .own (.seq (fs.map tD)), .val (.int i), x9, x10, x11, x12, x13])) →
          WPm (mif (mtest (mbnd (rd 8) fun x => mbnd (mret (PyData.int 0)) fun y => mlft (gGt x y))) (mcallV (maown 0 (macons (mbnd (mlst (mcons (mret (PyData.str (PySem.Str.ofString ""))) (mret []))) fun x => mbnd (mslO 4 (mret none) (mpart (rd 8))) fun y => mlft (Option.map PyData.list (gCatL x y))) (mret []))) g__law_of) (mret (PyData.str (PySem.Str.ofString ""))))
            [bagS a b, .val (.int kind), .val (.int m), .val (.list ((names8.take m).map PyData.str)), .own (.seq (os.map PyData.str)), x, .val (.bool row), .own (.seq (fs.map tD)), .val (.int i), x9, x10, x11, x12, x13] R := by
        intro R σ a b hR
        by_cases h0 : 0 < i
        · simp [wp_set, wp_sret, wp_sretO, wp_expr, wp_for, wp_sif, wp_mif, wp_mand, wp_mor, wp_mnot, wp_mtest, wp_bnd, wp_ret, wp_some, wp_mcons, wp_nx, wp_bk, wp_ct, wp_asg, wp_mlc, wp_molc, wp_mcomp, wp_callV, wp_callO, wp_macons, wpr_maown, anQ_own, wpr_aug, auQ_val, wpr, rdQ_val, rdQ_own, wpr_rdO, wpr_wrOp, wpr_mopO, wpr_mmut, wpr_setI, owQ_own, wp_setO, wp_tup, wp_lst, wp_olst, wp_list, wp_tuple, wp_range1, wp_range2, wp_part, wp_slice, wp_tru, wp_andV, wp_orV, wp_notV, seqQ_rt, seqQ_ro, seqQ_bk, seqQ_ct, gath, scat, scat1, pos, ownAt, clQ_nx, clQ_rt, clQ_ro, lpQ_nx, lpQ_ct, lpQ_bk, lpQ_rt, lpQ_ro, mrg1, q_I0, q_I, q_ixL, q_ixT, q_ixO, q_lenL, q_lenT, q_lenO, q_sum, q_listL, q_listT, q_abs, q_max2, q_min2, q_slL, q_neg, q_append, q_setI, q_cMul, q_cDiv, q_cPos, q_cPow, at0, at1, at2, at3, at4, at5, ix0, ix1, okW, isOwn, wipeR, restR, wp_chain, wp_zip, wp_enum, wp_str, wp_slO, wp_rdON, wp_put, wp_swap, wp_str0, wp_mownS, wp_keys, wp_mdcomp, endQ_nx, endQ_rt, endO_ro, q_isiI, q_isiB, q_isiS, q_isiT, q_isiL, q_isiTL, q_all, q_any, q_ltS, q_addS, q_inS, q_ninS, q_lenS, q_lenD, q_zipT, q_zipL, q_catT, q_catL, q_slT, q_slS, q_tupleL, q_tupleT, q_tupO, q_lstO, q_listNL, q_listNT, q_insert, q_upper, q_nu2I, q_nu2B, q_nu1I, q_nu1B, q_strI, q_strB, q_strS, q_ixA_T, q_ixA_L, q_ixA_S, q_ixS, q_eqII, q_neII, q_eqSS, q_neSS, q_eqBB, q_neBB, q_dgetS, q_dgetI, q_dinS, q_dinI, at6, at7, gT, gsCons, gsNil, gN, keyOfD, someQ_some, someQ_if, someQ_map, q_allM, q_anyM, i_BN, i_BB, i_BI, i_BS, i_BL, i_BT, i_BD, i_IN, i_IB, i_II, i_IS, i_IL, i_IT, i_ID, i_SN, i_SB, i_SI, i_SS, i_SL, i_ST, i_SD, i_TN, i_TB, i_TI, i_TS, i_TL, i_TT, i_TD, i_LN, i_LB, i_LI, i_LS, i_LL, i_LT, i_LD, sizeLine_eq, h0, -List.map_map, -List.map_take]
          rw [cut_to _ i (by simp; omega)]
          have hlen : (List.take i (os.map PyData.str)).length ≤ i := by rw [List.length_take]; exact Nat.min_le_left _ _
          rw [if_pos (by omega), wp_some]
          refine of_step (by simp; omega) fun w a b hw => ?_
          simp [wp_set, wp_sret, wp_sretO, wp_expr, wp_for, wp_sif, wp_mif, wp_mand, wp_mor, wp_mnot, wp_mtest, wp_bnd, wp_ret, wp_some, wp_mcons, wp_nx, wp_bk, wp_ct, wp_asg, wp_mlc, wp_molc, wp_mcomp, wp_callV, wp_callO, wp_macons, wpr_maown, anQ_own, wpr_aug, auQ_val, wpr, rdQ_val, rdQ_own, wpr_rdO, wpr_wrOp, wpr_mopO, wpr_mmut, wpr_setI, owQ_own, wp_setO, wp_tup, wp_lst, wp_olst, wp_list, wp_tuple, wp_range1, wp_range2, wp_part, wp_slice, wp_tru, wp_andV, wp_orV, wp_notV, seqQ_rt, seqQ_ro, seqQ_bk, seqQ_ct, gath, scat, scat1, pos, ownAt, clQ_nx, clQ_rt, clQ_ro, lpQ_nx, lpQ_ct, lpQ_bk, lpQ_rt, lpQ_ro, mrg1, q_I0, q_I, q_ixL, q_ixT, q_ixO, q_lenL, q_lenT, q_lenO, q_sum, q_listL, q_listT, q_abs, q_max2, q_min2, q_slL, q_neg, q_append, q_setI, q_cMul, q_cDiv, q_cPos, q_cPow, at0, at1, at2, at3, at4, at5, ix0, ix1, okW, isOwn, wipeR, restR, wp_chain, wp_zip, wp_enum, wp_str, wp_slO, wp_rdON, wp_put, wp_swap, wp_str0, wp_mownS, wp_keys, wp_mdcomp, endQ_nx, endQ_rt, endO_ro, q_isiI, q_isiB, q_isiS, q_isiT, q_isiL, q_isiTL, q_all, q_any, q_ltS, q_addS, q_inS, q_ninS, q_lenS, q_lenD, q_zipT, q_zipL, q_catT, q_catL, q_slT, q_slS, q_tupleL, q_tupleT, q_tupO, q_lstO, q_listNL, q_listNT, q_insert, q_upper, q_nu2I, q_nu2B, q_nu1I, q_nu1B, q_strI, q_strB, q_strS, q_ixA_T, q_ixA_L, q_ixA_S, q_ixS, q_eqII, q_neII, q_eqSS, q_neSS, q_eqBB, q_neBB, q_dgetS, q_dgetI, q_dinS, q_dinI, at6, at7, gT, gsCons, gsNil, gN, keyOfD, someQ_some, someQ_if, someQ_map, q_allM, q_anyM, i_BN, i_BB, i_BI, i_BS, i_BL, i_BT, i_BD, i_IN, i_IB, i_II, i_IS, i_IL, i_IT, i_ID, i_SN, i_SB, i_SI, i_SS, i_SL, i_ST, i_SD, i_TN, i_TB, i_TI, i_TS, i_TL, i_TT, i_TD, i_LN, i_LB, i_LI, i_LS, i_LL, i_LT, i_LD, sizeLine_eq, -List.map_map, -List.map_take]
          rcases List.mem_cons.mp hw with rfl | hw
          · exact hR _ _ _ (.inl rfl)
          · rw [← List.map_take] at hw
            obtain ⟨z, hz, rfl⟩ := List.mem_map.mp hw
            exact hR _ _ _ (.inr hz)
        · simp [wp_set, wp_sret, wp_sretO, wp_expr, wp_for, wp_sif, wp_mif, wp_mand, wp_mor, wp_mnot, wp_mtest, wp_bnd, wp_ret, wp_some, wp_mcons, wp_nx, wp_bk, wp_ct, wp_asg, wp_mlc, wp_molc, wp_mcomp, wp_callV, wp_callO, wp_macons, wpr_maown, anQ_own, wpr_aug, auQ_val, wpr, rdQ_val, rdQ_own, wpr_rdO, wpr_wrOp, wpr_mopO, wpr_mmut, wpr_setI, owQ_own, wp_setO, wp_tup, wp_lst, wp_olst, wp_list, wp_tuple, wp_range1, wp_range2, wp_part, wp_slice, wp_tru, wp_andV, wp_orV, wp_notV, seqQ_rt, seqQ_ro, seqQ_bk, seqQ_ct, gath, scat, scat1, pos, ownAt, clQ_nx, clQ_rt, clQ_ro, lpQ_nx, lpQ_ct, lpQ_bk, lpQ_rt, lpQ_ro, mrg1, q_I0, q_I, q_ixL, q_ixT, q_ixO, q_lenL, q_lenT, q_lenO, q_sum, q_listL, q_listT, q_abs, q_max2, q_min2, q_slL, q_neg, q_append, q_setI, q_cMul, q_cDiv, q_cPos, q_cPow, at0, at1, at2, at3, at4, at5, ix0, ix1, okW, isOwn, wipeR, restR, wp_chain, wp_zip, wp_enum, wp_str, wp_slO, wp_rdON, wp_put, wp_swap, wp_str0, wp_mownS, wp_keys, wp_mdcomp, endQ_nx, endQ_rt, endO_ro, q_isiI, q_isiB, q_isiS, q_isiT, q_isiL, q_isiTL, q_all, q_any, q_ltS, q_addS, q_inS, q_ninS, q_lenS, q_lenD, q_zipT, q_zipL, q_catT, q_catL, q_slT, q_slS, q_tupleL, q_tupleT, q_tupO, q_lstO, q_listNL, q_listNT, q_insert, q_upper, q_nu2I, q_nu2B, q_nu1I, q_nu1B, q_strI, q_strB, q_strS, q_ixA_T, q_ixA_L, q_ixA_S, q_ixS, q_eqII, q_neII, q_eqSS, q_neSS, q_eqBB, q_neBB, q_dgetS, q_dgetI, q_dinS, q_dinI, at6, at7, gT, gsCons, gsNil, gN, keyOfD, someQ_some, someQ_if, someQ_map, q_allM, q_anyM, i_BN, i_BB, i_BI, i_BS, i_BL, i_BT, i_BD, i_IN, i_IB, i_II, i_IS, i_IL, i_IT, i_ID, i_SN, i_SB, i_SI, i_SS, i_SL, i_ST, i_SD, i_TN, i_TB, i_TI, i_TS, i_TL, i_TT, i_TD, i_LN, i_LB, i_LI, i_LS, i_LL, i_LT, i_LD, sizeLine_eq, h0, -List.map_map, -List.map_take]
          exact hR _ _ _ (.inl rfl)
      simp only [wp_set]
      refine habove (σ := []) fun z a b hz => ?_
      simp [wp_set, wp_sret, wp_sretO, wp_expr, wp_for, wp_sif, wp_mif, wp_mand, wp_mor, wp_mnot, wp_mtest, wp_bnd, wp_ret, wp_some, wp_mcons, wp_nx, wp_bk, wp_ct, wp_asg, wp_mlc, wp_molc, wp_mcomp, wp_callV, wp_callO, wp_macons, wpr_maown, anQ_own, wpr_aug, auQ_val, wpr, rdQ_val, rdQ_own, wpr_rdO, wpr_wrOp, wpr_mopO, wpr_mmut, wpr_setI, owQ_own, wp_setO, wp_tup, wp_lst, wp_olst, wp_list, wp_tuple, wp_range1, wp_range2, wp_part, wp_slice, wp_tru, wp_andV, wp_orV, wp_notV, seqQ_rt, seqQ_ro, seqQ_bk, seqQ_ct, gath, scat, scat1, pos, ownAt, clQ_nx, clQ_rt, clQ_ro, lpQ_nx, lpQ_ct, lpQ_bk, lpQ_rt, lpQ_ro, mrg1, q_I0, q_I, q_ixL, q_ixT, q_ixO, q_lenL, q_lenT, q_lenO, q_sum, q_listL, q_listT, q_abs, q_max2, q_min2, q_slL, q_neg, q_append, q_setI, q_cMul, q_cDiv, q_cPos, q_cPow, at0, at1, at2, at3, at4, at5, ix0, ix1, okW, isOwn, wipeR, restR, wp_chain, wp_zip, wp_enum, wp_str, wp_slO, wp_rdON, wp_put, wp_swap, wp_str0, wp_mownS, wp_keys, wp_mdcomp, endQ_nx, endQ_rt, endO_ro, q_isiI, q_isiB, q_isiS, q_isiT, q_isiL, q_isiTL, q_all, q_any, q_ltS, q_addS, q_inS, q_ninS, q_lenS, q_lenD, q_zipT, q_zipL, q_catT, q_catL, q_slT, q_slS, q_tupleL, q_tupleT, q_tupO, q_lstO, q_listNL, q_listNT, q_insert, q_upper, q_nu2I, q_nu2B, q_nu1I, q_nu1B, q_strI, q_strB, q_strS, q_ixA_T, q_ixA_L, q_ixA_S, q_ixS, q_eqII, q_neII, q_eqSS, q_neSS, q_eqBB, q_neBB, q_dgetS, q_dgetI, q_dinS, q_dinI, at6, at7, gT, gsCons, gsNil, gN, keyOfD, someQ_some, someQ_if, someQ_map, q_allM, q_anyM, i_BN, i_BB, i_BI, i_BS, i_BL, i_BT, i_BD, i_IN, i_IB, i_II, i_IS, i_IL, i_IT, i_ID, i_SN, i_SB, i_SI, i_SS, i_SL, i_ST, i_SD, i_TN, i_TB, i_TI, i_TS, i_TL, i_TT, i_TD, i_LN, i_LB, i_LI, i_LS, i_LL, i_LT, i_LD, sizeLine_eq, -List.map_map, -List.map_take]
      rw [seqQ_nx, wp_seq]
      refine wp_mono (Q := fun o (ρ' : List (Sl Empty)) => ∃ z : PySem.Str, (z = "" ∨ z ∈ os.take i) ∧ o = .nx ∧ ρ' = [bagS a b, .val (.int kind), .val (.int m), .val (.list ((names8.take m).map PyData.str)), .own (.seq (os.map PyData.str)), x, .val (.bool row), .own (.seq (fs.map tD)), .val (.int i), .val (.str z), x10, x11, x12, x13]) ?_ ?_
      · by_cases h0 : 0 < i
        · have hlt : i - 1 < os.length := by omega
          have hp1 : atI (os.map PyData.str) ((i : Int) - 1) = some (.str os[i - 1]) := by
            rw [show (i : Int) - 1 = ((i - 1 : Nat) : Int) by omega]
            exact at_lt (by rw [List.getElem?_map, List.getElem?_eq_getElem hlt]; rfl)
          cases row
          · simp [wp_set, wp_sret, wp_sretO, wp_expr, wp_for, wp_sif, wp_mif, wp_mand, wp_mor, wp_mnot, wp_mtest, wp_bnd, wp_ret, wp_some, wp_mcons, wp_nx, wp_bk, wp_ct, wp_asg, wp_mlc, wp_molc, wp_mcomp, wp_callV, wp_callO, wp_macons, wpr_maown, anQ_own, wpr_aug, auQ_val, wpr, rdQ_val, rdQ_own, wpr_rdO, wpr_wrOp, wpr_mopO, wpr_mmut, wpr_setI, owQ_own, wp_setO, wp_tup, wp_lst, wp_olst, wp_list, wp_tuple, wp_range1, wp_range2, wp_part, wp_slice, wp_tru, wp_andV, wp_orV, wp_notV, seqQ_rt, seqQ_ro, seqQ_bk, seqQ_ct, gath, scat, scat1, pos, ownAt, clQ_nx, clQ_rt, clQ_ro, lpQ_nx, lpQ_ct, lpQ_bk, lpQ_rt, lpQ_ro, mrg1, q_I0, q_I, q_ixL, q_ixT, q_ixO, q_lenL, q_lenT, q_lenO, q_sum, q_listL, q_listT, q_abs, q_max2, q_min2, q_slL, q_neg, q_append, q_setI, q_cMul, q_cDiv, q_cPos, q_cPow, at0, at1, at2, at3, at4, at5, ix0, ix1, okW, isOwn, wipeR, restR, wp_chain, wp_zip, wp_enum, wp_str, wp_slO, wp_rdON, wp_put, wp_swap, wp_str0, wp_mownS, wp_keys, wp_mdcomp, endQ_nx, endQ_rt, endO_ro, q_isiI, q_isiB, q_isiS, q_isiT, q_isiL, q_isiTL, q_all, q_any, q_ltS, q_addS, q_inS, q_ninS, q_lenS, q_lenD, q_zipT, q_zipL, q_catT, q_catL, q_slT, q_slS, q_tupleL, q_tupleT, q_tupO, q_lstO, q_listNL, q_listNT, q_insert, q_upper, q_nu2I, q_nu2B, q_nu1I, q_nu1B, q_strI, q_strB, q_strS, q_ixA_T, q_ixA_L, q_ixA_S, q_ixS, q_eqII, q_neII, q_eqSS, q_neSS, q_eqBB, q_neBB, q_dgetS, q_dgetI, q_dinS, q_dinI, at6, at7, gT, gsCons, gsNil, gN, keyOfD, someQ_some, someQ_if, someQ_map, q_allM, q_anyM, i_BN, i_BB, i_BI, i_BS, i_BL, i_BT, i_BD, i_IN, i_IB, i_II, i_IS, i_IL, i_IT, i_ID, i_SN, i_SB, i_SI, i_SS, i_SL, i_ST, i_SD, i_TN, i_TB, i_TI, i_TS, i_TL, i_TT, i_TD, i_LN, i_LB, i_LI, i_LS, i_LL, i_LT, i_LD, sizeLine_eq, h0, -List.map_map, -List.map_take]
            exact hz
          · simp [wp_set, wp_sret, wp_sretO, wp_expr, wp_for, wp_sif, wp_mif, wp_mand, wp_mor, wp_mnot, wp_mtest, wp_bnd, wp_ret, wp_some, wp_mcons, wp_nx, wp_bk, wp_ct, wp_asg, wp_mlc, wp_molc, wp_mcomp, wp_callV, wp_callO, wp_macons, wpr_maown, anQ_own, wpr_aug, auQ_val, wpr, rdQ_val, rdQ_own, wpr_rdO, wpr_wrOp, wpr_mopO, wpr_mmut, wpr_setI, owQ_own, wp_setO, wp_tup, wp_lst, wp_olst, wp_list, wp_tuple, wp_range1, wp_range2, wp_part, wp_slice, wp_tru, wp_andV, wp_orV, wp_notV, seqQ_rt, seqQ_ro, seqQ_bk, seqQ_ct, gath, scat, scat1, pos, ownAt, clQ_nx, clQ_rt, clQ_ro, lpQ_nx, lpQ_ct, lpQ_bk, lpQ_rt, lpQ_ro, mrg1, q_I0, q_I, q_ixL, q_ixT, q_ixO, q_lenL, q_lenT, q_lenO, q_sum, q_listL, q_listT, q_abs, q_max2, q_min2, q_slL, q_neg, q_append, q_setI, q_cMul, q_cDiv, q_cPos, q_cPow, at0, at1, at2, at3, at4, at5, ix0, ix1, okW, isOwn, wipeR, restR, wp_chain, wp_zip, wp_enum, wp_str, wp_slO, wp_rdON, wp_put, wp_swap, wp_str0, wp_mownS, wp_keys, wp_mdcomp, endQ_nx, endQ_rt, endO_ro, q_isiI, q_isiB, q_isiS, q_isiT, q_isiL, q_isiTL, q_all, q_any, q_ltS, q_addS, q_inS, q_ninS, q_lenS, q_lenD, q_zipT, q_zipL, q_catT, q_catL, q_slT, q_slS, q_tupleL, q_tupleT, q_tupO, q_lstO, q_listNL, q_listNT, q_insert, q_upper, q_nu2I, q_nu2B, q_nu1I, q_nu1B, q_strI, q_strB, q_strS, q_ixA_T, q_ixA_L, q_ixA_S, q_ixS, q_eqII, q_neII, q_eqSS, q_neSS, q_eqBB, q_neBB, q_dgetS, q_dgetI, q_dinS, q_dinI, at6, at7, gT, gsCons, gsNil, gN, keyOfD, someQ_some, someQ_if, someQ_map, q_allM, q_anyM, i_BN, i_BB, i_BI, i_BS, i_BL, i_BT, i_BD, i_IN, i_IB, i_II, i_IS, i_IL, i_IT, i_ID, i_SN, i_SB, i_SI, i_SS, i_SL, i_ST, i_SD, i_TN, i_TB, i_TI, i_TS, i_TL, i_TT, i_TD, i_LN, i_LB, i_LI, i_LS, i_LL, i_LT, i_LD, sizeLine_eq, h0, hp1, -List.map_map, -List.map_take]
            right
            exact List.mem_of_getElem? (i := i - 1) (by rw [List.getElem?_take, if_pos (by omega), List.getElem?_eq_getElem hlt])
        · cases row <;> simp [wp_set, wp_sret, wp_sretO, wp_expr, wp_for, wp_sif, wp_mif, wp_mand, wp_mor, wp_mnot, wp_mtest, wp_bnd, wp_ret, wp_some, wp_mcons, wp_nx, wp_bk, wp_ct, wp_asg, wp_mlc, wp_molc, wp_mcomp, wp_callV, wp_callO, wp_macons, wpr_maown, anQ_own, wpr_aug, auQ_val, wpr, rdQ_val, rdQ_own, wpr_rdO, wpr_wrOp, wpr_mopO, wpr_mmut, wpr_setI, owQ_own, wp_setO, wp_tup, wp_lst, wp_olst, wp_list, wp_tuple, wp_range1, wp_range2, wp_part, wp_slice, wp_tru, wp_andV, wp_orV, wp_notV, seqQ_rt, seqQ_ro, seqQ_bk, seqQ_ct, gath, scat, scat1, pos, ownAt, clQ_nx, clQ_rt, clQ_ro, lpQ_nx, lpQ_ct, lpQ_bk, lpQ_rt, lpQ_ro, mrg1, q_I0, q_I, q_ixL, q_ixT, q_ixO, q_lenL, q_lenT, q_lenO, q_sum, q_listL, q_listT, q_abs, q_max2, q_min2, q_slL, q_neg, q_append, q_setI, q_cMul, q_cDiv, q_cPos, q_cPow, at0, at1, at2, at3, at4, at5, ix0, ix1, okW, isOwn, wipeR, restR, wp_chain, wp_zip, wp_enum, wp_str, wp_slO, wp_rdON, wp_put, wp_swap, wp_str0, wp_mownS, wp_keys, wp_mdcomp, endQ_nx, endQ_rt, endO_ro, q_isiI, q_isiB, q_isiS, q_isiT, q_isiL, q_isiTL, q_all, q_any, q_ltS, q_addS, q_inS, q_ninS, q_lenS, q_lenD, q_zipT, q_zipL, q_catT, q_catL, q_slT, q_slS, q_tupleL, q_tupleT, q_tupO, q_lstO, q_listNL, q_listNT, q_insert, q_upper, q_nu2I, q_nu2B, q_nu1I, q_nu1B, q_strI, q_strB, q_strS, q_ixA_T, q_ixA_L, q_ixA_S, q_ixS, q_eqII, q_neII, q_eqSS, q_neSS, q_eqBB, q_neBB, q_dgetS, q_dgetI, q_dinS, q_dinI, at6, at7, gT, gsCons, gsNil, gN, keyOfD, someQ_some, someQ_if, someQ_map, q_allM, q_anyM, i_BN, i_BB, i_BI, i_BS, i_BL, i_BT, i_BD, i_IN, i_IB, i_II, i_IS, i_IL, i_IT, i_ID, i_SN, i_SB, i_SI, i_SS, i_SL, i_ST, i_SD, i_TN, i_TB, i_TI, i_TS, i_TL, i_TT, i_TD, i_LN, i_LB, i_LI, i_LS, i_LL, i_LT, i_LD, sizeLine_eq, h0, -List.map_map, -List.map_take] <;> exact hz
      rintro o ρ' ⟨z, hz, rfl, rfl⟩
      rw [seqQ_nx, wp_seq]
      simp [wp_set, wp_sret, wp_sretO, wp_expr, wp_for, wp_sif, wp_mif, wp_mand, wp_mor, wp_mnot, wp_mtest, wp_bnd, wp_ret, wp_some, wp_mcons, wp_nx, wp_bk, wp_ct, wp_asg, wp_mlc, wp_molc, wp_mcomp, wp_callV, wp_callO, wp_macons, wpr_maown, anQ_own, wpr_aug, auQ_val, wpr, rdQ_val, rdQ_own, wpr_rdO, wpr_wrOp, wpr_mopO, wpr_mmut, wpr_setI, owQ_own, wp_setO, wp_tup, wp_lst, wp_olst, wp_list, wp_tuple, wp_range1, wp_range2, wp_part, wp_slice, wp_tru, wp_andV, wp_orV, wp_notV, seqQ_rt, seqQ_ro, seqQ_bk, seqQ_ct, gath, scat, scat1, pos, ownAt, clQ_nx, clQ_rt, clQ_ro, lpQ_nx, lpQ_ct, lpQ_bk, lpQ_rt, lpQ_ro, mrg1, q_I0, q_I, q_ixL, q_ixT, q_ixO, q_lenL, q_lenT, q_lenO, q_sum, q_listL, q_listT, q_abs, q_max2, q_min2, q_slL, q_neg, q_append, q_setI, q_cMul, q_cDiv, q_cPos, q_cPow, at0, at1, at2, at3, at4, at5, ix0, ix1, okW, isOwn, wipeR, restR, wp_chain, wp_zip, wp_enum, wp_str, wp_slO, wp_rdON, wp_put, wp_swap, wp_str0, wp_mownS, wp_keys, wp_mdcomp, endQ_nx, endQ_rt, endO_ro, q_isiI, q_isiB, q_isiS, q_isiT, q_isiL, q_isiTL, q_all, q_any, q_ltS, q_addS, q_inS, q_ninS, q_lenS, q_lenD, q_zipT, q_zipL, q_catT, q_catL, q_slT, q_slS, q_tupleL, q_tupleT, q_tupO, q_lstO, q_listNL, q_listNT, q_insert, q_upper, q_nu2I, q_nu2B, q_nu1I, q_nu1B, q_strI, q_strB, q_strS, q_ixA_T, q_ixA_L, q_ixA_S, q_ixS, q_eqII, q_neII, q_eqSS, q_neSS, q_eqBB, q_neBB, q_dgetS, q_dgetI, q_dinS, q_dinI, at6, at7, gT, gsCons, gsNil, gN, keyOfD, someQ_some, someQ_if, someQ_map, q_allM, q_anyM, i_BN, i_BB, i_BI, i_BS, i_BL, i_BT, i_BD, i_IN, i_IB, i_II, i_IS, i_IL, i_IT, i_ID, i_SN, i_SB, i_SI, i_SS, i_SL, i_ST, i_SD, i_TN, i_TB, i_TI, i_TS, i_TL, i_TT, i_TD, i_LN, i_LB, i_LI, i_LS, i_LL, i_LT, i_LD, sizeLine_eq, -List.map_map, -List.map_take]
      refine take_step (by decide) fun b1 a b g0 g1 => ?_
      simp [wp_set, wp_sret, wp_sretO, wp_expr, wp_for, wp_sif, wp_mif, wp_mand, wp_mor, wp_mnot, wp_mtest, wp_bnd, wp_ret, wp_some, wp_mcons, wp_nx, wp_bk, wp_ct, wp_asg, wp_mlc, wp_molc, wp_mcomp, wp_callV, wp_callO, wp_macons, wpr_maown, anQ_own, wpr_aug, auQ_val, wpr, rdQ_val, rdQ_own, wpr_rdO, wpr_wrOp, wpr_mopO, wpr_mmut, wpr_setI, owQ_own, wp_setO, wp_tup, wp_lst, wp_olst, wp_list, wp_tuple, wp_range1, wp_range2, wp_part, wp_slice, wp_tru, wp_andV, wp_orV, wp_notV, seqQ_rt, seqQ_ro, seqQ_bk, seqQ_ct, gath, scat, scat1, pos, ownAt, clQ_nx, clQ_rt, clQ_ro, lpQ_nx, lpQ_ct, lpQ_bk, lpQ_rt, lpQ_ro, mrg1, q_I0, q_I, q_ixL, q_ixT, q_ixO, q_lenL, q_lenT, q_lenO, q_sum, q_listL, q_listT, q_abs, q_max2, q_min2, q_slL, q_neg, q_append, q_setI, q_cMul, q_cDiv, q_cPos, q_cPow, at0, at1, at2, at3, at4, at5, ix0, ix1, okW, isOwn, wipeR, restR, wp_chain, wp_zip, wp_enum, wp_str, wp_slO, wp_rdON, wp_put, wp_swap, wp_str0, wp_mownS, wp_keys, wp_mdcomp, endQ_nx, endQ_rt, endO_ro, q_isiI, q_isiB, q_isiS, q_isiT, q_isiL, q_isiTL, q_all, q_any, q_ltS, q_addS, q_inS, q_ninS, q_lenS, q_lenD, q_zipT, q_zipL, q_catT, q_catL, q_slT, q_slS, q_tupleL, q_tupleT, q_tupO, q_lstO, q_listNL, q_listNT, q_insert, q_upper, q_nu2I, q_nu2B, q_nu1I, q_nu1B, q_strI, q_strB, q_strS, q_ixA_T, q_ixA_L, q_ixA_S, q_ixS, q_eqII, q_neII, q_eqSS, q_neSS, q_eqBB, q_neBB, q_dgetS, q_dgetI, q_dinS, q_dinI, at6, at7, gT, gsCons, gsNil, gN, keyOfD, someQ_some, someQ_if, someQ_map, q_allM, q_anyM, i_BN, i_BB, i_BI, i_BS, i_BL, i_BT, i_BD, i_IN, i_IB, i_II, i_IS, i_IL, i_IT, i_ID, i_SN, i_SB, i_SI, i_SS, i_SL, i_ST, i_SD, i_TN, i_TB, i_TI, i_TS, i_TL, i_TT, i_TD, i_LN, i_LB, i_LI, i_LS, i_LL, i_LT, i_LD, sizeLine_eq, -List.map_map, -List.map_take]
      refine take_step (by decide) fun b2 a b g2 g3 => ?_
      simp [wp_set, wp_sret, wp_sretO, wp_expr, wp_for, wp_sif, wp_mif, wp_mand, wp_mor, wp_mnot, wp_mtest, wp_bnd, wp_ret, wp_some, wp_mcons, wp_nx, wp_bk, wp_ct, wp_asg, wp_mlc, wp_molc, wp_mcomp, wp_callV, wp_callO, wp_macons, wpr_maown, anQ_own, wpr_aug, auQ_val, wpr, rdQ_val, rdQ_own, wpr_rdO, wpr_wrOp, wpr_mopO, wpr_mmut, wpr_setI, owQ_own, wp_setO, wp_tup, wp_lst, wp_olst, wp_list, wp_tuple, wp_range1, wp_range2, wp_part, wp_slice, wp_tru, wp_andV, wp_orV, wp_notV, seqQ_rt, seqQ_ro, seqQ_bk, seqQ_ct, gath, scat, scat1, pos, ownAt, clQ_nx, clQ_rt, clQ_ro, lpQ_nx, lpQ_ct, lpQ_bk, lpQ_rt, lpQ_ro, mrg1, q_I0, q_I, q_ixL, q_ixT, q_ixO, q_lenL, q_lenT, q_lenO, q_sum, q_listL, q_listT, q_abs, q_max2, q_min2, q_slL, q_neg, q_append, q_setI, q_cMul, q_cDiv, q_cPos, q_cPow, at0, at1, at2, at3, at4, at5, ix0, ix1, okW, isOwn, wipeR, restR, wp_chain, wp_zip, wp_enum, wp_str, wp_slO, wp_rdON, wp_put, wp_swap, wp_str0, wp_mownS, wp_keys, wp_mdcomp, endQ_nx, endQ_rt, endO_ro, q_isiI, q_isiB, q_isiS, q_isiT, q_isiL, q_isiTL, q_all, q_any, q_ltS, q_addS, q_inS, q_ninS, q_lenS, q_lenD, q_zipT, q_zipL, q_catT, q_catL, q_slT, q_slS, q_tupleL, q_tupleT, q_tupO, q_lstO, q_listNL, q_listNT, q_insert, q_upper, q_nu2I, q_nu2B, q_nu1I, q_nu1B, q_strI, q_strB, q_strS, q_ixA_T, q_ixA_L, q_ixA_S, q_ixS, q_eqII, q_neII, q_eqSS, q_neSS, q_eqBB, q_neBB, q_dgetS, q_dgetI, q_dinS, q_dinI, at6, at7, gT, gsCons, gsNil, gN, keyOfD, someQ_some, someQ_if, someQ_map, q_allM, q_anyM, i_BN, i_BB, i_BI, i_BS, i_BL, i_BT, i_BD, i_IN, i_IB, i_II, i_IS, i_IL, i_IT, i_ID, i_SN, i_SB, i_SI, i_SS, i_SL, i_ST, i_SD, i_TN, i_TB, i_TI, i_TS, i_TL, i_TT, i_TD, i_LN, i_LB, i_LI, i_LS, i_LL, i_LT, i_LD, sizeLine_eq, -List.map_map, -List.map_take]
      refine take_step (by decide) fun b3 a b g4 g5 => ?_
      simp [wp_set, wp_sret, wp_sretO, wp_expr, wp_for, wp_sif, wp_mif, wp_mand, wp_mor, wp_mnot, wp_mtest, wp_bnd, wp_ret, wp_some, wp_mcons, wp_nx, wp_bk, wp_ct, wp_asg, wp_mlc, wp_molc, wp_mcomp, wp_callV, wp_callO, wp_macons, wpr_maown, anQ_own, wpr_aug, auQ_val, wpr, rdQ_val, rdQ_own, wpr_rdO, wpr_wrOp, wpr_mopO, wpr_mmut, wpr_setI, owQ_own, wp_setO, wp_tup, wp_lst, wp_olst, wp_list, wp_tuple, wp_range1, wp_range2, wp_part, wp_slice, wp_tru, wp_andV, wp_orV, wp_notV, seqQ_rt, seqQ_ro, seqQ_bk, seqQ_ct, gath, scat, scat1, pos, ownAt, clQ_nx, clQ_rt, clQ_ro, lpQ_nx, lpQ_ct, lpQ_bk, lpQ_rt, lpQ_ro, mrg1, q_I0, q_I, q_ixL, q_ixT, q_ixO, q_lenL, q_lenT, q_lenO, q_sum, q_listL, q_listT, q_abs, q_max2, q_min2, q_slL, q_neg, q_append, q_setI, q_cMul, q_cDiv, q_cPos, q_cPow, at0, at1, at2, at3, at4, at5, ix0, ix1, okW, isOwn, wipeR, restR, wp_chain, wp_zip, wp_enum, wp_str, wp_slO, wp_rdON, wp_put, wp_swap, wp_str0, wp_mownS, wp_keys, wp_mdcomp, endQ_nx, endQ_rt, endO_ro, q_isiI, q_isiB, q_isiS, q_isiT, q_isiL, q_isiTL, q_all, q_any, q_ltS, q_addS, q_inS, q_ninS, q_lenS, q_lenD, q_zipT, q_zipL, q_catT, q_catL, q_slT, q_slS, q_tupleL, q_tupleT, q_tupO, q_lstO, q_listNL, q_listNT, q_insert, q_upper, q_nu2I, q_nu2B, q_nu1I, q_nu1B, q_strI, q_strB, q_strS, q_ixA_T, q_ixA_L, q_ixA_S, q_ixS, q_eqII, q_neII, q_eqSS, q_neSS, q_eqBB, q_neBB, q_dgetS, q_dgetI, q_dinS, q_dinI, at6, at7, gT, gsCons, gsNil, gN, keyOfD, someQ_some, someQ_if, someQ_map, q_allM, q_anyM, i_BN, i_BB, i_BI, i_BS, i_BL, i_BT, i_BD, i_IN, i_IB, i_II, i_IS, i_IL, i_IT, i_ID, i_SN, i_SB, i_SI, i_SS, i_SL, i_ST, i_SD, i_TN, i_TB, i_TI, i_TS, i_TL, i_TT, i_TD, i_LN, i_LB, i_LI, i_LS, i_LL, i_LT, i_LD, sizeLine_eq, -List.map_map, -List.map_take]
      refine wp_atL g4 (by simpa using g5) fun d hd => ?_
      have hd : ∃ c : Int, d = .int c ∧ 0 ≤ c ∧ c ≤ 29 := by
        simp only [List.mem_cons, List.not_mem_nil, or_false] at hd
        rcases hd with rfl | rfl | rfl | rfl <;> exact ⟨_, rfl, by omega, by omega⟩
      obtain ⟨bs, rfl, hb0, hb29⟩ := hd
      rw [seqQ_nx, wp_seq]
      simp [wp_set, wp_sret, wp_sretO, wp_expr, wp_for, wp_sif, wp_mif, wp_mand, wp_mor, wp_mnot, wp_mtest, wp_bnd, wp_ret, wp_some, wp_mcons, wp_nx, wp_bk, wp_ct, wp_asg, wp_mlc, wp_molc, wp_mcomp, wp_callV, wp_callO, wp_macons, wpr_maown, anQ_own, wpr_aug, auQ_val, wpr, rdQ_val, rdQ_own, wpr_rdO, wpr_wrOp, wpr_mopO, wpr_mmut, wpr_setI, owQ_own, wp_setO, wp_tup, wp_lst, wp_olst, wp_list, wp_tuple, wp_range1, wp_range2, wp_part, wp_slice, wp_tru, wp_andV, wp_orV, wp_notV, seqQ_rt, seqQ_ro, seqQ_bk, seqQ_ct, gath, scat, scat1, pos, ownAt, clQ_nx, clQ_rt, clQ_ro, lpQ_nx, lpQ_ct, lpQ_bk, lpQ_rt, lpQ_ro, mrg1, q_I0, q_I, q_ixL, q_ixT, q_ixO, q_lenL, q_lenT, q_lenO, q_sum, q_listL, q_listT, q_abs, q_max2, q_min2, q_slL, q_neg, q_append, q_setI, q_cMul, q_cDiv, q_cPos, q_cPow, at0, at1, at2, at3, at4, at5, ix0, ix1, okW, isOwn, wipeR, restR, wp_chain, wp_zip, wp_enum, wp_str, wp_slO, wp_rdON, wp_put, wp_swap, wp_str0, wp_mownS, wp_keys, wp_mdcomp, endQ_nx, endQ_rt, endO_ro, q_isiI, q_isiB, q_isiS, q_isiT, q_isiL, q_isiTL, q_all, q_any, q_ltS, q_addS, q_inS, q_ninS, q_lenS, q_lenD, q_zipT, q_zipL, q_catT, q_catL, q_slT, q_slS, q_tupleL, q_tupleT, q_tupO, q_lstO, q_listNL, q_listNT, q_insert, q_upper, q_nu2I, q_nu2B, q_nu1I, q_nu1B, q_strI, q_strB, q_strS, q_ixA_T, q_ixA_L, q_ixA_S, q_ixS, q_eqII, q_neII, q_eqSS, q_neSS, q_eqBB, q_neBB, q_dgetS, q_dgetI, q_dinS, q_dinI, at6, at7, gT, gsCons, gsNil, gN, keyOfD, someQ_some, someQ_if, someQ_map, q_allM, q_anyM, i_BN, i_BB, i_BI, i_BS, i_BL, i_BT, i_BD, i_IN, i_IB, i_II, i_IS, i_IL, i_IT, i_ID, i_SN, i_SB, i_SI, i_SS, i_SL, i_ST, i_SD, i_TN, i_TB, i_TI, i_TS, i_TL, i_TT, i_TD, i_LN, i_LB, i_LI, i_LS, i_LL, i_LT, i_LD, sizeLine_eq, -List.map_map, -List.map_take]
      refine take_step (by omega) fun s1 a b g6 g7 => ?_
      simp [wp_set, wp_sret, wp_sretO, wp_expr, wp_for, wp_sif, wp_mif, wp_mand, wp_mor, wp_mnot, wp_mtest, wp_bnd, wp_ret, wp_some, wp_mcons, wp_nx, wp_bk, wp_ct, wp_asg, wp_mlc, wp_molc, wp_mcomp, wp_callV, wp_callO, wp_macons, wpr_maown, anQ_own, wpr_aug, auQ_val, wpr, rdQ_val, rdQ_own, wpr_rdO, wpr_wrOp, wpr_mopO, wpr_mmut, wpr_setI, owQ_own, wp_setO, wp_tup, wp_lst, wp_olst, wp_list, wp_tuple, wp_range1, wp_range2, wp_part, wp_slice, wp_tru, wp_andV, wp_orV, wp_notV, seqQ_rt, seqQ_ro, seqQ_bk, seqQ_ct, gath, scat, scat1, pos, ownAt, clQ_nx, clQ_rt, clQ_ro, lpQ_nx, lpQ_ct, lpQ_bk, lpQ_rt, lpQ_ro, mrg1, q_I0, q_I, q_ixL, q_ixT, q_ixO, q_lenL, q_lenT, q_lenO, q_sum, q_listL, q_listT, q_abs, q_max2, q_min2, q_slL, q_neg, q_append, q_setI, q_cMul, q_cDiv, q_cPos, q_cPow, at0, at1, at2, at3, at4, at5, ix0, ix1, okW, isOwn, wipeR, restR, wp_chain, wp_zip, wp_enum, wp_str, wp_slO, wp_rdON, wp_put, wp_swap, wp_str0, wp_mownS, wp_keys, wp_mdcomp, endQ_nx, endQ_rt, endO_ro, q_isiI, q_isiB, q_isiS, q_isiT, q_isiL, q_isiTL, q_all, q_any, q_ltS, q_addS, q_inS, q_ninS, q_lenS, q_lenD, q_zipT, q_zipL, q_catT, q_catL, q_slT, q_slS, q_tupleL, q_tupleT, q_tupO, q_lstO, q_listNL, q_listNT, q_insert, q_upper, q_nu2I, q_nu2B, q_nu1I, q_nu1B, q_strI, q_strB, q_strS, q_ixA_T, q_ixA_L, q_ixA_S, q_ixS, q_eqII, q_neII, q_eqSS, q_neSS, q_eqBB, q_neBB, q_dgetS, q_dgetI, q_dinS, q_dinI, at6, at7, gT, gsCons, gsNil, gN, keyOfD, someQ_some, someQ_if, someQ_map, q_allM, q_anyM, i_BN, i_BB, i_BI, i_BS, i_BL, i_BT, i_BD, i_IN, i_IB, i_II, i_IS, i_IL, i_IT, i_ID, i_SN, i_SB, i_SI, i_SS, i_SL, i_ST, i_SD, i_TN, i_TB, i_TI, i_TS, i_TL, i_TT, i_TD, i_LN, i_LB, i_LI, i_LS, i_LL, i_LT, i_LD, sizeLine_eq, -List.map_map, -List.map_take]
      refine take_step (by decide) fun s2 a b g8 g9 => ?_
      have hkk : ∃ q : Int, atI [PyData.int 4, PyData.int 4, PyData.int 3] kind = some (.int q) ∧ (q = 4 ∨ q = 3) ∧ (kind = 2 → q = 3) := by
        rcases hk with rfl | rfl | rfl
        · exact ⟨4, at0, .inl rfl, by decide⟩
        · exact ⟨4, at1, .inl rfl, by decide⟩
        · exact ⟨3, at2, .inr rfl, fun _ => rfl⟩
      obtain ⟨q, hq, hq2, hq3⟩ := hkk
      simp [wp_set, wp_sret, wp_sretO, wp_expr, wp_for, wp_sif, wp_mif, wp_mand, wp_mor, wp_mnot, wp_mtest, wp_bnd, wp_ret, wp_some, wp_mcons, wp_nx, wp_bk, wp_ct, wp_asg, wp_mlc, wp_molc, wp_mcomp, wp_callV, wp_callO, wp_macons, wpr_maown, anQ_own, wpr_aug, auQ_val, wpr, rdQ_val, rdQ_own, wpr_rdO, wpr_wrOp, wpr_mopO, wpr_mmut, wpr_setI, owQ_own, wp_setO, wp_tup, wp_lst, wp_olst, wp_list, wp_tuple, wp_range1, wp_range2, wp_part, wp_slice, wp_tru, wp_andV, wp_orV, wp_notV, seqQ_rt, seqQ_ro, seqQ_bk, seqQ_ct, gath, scat, scat1, pos, ownAt, clQ_nx, clQ_rt, clQ_ro, lpQ_nx, lpQ_ct, lpQ_bk, lpQ_rt, lpQ_ro, mrg1, q_I0, q_I, q_ixL, q_ixT, q_ixO, q_lenL, q_lenT, q_lenO, q_sum, q_listL, q_listT, q_abs, q_max2, q_min2, q_slL, q_neg, q_append, q_setI, q_cMul, q_cDiv, q_cPos, q_cPow, at0, at1, at2, at3, at4, at5, ix0, ix1, okW, isOwn, wipeR, restR, wp_chain, wp_zip, wp_enum, wp_str, wp_slO, wp_rdON, wp_put, wp_swap, wp_str0, wp_mownS, wp_keys, wp_mdcomp, endQ_nx, endQ_rt, endO_ro, q_isiI, q_isiB, q_isiS, q_isiT, q_isiL, q_isiTL, q_all, q_any, q_ltS, q_addS, q_inS, q_ninS, q_lenS, q_lenD, q_zipT, q_zipL, q_catT, q_catL, q_slT, q_slS, q_tupleL, q_tupleT, q_tupO, q_lstO, q_listNL, q_listNT, q_insert, q_upper, q_nu2I, q_nu2B, q_nu1I, q_nu1B, q_strI, q_strB, q_strS, q_ixA_T, q_ixA_L, q_ixA_S, q_ixS, q_eqII, q_neII, q_eqSS, q_neSS, q_eqBB, q_neBB, q_dgetS, q_dgetI, q_dinS, q_dinI, at6, at7, gT, gsCons, gsNil, gN, keyOfD, someQ_some, someQ_if, someQ_map, q_allM, q_anyM, i_BN, i_BB, i_BI, i_BS, i_BL, i_BT, i_BD, i_IN, i_IB, i_II, i_IS, i_IL, i_IT, i_ID, i_SN, i_SB, i_SI, i_SS, i_SL, i_ST, i_SD, i_TN, i_TB, i_TI, i_TS, i_TL, i_TT, i_TD, i_LN, i_LB, i_LI, i_LS, i_LL, i_LT, i_LD, sizeLine_eq, hq, -List.map_map, -List.map_take]
      refine take_step (by omega) fun s3 a b g10 g11 => ?_
      simp [wp_set, wp_sret, wp_sretO, wp_expr, wp_for, wp_sif, wp_mif, wp_mand, wp_mor, wp_mnot, wp_mtest, wp_bnd, wp_ret, wp_some, wp_mcons, wp_nx, wp_bk, wp_ct, wp_asg, wp_mlc, wp_molc, wp_mcomp, wp_callV, wp_callO, wp_macons, wpr_maown, anQ_own, wpr_aug, auQ_val, wpr, rdQ_val, rdQ_own, wpr_rdO, wpr_wrOp, wpr_mopO, wpr_mmut, wpr_setI, owQ_own, wp_setO, wp_tup, wp_lst, wp_olst, wp_list, wp_tuple, wp_range1, wp_range2, wp_part, wp_slice, wp_tru, wp_andV, wp_orV, wp_notV, seqQ_rt, seqQ_ro, seqQ_bk, seqQ_ct, gath, scat, scat1, pos, ownAt, clQ_nx, clQ_rt, clQ_ro, lpQ_nx, lpQ_ct, lpQ_bk, lpQ_rt, lpQ_ro, mrg1, q_I0, q_I, q_ixL, q_ixT, q_ixO, q_lenL, q_lenT, q_lenO, q_sum, q_listL, q_listT, q_abs, q_max2, q_min2, q_slL, q_neg, q_append, q_setI, q_cMul, q_cDiv, q_cPos, q_cPow, at0, at1, at2, at3, at4, at5, ix0, ix1, okW, isOwn, wipeR, restR, wp_chain, wp_zip, wp_enum, wp_str, wp_slO, wp_rdON, wp_put, wp_swap, wp_str0, wp_mownS, wp_keys, wp_mdcomp, endQ_nx, endQ_rt, endO_ro, q_isiI, q_isiB, q_isiS, q_isiT, q_isiL, q_isiTL, q_all, q_any, q_ltS, q_addS, q_inS, q_ninS, q_lenS, q_lenD, q_zipT, q_zipL, q_catT, q_catL, q_slT, q_slS, q_tupleL, q_tupleT, q_tupO, q_lstO, q_listNL, q_listNT, q_insert, q_upper, q_nu2I, q_nu2B, q_nu1I, q_nu1B, q_strI, q_strB, q_strS, q_ixA_T, q_ixA_L, q_ixA_S, q_ixS, q_eqII, q_neII, q_eqSS, q_neSS, q_eqBB, q_neBB, q_dgetS, q_dgetI, q_dinS, q_dinI, at6, at7, gT, gsCons, gsNil, gN, keyOfD, someQ_some, someQ_if, someQ_map, q_allM, q_anyM, i_BN, i_BB, i_BI, i_BS, i_BL, i_BT, i_BD, i_IN, i_IB, i_II, i_IS, i_IL, i_IT, i_ID, i_SN, i_SB, i_SI, i_SS, i_SL, i_ST, i_SD, i_TN, i_TB, i_TI, i_TS, i_TL, i_TT, i_TD, i_LN, i_LB, i_LI, i_LS, i_LL, i_LT, i_LD, sizeLine_eq, -List.map_map, -List.map_take]
      have hst : ∃ st : Int, atI [PyData.int bs, PyData.int bs, PyData.int s1, PyData.int s2] s3 = some (.int st) ∧ 0 ≤ st ∧ st ≤ 29 ∧ (kind = 2 → st ≤ bs) := by
        have : s3 = 0 ∨ s3 = 1 ∨ s3 = 2 ∨ s3 = 3 := by omega
        rcases this with rfl | rfl | rfl | rfl
        · exact ⟨_, at0, by omega, by omega, fun _ => by omega⟩
        · exact ⟨_, at1, by omega, by omega, fun _ => by omega⟩
        · exact ⟨_, at2, by omega, by omega, fun _ => by omega⟩
        · exact ⟨_, at3, by omega, by omega, fun e => by have := hq3 e; omega⟩
      obtain ⟨st, hs, hs0, hs29, hsb⟩ := hst
      rw [hs]
      simp only [wp_some]
      rw [seqQ_nx, wp_seq]
      refine wp_mono (Q := fun o (ρ' : List (Sl Empty)) => ∃ (a b : Int) (wt : Bool), (0 < kind → wt = true) ∧ o = .nx ∧ ρ' = [bagS a b, .val (.int kind), .val (.int m), .val (.list ((names8.take m).map PyData.str)), .own (.seq (os.map PyData.str)), x, .val (.bool row), .own (.seq (fs.map tD)), .val (.int i), .val (.str z), .val (.int bs), .val (.int st), .val (.bool wt), x13]) ?_ ?_
      · by_cases hk0 : 0 < kind
        · simp [wp_set, wp_sret, wp_sretO, wp_expr, wp_for, wp_sif, wp_mif, wp_mand, wp_mor, wp_mnot, wp_mtest, wp_bnd, wp_ret, wp_some, wp_mcons, wp_nx, wp_bk, wp_ct, wp_asg, wp_mlc, wp_molc, wp_mcomp, wp_callV, wp_callO, wp_macons, wpr_maown, anQ_own, wpr_aug, auQ_val, wpr, rdQ_val, rdQ_own, wpr_rdO, wpr_wrOp, wpr_mopO, wpr_mmut, wpr_setI, owQ_own, wp_setO, wp_tup, wp_lst, wp_olst, wp_list, wp_tuple, wp_range1, wp_range2, wp_part, wp_slice, wp_tru, wp_andV, wp_orV, wp_notV, seqQ_rt, seqQ_ro, seqQ_bk, seqQ_ct, gath, scat, scat1, pos, ownAt, clQ_nx, clQ_rt, clQ_ro, lpQ_nx, lpQ_ct, lpQ_bk, lpQ_rt, lpQ_ro, mrg1, q_I0, q_I, q_ixL, q_ixT, q_ixO, q_lenL, q_lenT, q_lenO, q_sum, q_listL, q_listT, q_abs, q_max2, q_min2, q_slL, q_neg, q_append, q_setI, q_cMul, q_cDiv, q_cPos, q_cPow, at0, at1, at2, at3, at4, at5, ix0, ix1, okW, isOwn, wipeR, restR, wp_chain, wp_zip, wp_enum, wp_str, wp_slO, wp_rdON, wp_put, wp_swap, wp_str0, wp_mownS, wp_keys, wp_mdcomp, endQ_nx, endQ_rt, endO_ro, q_isiI, q_isiB, q_isiS, q_isiT, q_isiL, q_isiTL, q_all, q_any, q_ltS, q_addS, q_inS, q_ninS, q_lenS, q_lenD, q_zipT, q_zipL, q_catT, q_catL, q_slT, q_slS, q_tupleL, q_tupleT, q_tupO, q_lstO, q_listNL, q_listNT, q_insert, q_upper, q_nu2I, q_nu2B, q_nu1I, q_nu1B, q_strI, q_strB, q_strS, q_ixA_T, q_ixA_L, q_ixA_S, q_ixS, q_eqII, q_neII, q_eqSS, q_neSS, q_eqBB, q_neBB, q_dgetS, q_dgetI, q_dinS, q_dinI, at6, at7, gT, gsCons, gsNil, gN, keyOfD, someQ_some, someQ_if, someQ_map, q_allM, q_anyM, i_BN, i_BB, i_BI, i_BS, i_BL, i_BT, i_BD, i_IN, i_IB, i_II, i_IS, i_IL, i_IT, i_ID, i_SN, i_SB, i_SI, i_SS, i_SL, i_ST, i_SD, i_TN, i_TB, i_TI, i_TS, i_TL, i_TT, i_TD, i_LN, i_LB, i_LI, i_LS, i_LL, i_LT, i_LD, sizeLine_eq, hk0, -List.map_map, -List.map_take]
        · simp [wp_set, wp_sret, wp_sretO, wp_expr, wp_for, wp_sif, wp_mif, wp_mand, wp_mor, wp_mnot, wp_mtest, wp_bnd, wp_ret, wp_some, wp_mcons, wp_nx, wp_bk, wp_ct, wp_asg, wp_mlc, wp_molc, wp_mcomp, wp_callV, wp_callO, wp_macons, wpr_maown, anQ_own, wpr_aug, auQ_val, wpr, rdQ_val, rdQ_own, wpr_rdO, wpr_wrOp, wpr_mopO, wpr_mmut, wpr_setI, owQ_own, wp_setO, wp_tup, wp_lst, wp_olst, wp_list, wp_tuple, wp_range1, wp_range2, wp_part, wp_slice, wp_tru, wp_andV, wp_orV, wp_notV, seqQ_rt, seqQ_ro, seqQ_bk, seqQ_ct, gath, scat, scat1, pos, ownAt, clQ_nx, clQ_rt, clQ_ro, lpQ_nx, lpQ_ct, lpQ_bk, lpQ_rt, lpQ_ro, mrg1, q_I0, q_I, q_ixL, q_ixT, q_ixO, q_lenL, q_lenT, q_lenO, q_sum, q_listL, q_listT, q_abs, q_max2, q_min2, q_slL, q_neg, q_append, q_setI, q_cMul, q_cDiv, q_cPos, q_cPow, at0, at1, at2, at3, at4, at5, ix0, ix1, okW, isOwn, wipeR, restR, wp_chain, wp_zip, wp_enum, wp_str, wp_slO, wp_rdON, wp_put, wp_swap, wp_str0, wp_mownS, wp_keys, wp_mdcomp, endQ_nx, endQ_rt, endO_ro, q_isiI, q_isiB, q_isiS, q_isiT, q_isiL, q_isiTL, q_all, q_any, q_ltS, q_addS, q_inS, q_ninS, q_lenS, q_lenD, q_zipT, q_zipL, q_catT, q_catL, q_slT, q_slS, q_tupleL, q_tupleT, q_tupO, q_lstO, q_listNL, q_listNT, q_insert, q_upper, q_nu2I, q_nu2B, q_nu1I, q_nu1B, q_strI, q_strB, q_strS, q_ixA_T, q_ixA_L, q_ixA_S, q_ixS, q_eqII, q_neII, q_eqSS, q_neSS, q_eqBB, q_neBB, q_dgetS, q_dgetI, q_dinS, q_dinI, at6, at7, gT, gsCons, gsNil, gN, keyOfD, someQ_some, someQ_if, someQ_map, q_allM, q_anyM, i_BN, i_BB, i_BI, i_BS, i_BL, i_BT, i_BD, i_IN, i_IB, i_II, i_IS, i_IL, i_IT, i_ID, i_SN, i_SB, i_SI, i_SS, i_SL, i_ST, i_SD, i_TN, i_TB, i_TI, i_TS, i_TL, i_TT, i_TD, i_LN, i_LB, i_LI, i_LS, i_LL, i_LT, i_LD, sizeLine_eq, hk0, -List.map_map, -List.map_take]
          refine take_step (by decide) fun s4 a b g12 g13 => ?_
          simp [wp_set, wp_sret, wp_sretO, wp_expr, wp_for, wp_sif, wp_mif, wp_mand, wp_mor, wp_mnot, wp_mtest, wp_bnd, wp_ret, wp_some, wp_mcons, wp_nx, wp_bk, wp_ct, wp_asg, wp_mlc, wp_molc, wp_mcomp, wp_callV, wp_callO, wp_macons, wpr_maown, anQ_own, wpr_aug, auQ_val, wpr, rdQ_val, rdQ_own, wpr_rdO, wpr_wrOp, wpr_mopO, wpr_mmut, wpr_setI, owQ_own, wp_setO, wp_tup, wp_lst, wp_olst, wp_list, wp_tuple, wp_range1, wp_range2, wp_part, wp_slice, wp_tru, wp_andV, wp_orV, wp_notV, seqQ_rt, seqQ_ro, seqQ_bk, seqQ_ct, gath, scat, scat1, pos, ownAt, clQ_nx, clQ_rt, clQ_ro, lpQ_nx, lpQ_ct, lpQ_bk, lpQ_rt, lpQ_ro, mrg1, q_I0, q_I, q_ixL, q_ixT, q_ixO, q_lenL, q_lenT, q_lenO, q_sum, q_listL, q_listT, q_abs, q_max2, q_min2, q_slL, q_neg, q_append, q_setI, q_cMul, q_cDiv, q_cPos, q_cPow, at0, at1, at2, at3, at4, at5, ix0, ix1, okW, isOwn, wipeR, restR, wp_chain, wp_zip, wp_enum, wp_str, wp_slO, wp_rdON, wp_put, wp_swap, wp_str0, wp_mownS, wp_keys, wp_mdcomp, endQ_nx, endQ_rt, endO_ro, q_isiI, q_isiB, q_isiS, q_isiT, q_isiL, q_isiTL, q_all, q_any, q_ltS, q_addS, q_inS, q_ninS, q_lenS, q_lenD, q_zipT, q_zipL, q_catT, q_catL, q_slT, q_slS, q_tupleL, q_tupleT, q_tupO, q_lstO, q_listNL, q_listNT, q_insert, q_upper, q_nu2I, q_nu2B, q_nu1I, q_nu1B, q_strI, q_strB, q_strS, q_ixA_T, q_ixA_L, q_ixA_S, q_ixS, q_eqII, q_neII, q_eqSS, q_neSS, q_eqBB, q_neBB, q_dgetS, q_dgetI, q_dinS, q_dinI, at6, at7, gT, gsCons, gsNil, gN, keyOfD, someQ_some, someQ_if, someQ_map, q_allM, q_anyM, i_BN, i_BB, i_BI, i_BS, i_BL, i_BT, i_BD, i_IN, i_IB, i_II, i_IS, i_IL, i_IT, i_ID, i_SN, i_SB, i_SI, i_SS, i_SL, i_ST, i_SD, i_TN, i_TB, i_TI, i_TS, i_TL, i_TT, i_TD, i_LN, i_LB, i_LI, i_LS, i_LL, i_LT, i_LD, sizeLine_eq, hk0, -List.map_map, -List.map_take]
          by_cases h5 : 0 < s4
          · exact ⟨_, _, .inr ⟨⟨rfl, rfl⟩, h5⟩⟩
          · exact ⟨_, _, .inl ⟨⟨rfl, rfl⟩, by omega⟩⟩
      rintro o ρ' ⟨a, b, wt, hwt, rfl, rfl⟩
      rw [seqQ_nx, wp_seq]
      simp [wp_set, wp_sret, wp_sretO, wp_expr, wp_for, wp_sif, wp_mif, wp_mand, wp_mor, wp_mnot, wp_mtest, wp_bnd, wp_ret, wp_some, wp_mcons, wp_nx, wp_bk, wp_ct, wp_asg, wp_mlc, wp_molc, wp_mcomp, wp_callV, wp_callO, wp_macons, wpr_maown, anQ_own, wpr_aug, auQ_val, wpr, rdQ_val, rdQ_own, wpr_rdO, wpr_wrOp, wpr_mopO, wpr_mmut, wpr_setI, owQ_own, wp_setO, wp_tup, wp_lst, wp_olst, wp_list, wp_tuple, wp_range1, wp_range2, wp_part, wp_slice, wp_tru, wp_andV, wp_orV, wp_notV, seqQ_rt, seqQ_ro, seqQ_bk, seqQ_ct, gath, scat, scat1, pos, ownAt, clQ_nx, clQ_rt, clQ_ro, lpQ_nx, lpQ_ct, lpQ_bk, lpQ_rt, lpQ_ro, mrg1, q_I0, q_I, q_ixL, q_ixT, q_ixO, q_lenL, q_lenT, q_lenO, q_sum, q_listL, q_listT, q_abs, q_max2, q_min2, q_slL, q_neg, q_append, q_setI, q_cMul, q_cDiv, q_cPos, q_cPow, at0, at1, at2, at3, at4, at5, ix0, ix1, okW, isOwn, wipeR, restR, wp_chain, wp_zip, wp_enum, wp_str, wp_slO, wp_rdON, wp_put, wp_swap, wp_str0, wp_mownS, wp_keys, wp_mdcomp, endQ_nx, endQ_rt, endO_ro, q_isiI, q_isiB, q_isiS, q_isiT, q_isiL, q_isiTL, q_all, q_any, q_ltS, q_addS, q_inS, q_ninS, q_lenS, q_lenD, q_zipT, q_zipL, q_catT, q_catL, q_slT, q_slS, q_tupleL, q_tupleT, q_tupO, q_lstO, q_listNL, q_listNT, q_insert, q_upper, q_nu2I, q_nu2B, q_nu1I, q_nu1B, q_strI, q_strB, q_strS, q_ixA_T, q_ixA_L, q_ixA_S, q_ixS, q_eqII, q_neII, q_eqSS, q_neSS, q_eqBB, q_neBB, q_dgetS, q_dgetI, q_dinS, q_dinI, at6, at7, gT, gsCons, gsNil, gN, keyOfD, someQ_some, someQ_if, someQ_map, q_allM, q_anyM, i_BN, i_BB, i_BI, i_BS, i_BL, i_BT, i_BD, i_IN, i_IB, i_II, i_IS, i_IL, i_IT, i_ID, i_SN, i_SB, i_SI, i_SS, i_SL, i_ST, i_SD, i_TN, i_TB, i_TI, i_TS, i_TL, i_TT, i_TD, i_LN, i_LB, i_LI, i_LS, i_LL, i_LT, i_LD, sizeLine_eq, -List.map_map, -List.map_take]
      refine take_step (by decide) fun v a b h0 h1 => ?_
      simp [wp_set, wp_sret, wp_sretO, wp_expr, wp_for, wp_sif, wp_mif, wp_mand, wp_mor, wp_mnot, wp_mtest, wp_bnd, wp_ret, wp_some, wp_mcons, wp_nx, wp_bk, wp_ct, wp_asg, wp_mlc, wp_molc, wp_mcomp, wp_callV, wp_callO, wp_macons, wpr_maown, anQ_own, wpr_aug, auQ_val, wpr, rdQ_val, rdQ_own, wpr_rdO, wpr_wrOp, wpr_mopO, wpr_mmut, wpr_setI, owQ_own, wp_setO, wp_tup, wp_lst, wp_olst, wp_list, wp_tuple, wp_range1, wp_range2, wp_part, wp_slice, wp_tru, wp_andV, wp_orV, wp_notV, seqQ_rt, seqQ_ro, seqQ_bk, seqQ_ct, gath, scat, scat1, pos, ownAt, clQ_nx, clQ_rt, clQ_ro, lpQ_nx, lpQ_ct, lpQ_bk, lpQ_rt, lpQ_ro, mrg1, q_I0, q_I, q_ixL, q_ixT, q_ixO, q_lenL, q_lenT, q_lenO, q_sum, q_listL, q_listT, q_abs, q_max2, q_min2, q_slL, q_neg, q_append, q_setI, q_cMul, q_cDiv, q_cPos, q_cPow, at0, at1, at2, at3, at4, at5, ix0, ix1, okW, isOwn, wipeR, restR, wp_chain, wp_zip, wp_enum, wp_str, wp_slO, wp_rdON, wp_put, wp_swap, wp_str0, wp_mownS, wp_keys, wp_mdcomp, endQ_nx, endQ_rt, endO_ro, q_isiI, q_isiB, q_isiS, q_isiT, q_isiL, q_isiTL, q_all, q_any, q_ltS, q_addS, q_inS, q_ninS, q_lenS, q_lenD, q_zipT, q_zipL, q_catT, q_catL, q_slT, q_slS, q_tupleL, q_tupleT, q_tupO, q_lstO, q_listNL, q_listNT, q_insert, q_upper, q_nu2I, q_nu2B, q_nu1I, q_nu1B, q_strI, q_strB, q_strS, q_ixA_T, q_ixA_L, q_ixA_S, q_ixS, q_eqII, q_neII, q_eqSS, q_neSS, q_eqBB, q_neBB, q_dgetS, q_dgetI, q_dinS, q_dinI, at6, at7, gT, gsCons, gsNil, gN, keyOfD, someQ_some, someQ_if, someQ_map, q_allM, q_anyM, i_BN, i_BB, i_BI, i_BS, i_BL, i_BT, i_BD, i_IN, i_IB, i_II, i_IS, i_IL, i_IT, i_ID, i_SN, i_SB, i_SI, i_SS, i_SL, i_ST, i_SD, i_TN, i_TB, i_TI, i_TS, i_TL, i_TT, i_TD, i_LN, i_LB, i_LI, i_LS, i_LL, i_LT, i_LD, sizeLine_eq, -List.map_map, -List.map_take]
      refine wp_atL h0 (by simpa using h1) fun d hd => ?_
      have hd : ∃ c : Int, d = .int c ∧ 2 ≤ c ∧ c ≤ 9 := by
        simp only [List.mem_cons, List.not_mem_nil, or_false] at hd
        rcases hd with rfl | rfl | rfl <;> exact ⟨_, rfl, by decide, by decide⟩
      obtain ⟨c, rfl, hc2, hc9⟩ := hd
      simp [wp_set, wp_sret, wp_sretO, wp_expr, wp_for, wp_sif, wp_mif, wp_mand, wp_mor, wp_mnot, wp_mtest, wp_bnd, wp_ret, wp_some, wp_mcons, wp_nx, wp_bk, wp_ct, wp_asg, wp_mlc, wp_molc, wp_mcomp, wp_callV, wp_callO, wp_macons, wpr_maown, anQ_own, wpr_aug, auQ_val, wpr, rdQ_val, rdQ_own, wpr_rdO, wpr_wrOp, wpr_mopO, wpr_mmut, wpr_setI, owQ_own, wp_setO, wp_tup, wp_lst, wp_olst, wp_list, wp_tuple, wp_range1, wp_range2, wp_part, wp_slice, wp_tru, wp_andV, wp_orV, wp_notV, seqQ_rt, seqQ_ro, seqQ_bk, seqQ_ct, gath, scat, scat1, pos, ownAt, clQ_nx, clQ_rt, clQ_ro, lpQ_nx, lpQ_ct, lpQ_bk, lpQ_rt, lpQ_ro, mrg1, q_I0, q_I, q_ixL, q_ixT, q_ixO, q_lenL, q_lenT, q_lenO, q_sum, q_listL, q_listT, q_abs, q_max2, q_min2, q_slL, q_neg, q_append, q_setI, q_cMul, q_cDiv, q_cPos, q_cPow, at0, at1, at2, at3, at4, at5, ix0, ix1, okW, isOwn, wipeR, restR, wp_chain, wp_zip, wp_enum, wp_str, wp_slO, wp_rdON, wp_put, wp_swap, wp_str0, wp_mownS, wp_keys, wp_mdcomp, endQ_nx, endQ_rt, endO_ro, q_isiI, q_isiB, q_isiS, q_isiT, q_isiL, q_isiTL, q_all, q_any, q_ltS, q_addS, q_inS, q_ninS, q_lenS, q_lenD, q_zipT, q_zipL, q_catT, q_catL, q_slT, q_slS, q_tupleL, q_tupleT, q_tupO, q_lstO, q_listNL, q_listNT, q_insert, q_upper, q_nu2I, q_nu2B, q_nu1I, q_nu1B, q_strI, q_strB, q_strS, q_ixA_T, q_ixA_L, q_ixA_S, q_ixS, q_eqII, q_neII, q_eqSS, q_neSS, q_eqBB, q_neBB, q_dgetS, q_dgetI, q_dinS, q_dinI, at6, at7, gT, gsCons, gsNil, gN, keyOfD, someQ_some, someQ_if, someQ_map, q_allM, q_anyM, i_BN, i_BB, i_BI, i_BS, i_BL, i_BT, i_BD, i_IN, i_IB, i_II, i_IS, i_IL, i_IT, i_ID, i_SN, i_SB, i_SI, i_SS, i_SL, i_ST, i_SD, i_TN, i_TB, i_TI, i_TS, i_TL, i_TT, i_TD, i_LN, i_LB, i_LI, i_LS, i_LL, i_LT, i_LD, sizeLine_eq, -List.map_map, -List.map_take]
      refine take_step (by omega) fun dl a b h0 h1 => ?_
      simp [wp_set, wp_sret, wp_sretO, wp_expr, wp_for, wp_sif, wp_mif, wp_mand, wp_mor, wp_mnot, wp_mtest, wp_bnd, wp_ret, wp_some, wp_mcons, wp_nx, wp_bk, wp_ct, wp_asg, wp_mlc, wp_molc, wp_mcomp, wp_callV, wp_callO, wp_macons, wpr_maown, anQ_own, wpr_aug, auQ_val, wpr, rdQ_val, rdQ_own, wpr_rdO, wpr_wrOp, wpr_mopO, wpr_mmut, wpr_setI, owQ_own, wp_setO, wp_tup, wp_lst, wp_olst, wp_list, wp_tuple, wp_range1, wp_range2, wp_part, wp_slice, wp_tru, wp_andV, wp_orV, wp_notV, seqQ_rt, seqQ_ro, seqQ_bk, seqQ_ct, gath, scat, scat1, pos, ownAt, clQ_nx, clQ_rt, clQ_ro, lpQ_nx, lpQ_ct, lpQ_bk, lpQ_rt, lpQ_ro, mrg1, q_I0, q_I, q_ixL, q_ixT, q_ixO, q_lenL, q_lenT, q_lenO, q_sum, q_listL, q_listT, q_abs, q_max2, q_min2, q_slL, q_neg, q_append, q_setI, q_cMul, q_cDiv, q_cPos, q_cPow, at0, at1, at2, at3, at4, at5, ix0, ix1, okW, isOwn, wipeR, restR, wp_chain, wp_zip, wp_enum, wp_str, wp_slO, wp_rdON, wp_put, wp_swap, wp_str0, wp_mownS, wp_keys, wp_mdcomp, endQ_nx, endQ_rt, endO_ro, q_isiI, q_isiB, q_isiS, q_isiT, q_isiL, q_isiTL, q_all, q_any, q_ltS, q_addS, q_inS, q_ninS, q_lenS, q_lenD, q_zipT, q_zipL, q_catT, q_catL, q_slT, q_slS, q_tupleL, q_tupleT, q_tupO, q_lstO, q_listNL, q_listNT, q_insert, q_upper, q_nu2I, q_nu2B, q_nu1I, q_nu1B, q_strI, q_strB, q_strS, q_ixA_T, q_ixA_L, q_ixA_S, q_ixS, q_eqII, q_neII, q_eqSS, q_neSS, q_eqBB, q_neBB, q_dgetS, q_dgetI, q_dinS, q_dinI, at6, at7, gT, gsCons, gsNil, gN, keyOfD, someQ_some, someQ_if, someQ_map, q_allM, q_anyM, i_BN, i_BB, i_BI, i_BS, i_BL, i_BT, i_BD, i_IN, i_IB, i_II, i_IS, i_IL, i_IT, i_ID, i_SN, i_SB, i_SI, i_SS, i_SL, i_ST, i_SD, i_TN, i_TB, i_TI, i_TS, i_TL, i_TT, i_TD, i_LN, i_LB, i_LI, i_LS, i_LL, i_LT, i_LD, sizeLine_eq, -List.map_map, -List.map_take]
      rw [seqQ_nx]
      simp [wp_set, wp_sret, wp_sretO, wp_expr, wp_for, wp_sif, wp_mif, wp_mand, wp_mor, wp_mnot, wp_mtest, wp_bnd, wp_ret, wp_some, wp_mcons, wp_nx, wp_bk, wp_ct, wp_asg, wp_mlc, wp_molc, wp_mcomp, wp_callV, wp_callO, wp_macons, wpr_maown, anQ_own, wpr_aug, auQ_val, wpr, rdQ_val, rdQ_own, wpr_rdO, wpr_wrOp, wpr_mopO, wpr_mmut, wpr_setI, owQ_own, wp_setO, wp_tup, wp_lst, wp_olst, wp_list, wp_tuple, wp_range1, wp_range2, wp_part, wp_slice, wp_tru, wp_andV, wp_orV, wp_notV, seqQ_rt, seqQ_ro, seqQ_bk, seqQ_ct, gath, scat, scat1, pos, ownAt, clQ_nx, clQ_rt, clQ_ro, lpQ_nx, lpQ_ct, lpQ_bk, lpQ_rt, lpQ_ro, mrg1, q_I0, q_I, q_ixL, q_ixT, q_ixO, q_lenL, q_lenT, q_lenO, q_sum, q_listL, q_listT, q_abs, q_max2, q_min2, q_slL, q_neg, q_append, q_setI, q_cMul, q_cDiv, q_cPos, q_cPow, at0, at1, at2, at3, at4, at5, ix0, ix1, okW, isOwn, wipeR, restR, wp_chain, wp_zip, wp_enum, wp_str, wp_slO, wp_rdON, wp_put, wp_swap, wp_str0, wp_mownS, wp_keys, wp_mdcomp, endQ_nx, endQ_rt, endO_ro, q_isiI, q_isiB, q_isiS, q_isiT, q_isiL, q_isiTL, q_all, q_any, q_ltS, q_addS, q_inS, q_ninS, q_lenS, q_lenD, q_zipT, q_zipL, q_catT, q_catL, q_slT, q_slS, q_tupleL, q_tupleT, q_tupO, q_lstO, q_listNL, q_listNT, q_insert, q_upper, q_nu2I, q_nu2B, q_nu1I, q_nu1B, q_strI, q_strB, q_strS, q_ixA_T, q_ixA_L, q_ixA_S, q_ixS, q_eqII, q_neII, q_eqSS, q_neSS, q_eqBB, q_neBB, q_dgetS, q_dgetI, q_dinS, q_dinI, at6, at7, gT, gsCons, gsNil, gN, keyOfD, someQ_some, someQ_if, someQ_map, q_allM, q_anyM, i_BN, i_BB, i_BI, i_BS, i_BL, i_BT, i_BD, i_IN, i_IB, i_II, i_IS, i_IL, i_IT, i_ID, i_SN, i_SB, i_SI, i_SS, i_SL, i_ST, i_SD, i_TN, i_TB, i_TI, i_TS, i_TL, i_TT, i_TD, i_LN, i_LB, i_LI, i_LS, i_LL, i_LT, i_LD, sizeLine_eq, hyo, -List.map_map, -List.map_take]
      have hfl : fs.length = i := by
        have := congrArg List.length hG.nm
        rw [List.length_map, List.length_take] at this
        omega
      refine ⟨by omega, _, _, _, _, _, _, _, _, fs ++ [⟨y, z, 1 + dl, bs, st, wt⟩], ⟨?_, ?_⟩, ⟨rfl, rfl⟩, by simp [tD], rfl, rfl, rfl, rfl, rfl, rfl⟩
      · rw [List.map_append, hG.nm, List.take_add_one, hy]
        rfl
      · intro j t hj
        by_cases hji : j < fs.length
        · rw [List.getElem?_append_left hji] at hj
          exact hG.up j t hj
        · have : j = fs.length := by
            have := (List.getElem?_eq_some_iff.mp hj).1
            rw [List.length_append, List.length_singleton] at this
            omega
          subst this
          rw [List.getElem?_append_right (Nat.le_refl _), Nat.sub_self] at hj
          have hj : some (⟨y, z, 1 + dl, bs, st, wt⟩ : St) = some t := hj
          cases hj
          rw [hfl]
          exact ⟨hz, ⟨by show 1 ≤ 1 + dl; omega, by show 1 + dl ≤ 9; omega, hb0, hb29, hs0, hs29, hwt, hsb⟩⟩
    · rintro ρ ⟨a, b, x8, x9, x10, x11, x12, x13, fs, hG, rfl⟩
      rw [rng_len] at hG
      rw [seqQ_nx]
      have hfl : fs.length = m := by
        have := congrArg List.length hG.nm
        rw [List.length_map, List.length_take] at this
        omega
      have hnm : fs.map St.name = os := by rw [hG.nm]; exact List.take_of_length_le (by omega)
      have hfd : ∀ t ∈ fs, t.name ∈ names8 ∧ (t.above = "" ∨ t.above ∈ names8) ∧ Bnd kind t := by
        intro t ht
        obtain ⟨j, hj⟩ := List.getElem?_of_mem ht
        obtain ⟨u1, u2⟩ := hG.up j t hj
        exact ⟨hmem _ (hnm ▸ List.mem_map_of_mem ht), u1.imp id fun u => hmem _ (List.mem_of_mem_take u), u2⟩
      have hcond : (alikeB (fs.map tD) && sortB (fs.map tD) && (fs.map tD).all fun d => SeqAt.shaped d && decide (d.depth ≤ 50)) = true := by
        rw [Bool.and_eq_true, Bool.and_eq_true]
        refine ⟨⟨?_, ?_⟩, ?_⟩
        · unfold alikeB
          simp [tD, PySem.W.alike, PySem.W.alikeAll]
        · unfold sortB
          rw [Bool.or_eq_true]
          left
          simp [tD, tupN]
        · rw [List.all_map, List.all_eq_true]
          intro t ht
          obtain ⟨k1, k2, _⟩ := hfd t ht
          have s1 : PyData.strOk t.name = true := by
            have := (name8 _ k1).2.1
            unfold PyData.strOk
            rw [← Array.all_toList, List.all_eq_true]
            intro c hc
            have := this c hc
            exact decide_eq_true (by omega)
          have s2 : PyData.strOk t.above = true := by
            rcases k2 with k2 | k2
            · rw [k2]; exact strOk_nil
            · have := (name8 _ k2).2.1
              unfold PyData.strOk
              rw [← Array.all_toList, List.all_eq_true]
              intro c hc
              have := this c hc
              exact decide_eq_true (by omega)
          simp [tD, SeqAt.shaped, PyData.canLay0, PyData.canLayAll0, PyData.depth, PyData.depthAll, s1, s2]
      obtain ⟨ts, hts, hperm, hsrt⟩ := sort_stores (fs := fs) (hnm ▸ hnd)
      have hsort : gSortO (fs.map tD) = some (ts.map tD) := by
        unfold gSortO gSortedN
        dsimp only
        rw [if_pos hcond, hts]
      simp [wp_set, wp_sret, wp_sretO, wp_expr, wp_for, wp_sif, wp_mif, wp_mand, wp_mor, wp_mnot, wp_mtest, wp_bnd, wp_ret, wp_some, wp_mcons, wp_nx, wp_bk, wp_ct, wp_asg, wp_mlc, wp_molc, wp_mcomp, wp_callV, wp_callO, wp_macons, wpr_maown, anQ_own, wpr_aug, auQ_val, wpr, rdQ_val, rdQ_own, wpr_rdO, wpr_wrOp, wpr_mopO, wpr_mmut, wpr_setI, owQ_own, wp_setO, wp_tup, wp_lst, wp_olst, wp_list, wp_tuple, wp_range1, wp_range2, wp_part, wp_slice, wp_tru, wp_andV, wp_orV, wp_notV, seqQ_rt, seqQ_ro, seqQ_bk, seqQ_ct, gath, scat, scat1, pos, ownAt, clQ_nx, clQ_rt, clQ_ro, lpQ_nx, lpQ_ct, lpQ_bk, lpQ_rt, lpQ_ro, mrg1, q_I0, q_I, q_ixL, q_ixT, q_ixO, q_lenL, q_lenT, q_lenO, q_sum, q_listL, q_listT, q_abs, q_max2, q_min2, q_slL, q_neg, q_append, q_setI, q_cMul, q_cDiv, q_cPos, q_cPow, at0, at1, at2, at3, at4, at5, ix0, ix1, okW, isOwn, wipeR, restR, wp_chain, wp_zip, wp_enum, wp_str, wp_slO, wp_rdON, wp_put, wp_swap, wp_str0, wp_mownS, wp_keys, wp_mdcomp, endQ_nx, endQ_rt, endO_ro, q_isiI, q_isiB, q_isiS, q_isiT, q_isiL, q_isiTL, q_all, q_any, q_ltS, q_addS, q_inS, q_ninS, q_lenS, q_lenD, q_zipT, q_zipL, q_catT, q_catL, q_slT, q_slS, q_tupleL, q_tupleT, q_tupO, q_lstO, q_listNL, q_listNT, q_insert, q_upper, q_nu2I, q_nu2B, q_nu1I, q_nu1B, q_strI, q_strB, q_strS, q_ixA_T, q_ixA_L, q_ixA_S, q_ixS, q_eqII, q_neII, q_eqSS, q_neSS, q_eqBB, q_neBB, q_dgetS, q_dgetI, q_dinS, q_dinI, at6, at7, gT, gsCons, gsNil, gN, keyOfD, someQ_some, someQ_if, someQ_map, q_allM, q_anyM, i_BN, i_BB, i_BI, i_BS, i_BL, i_BT, i_BD, i_IN, i_IB, i_II, i_IS, i_IL, i_IT, i_ID, i_SN, i_SB, i_SI, i_SS, i_SL, i_ST, i_SD, i_TN, i_TB, i_TI, i_TS, i_TL, i_TT, i_TD, i_LN, i_LB, i_LI, i_LS, i_LL, i_LT, i_LD, sizeLine_eq, hsort, -List.map_map, -List.map_take]
      have htm : ∀ t, t ∈ ts ↔ t ∈ fs := fun t => hperm.mem_iff
      have hpw := sorted_pair hsrt
      refine h ts a b ⟨by rw [hperm.length_eq]; omega, by rw [hperm.length_eq]; omega, ?_, fun t ht => (hfd t ((htm t).mp ht)).1, fun t ht => (hfd t ((htm t).mp ht)).2.1, fun t ht => (hfd t ((htm t).mp ht)).2.2⟩
      have hix : ∀ t ∈ fs, t.above = "" ∨ (t.above ∈ os ∧ os.idxOf t.above < os.idxOf t.name) := by
        intro t ht
        obtain ⟨j, hj⟩ := List.getElem?_of_mem ht
        have hjl : j < fs.length := (List.getElem?_eq_some_iff.mp hj).1
        rcases (hG.up j t hj).1 with u | u
        · exact .inl u
        · right
          refine ⟨List.mem_of_mem_take u, ?_⟩
          have hn : os[j]? = some t.name := by rw [← hnm, List.getElem?_map, hj]; rfl
          obtain ⟨hjo, hje⟩ := List.getElem?_eq_some_iff.mp hn
          have h1 : os.idxOf t.name = j := by rw [← hje]; exact hnd.idxOf_getElem j hjo
          obtain ⟨q, hq, hqe⟩ := List.getElem_of_mem u
          have hqj : q < j := by rw [List.length_take] at hq; omega
          have hqo : q < os.length := by omega
          have h2 : os.idxOf t.above = q := by
            rw [← hqe, List.getElem_take]
            exact hnd.idxOf_getElem q hqo
          omega
      have habT : ∀ x : PySem.Str, x ≠ "" → abT ts x = "" ∨ os.idxOf (abT ts x) < os.idxOf x := by
        intro x _
        unfold abT
        split
        · rename_i t e
          have ht := (htm t).mp (List.mem_of_find?_eq_some e)
          have hx : t.name = x := by have := List.find?_some e; exact of_decide_eq_true this
          rw [← hx]
          exact (hix t ht).imp id fun u => u.2
        · exact .inl rfl
      unfold treeT
      rw [hsrt, Bool.true_and, Bool.and_eq_true, List.all_eq_true, Bool.not_eq_true', ← Bool.not_eq_true, List.any_eq_true]
      refine ⟨fun t ht => ?_, ?_⟩
      · unfold abvT
        rw [Bool.or_eq_true]
        rcases hix t ((htm t).mp ht) with u | u
        · exact .inl (decide_eq_true u)
        · right
          unfold hasT
          rw [List.any_eq_true]
          have u1 := u.1
          rw [← hnm] at u1
          obtain ⟨w, hw, e⟩ := List.mem_map.mp u1
          exact ⟨w, (htm w).mpr hw, decide_eq_true e⟩
      · rintro ⟨t, ht, hr⟩
        unfold ringT at hr
        obtain ⟨y, hy, e⟩ := List.any_eq_true.mp hr
        have e := of_decide_eq_true e
        obtain ⟨k1, k2⟩ := wayUp_rank (rk := fun x => os.idxOf x) habT _ _ y hy
        rcases hix t ((htm t).mp ht) with u | u
        · exact k1 u
        · rw [e] at k2
          omega
theorem GoodTree.st {kind : Int} {ts : List St} (h : GoodTree kind ts) : ∀ t ∈ ts, stOk t = true := fun t ht => by
  have b := h.bd t ht
  have h1 := b.d1
  have h2 := b.d9
  have h3 := b.b0
  have h4 := b.b29
  have h5 := b.s0
  have h6 := b.s29
  have e1 : withinB 1 9 (.int t.delay) = true := by simp [withinB, h1, h2]
  have e2 : withinB 0 200 (.int t.base) = true := by simp [withinB, h3]; omega
  have e3 : withinB 0 200 (.int t.start) = true := by simp [withinB, h5]; omega
  unfold stOk
  rw [(name8 _ (h.nm t ht)).1, e1, e2, e3]
  rfl
theorem GoodTree.tree {kind : Int} {ts : List St} (h : GoodTree kind ts) : treeB (.tuple (ts.map tD)) = true := by
  have h1 : (ts.map tD).all storeB = true := by
    rw [List.all_map, List.all_eq_true]
    intro t ht
    exact (store_tD t).trans (h.st t ht)
  show (decide (1 ≤ (ts.map tD).length) && (decide ((ts.map tD).length ≤ 8) && ((ts.map tD).all storeB && treeT ((ts.map tD).filterMap unSt)))) = true
  rw [List.length_map, h1, unSts, h.tr, decide_eq_true h.l1, decide_eq_true h.l8]
  rfl
theorem asc_ok {s : PySem.Str} (h : asc s) : PyData.strOk s = true := by
  unfold PyData.strOk
  rw [← Array.all_toList, List.all_eq_true]
  intro c hc
  have := h c hc
  exact decide_eq_true (by omega)
theorem good_asc {s : PySem.Str} (h : asc s) (hl : s.length ≤ 1000000) : good (.str s) = true := by
  unfold good
  rw [decide_eq_true hl, Bool.true_and, List.all_eq_true]
  exact fun c hc => decide_eq_true (h c hc)
theorem GoodTree.ascA {kind : Int} {ts : List St} (h : GoodTree kind ts) : ∀ t ∈ ts, asc t.above ∧ t.above.length ≤ 8 := fun t ht => by
  rcases h.ab t ht with e | e
  · rw [e]; exact ⟨by decide +kernel, by decide +kernel⟩
  · exact ⟨(name8 _ e).2.1, (name8 _ e).2.2.1⟩
theorem GoodTree.good {kind : Int} {ts : List St} (h : GoodTree kind ts) : good (.tuple (ts.map tD)) = true := by
  unfold RG.good
  rw [List.length_map, decide_eq_true (show ts.length ≤ 1000000 by have := h.l8; omega), Bool.true_and, goodAll_iff]
  intro d hd
  obtain ⟨t, ht, rfl⟩ := List.mem_map.mp hd
  have h1 := name8 _ (h.nm t ht)
  have h2 := h.ascA t ht
  have e1 := good_asc h1.2.1 (by omega)
  have e2 := good_asc h2.1 (by omega)
  unfold tD RG.good goodAll goodAll goodAll goodAll goodAll goodAll goodAll
  rw [e1, e2]
  rfl
/-- the law's costs -/
theorem costs_gen {a b : Int} {ts : List St} (hl : ts.length ≤ 8) {Q : D → List (Sl Empty) → Prop} (h : ∀ (cs : List (Int × Int × Int)) a' b', cs.length = ts.length → (∀ c ∈ cs, 0 ≤ c.1 ∧ c.1 < 9 ∧ 0 ≤ c.2.1 ∧ c.2.1 < 101 ∧ 0 ≤ c.2.2 ∧ c.2.2 < 30) →
    Q (.tuple ((ts.zip cs).map fun p => .tuple [.str p.1.name, .int p.2.1, .int p.2.2.1, .int p.2.2.2])) [bagS a' b', .val (.tuple (ts.map tD))]) :
    callQ g__law_costs [bagS a b, .val (.tuple (ts.map tD))] Q := by
  refine call_close ?_
  simp [m__law_costs, wp_seq, wp_set, wp_sret, wp_sretO, wp_expr, wp_for, wp_sif, wp_mif, wp_mand, wp_mor, wp_mnot, wp_mtest, wp_bnd, wp_ret, wp_some, wp_mcons, wp_nx, wp_bk, wp_ct, wp_asg, wp_mlc, wp_molc, wp_mcomp, wp_callV, wp_callO, wp_macons, wpr_maown, anQ_own, wpr_aug, auQ_val, wpr, rdQ_val, rdQ_own, wpr_rdO, wpr_wrOp, wpr_mopO, wpr_mmut, wpr_setI, owQ_own, wp_setO, wp_tup, wp_lst, wp_olst, wp_list, wp_tuple, wp_range1, wp_range2, wp_part, wp_slice, wp_tru, wp_andV, wp_orV, wp_notV, seqQ_nx, seqQ_rt, seqQ_ro, seqQ_bk, seqQ_ct, gath, scat, scat1, pos, ownAt, clQ_nx, clQ_rt, clQ_ro, lpQ_nx, lpQ_ct, lpQ_bk, lpQ_rt, lpQ_ro, mrg1, q_I0, q_I, q_ixL, q_ixT, q_ixO, q_lenL, q_lenT, q_lenO, q_sum, q_listL, q_listT, q_abs, q_max2, q_min2, q_slL, q_neg, q_append, q_setI, q_cMul, q_cDiv, q_cPos, q_cPow, at0, at1, at2, at3, at4, at5, ix0, ix1, okW, isOwn, wipeR, restR, wp_chain, wp_zip, wp_enum, wp_str, wp_slO, wp_rdON, wp_put, wp_swap, wp_str0, wp_mownS, wp_keys, wp_mdcomp, endQ_nx, endQ_rt, endO_ro, q_isiI, q_isiB, q_isiS, q_isiT, q_isiL, q_isiTL, q_all, q_any, q_ltS, q_addS, q_inS, q_ninS, q_lenS, q_lenD, q_zipT, q_zipL, q_catT, q_catL, q_slT, q_slS, q_tupleL, q_tupleT, q_tupO, q_lstO, q_listNL, q_listNT, q_insert, q_upper, q_nu2I, q_nu2B, q_nu1I, q_nu1B, q_strI, q_strB, q_strS, q_ixA_T, q_ixA_L, q_ixA_S, q_ixS, q_eqII, q_neII, q_eqSS, q_neSS, q_eqBB, q_neBB, q_dgetS, q_dgetI, q_dinS, q_dinI, at6, at7, gT, gsCons, gsNil, gN, keyOfD, someQ_some, someQ_if, someQ_map, q_allM, q_anyM, i_BN, i_BB, i_BI, i_BS, i_BL, i_BT, i_BD, i_IN, i_IB, i_II, i_IS, i_IL, i_IT, i_ID, i_SN, i_SB, i_SI, i_SS, i_SL, i_ST, i_SD, i_TN, i_TB, i_TI, i_TS, i_TL, i_TT, i_TD, i_LN, i_LB, i_LI, i_LS, i_LL, i_LT, i_LD, sizeLine_eq, -List.map_map]
  refine ⟨by omega, ?_⟩
  refine wp_comp (fun i acc (ρ : List (Sl Empty)) => ∃ (cs : List (Int × Int × Int)) (a b : Int), cs.length = i ∧ (∀ c ∈ cs, 0 ≤ c.1 ∧ c.1 < 9 ∧ 0 ≤ c.2.1 ∧ c.2.1 < 101 ∧ 0 ≤ c.2.2 ∧ c.2.2 < 30) ∧ acc = (ts.zip cs).map (fun p => .tuple [.str p.1.name, .int p.2.1, .int p.2.2.1, .int p.2.2.2]) ∧ ρ = [bagS a b, .val (.tuple (ts.map tD)), .un]) ⟨[], _, _, rfl, by simp, by simp, rfl⟩ ?_ ?_
  · rintro i d acc ρ hi ⟨cs, a, b, hcl, hcs, rfl, rfl⟩
    rw [List.getElem?_map] at hi
    cases ht : ts[i]? with
    | none => rw [ht] at hi; cases hi
    | some t =>
      rw [ht] at hi
      cases hi
      refine ⟨_, rfl, ?_⟩
      simp [wp_seq, wp_set, wp_sret, wp_sretO, wp_expr, wp_for, wp_sif, wp_mif, wp_mand, wp_mor, wp_mnot, wp_mtest, wp_bnd, wp_ret, wp_some, wp_mcons, wp_nx, wp_bk, wp_ct, wp_asg, wp_mlc, wp_molc, wp_mcomp, wp_callV, wp_callO, wp_macons, wpr_maown, anQ_own, wpr_aug, auQ_val, wpr, rdQ_val, rdQ_own, wpr_rdO, wpr_wrOp, wpr_mopO, wpr_mmut, wpr_setI, owQ_own, wp_setO, wp_tup, wp_lst, wp_olst, wp_list, wp_tuple, wp_range1, wp_range2, wp_part, wp_slice, wp_tru, wp_andV, wp_orV, wp_notV, seqQ_nx, seqQ_rt, seqQ_ro, seqQ_bk, seqQ_ct, gath, scat, scat1, pos, ownAt, clQ_nx, clQ_rt, clQ_ro, lpQ_nx, lpQ_ct, lpQ_bk, lpQ_rt, lpQ_ro, mrg1, q_I0, q_I, q_ixL, q_ixT, q_ixO, q_lenL, q_lenT, q_lenO, q_sum, q_listL, q_listT, q_abs, q_max2, q_min2, q_slL, q_neg, q_append, q_setI, q_cMul, q_cDiv, q_cPos, q_cPow, at0, at1, at2, at3, at4, at5, ix0, ix1, okW, isOwn, wipeR, restR, wp_chain, wp_zip, wp_enum, wp_str, wp_slO, wp_rdON, wp_put, wp_swap, wp_str0, wp_mownS, wp_keys, wp_mdcomp, endQ_nx, endQ_rt, endO_ro, q_isiI, q_isiB, q_isiS, q_isiT, q_isiL, q_isiTL, q_all, q_any, q_ltS, q_addS, q_inS, q_ninS, q_lenS, q_lenD, q_zipT, q_zipL, q_catT, q_catL, q_slT, q_slS, q_tupleL, q_tupleT, q_tupO, q_lstO, q_listNL, q_listNT, q_insert, q_upper, q_nu2I, q_nu2B, q_nu1I, q_nu1B, q_strI, q_strB, q_strS, q_ixA_T, q_ixA_L, q_ixA_S, q_ixS, q_eqII, q_neII, q_eqSS, q_neSS, q_eqBB, q_neBB, q_dgetS, q_dgetI, q_dinS, q_dinI, at6, at7, gT, gsCons, gsNil, gN, keyOfD, someQ_some, someQ_if, someQ_map, q_allM, q_anyM, i_BN, i_BB, i_BI, i_BS, i_BL, i_BT, i_BD, i_IN, i_IB, i_II, i_IS, i_IL, i_IT, i_ID, i_SN, i_SB, i_SI, i_SS, i_SL, i_ST, i_SD, i_TN, i_TB, i_TI, i_TS, i_TL, i_TT, i_TD, i_LN, i_LB, i_LI, i_LS, i_LL, i_LT, i_LD, sizeLine_eq, tD, -List.map_map]
      refine take_step (by decide) fun x a b g0 g1 => ?_
      simp [wp_seq, wp_set, wp_sret, wp_sretO, wp_expr, wp_for, wp_sif, wp_mif, wp_mand, wp_mor, wp_mnot, wp_mtest, wp_bnd, wp_ret, wp_some, wp_mcons, wp_nx, wp_bk, wp_ct, wp_asg, wp_mlc, wp_molc, wp_mcomp, wp_callV, wp_callO, wp_macons, wpr_maown, anQ_own, wpr_aug, auQ_val, wpr, rdQ_val, rdQ_own, wpr_rdO, wpr_wrOp, wpr_mopO, wpr_mmut, wpr_setI, owQ_own, wp_setO, wp_tup, wp_lst, wp_olst, wp_list, wp_tuple, wp_range1, wp_range2, wp_part, wp_slice, wp_tru, wp_andV, wp_orV, wp_notV, seqQ_nx, seqQ_rt, seqQ_ro, seqQ_bk, seqQ_ct, gath, scat, scat1, pos, ownAt, clQ_nx, clQ_rt, clQ_ro, lpQ_nx, lpQ_ct, lpQ_bk, lpQ_rt, lpQ_ro, mrg1, q_I0, q_I, q_ixL, q_ixT, q_ixO, q_lenL, q_lenT, q_lenO, q_sum, q_listL, q_listT, q_abs, q_max2, q_min2, q_slL, q_neg, q_append, q_setI, q_cMul, q_cDiv, q_cPos, q_cPow, at0, at1, at2, at3, at4, at5, ix0, ix1, okW, isOwn, wipeR, restR, wp_chain, wp_zip, wp_enum, wp_str, wp_slO, wp_rdON, wp_put, wp_swap, wp_str0, wp_mownS, wp_keys, wp_mdcomp, endQ_nx, endQ_rt, endO_ro, q_isiI, q_isiB, q_isiS, q_isiT, q_isiL, q_isiTL, q_all, q_any, q_ltS, q_addS, q_inS, q_ninS, q_lenS, q_lenD, q_zipT, q_zipL, q_catT, q_catL, q_slT, q_slS, q_tupleL, q_tupleT, q_tupO, q_lstO, q_listNL, q_listNT, q_insert, q_upper, q_nu2I, q_nu2B, q_nu1I, q_nu1B, q_strI, q_strB, q_strS, q_ixA_T, q_ixA_L, q_ixA_S, q_ixS, q_eqII, q_neII, q_eqSS, q_neSS, q_eqBB, q_neBB, q_dgetS, q_dgetI, q_dinS, q_dinI, at6, at7, gT, gsCons, gsNil, gN, keyOfD, someQ_some, someQ_if, someQ_map, q_allM, q_anyM, i_BN, i_BB, i_BI, i_BS, i_BL, i_BT, i_BD, i_IN, i_IB, i_II, i_IS, i_IL, i_IT, i_ID, i_SN, i_SB, i_SI, i_SS, i_SL, i_ST, i_SD, i_TN, i_TB, i_TI, i_TS, i_TL, i_TT, i_TD, i_LN, i_LB, i_LI, i_LS, i_LL, i_LT, i_LD, sizeLine_eq, -List.map_map]
      refine take_step (by decide) fun y a b g2 g3 => ?_
      simp [wp_seq, wp_set, wp_sret, wp_sretO, wp_expr, wp_for, wp_sif, wp_mif, wp_mand, wp_mor, wp_mnot, wp_mtest, wp_bnd, wp_ret, wp_some, wp_mcons, wp_nx, wp_bk, wp_ct, wp_asg, wp_mlc, wp_molc, wp_mcomp, wp_callV, wp_callO, wp_macons, wpr_maown, anQ_own, wpr_aug, auQ_val, wpr, rdQ_val, rdQ_own, wpr_rdO, wpr_wrOp, wpr_mopO, wpr_mmut, wpr_setI, owQ_own, wp_setO, wp_tup, wp_lst, wp_olst, wp_list, wp_tuple, wp_range1, wp_range2, wp_part, wp_slice, wp_tru, wp_andV, wp_orV, wp_notV, seqQ_nx, seqQ_rt, seqQ_ro, seqQ_bk, seqQ_ct, gath, scat, scat1, pos, ownAt, clQ_nx, clQ_rt, clQ_ro, lpQ_nx, lpQ_ct, lpQ_bk, lpQ_rt, lpQ_ro, mrg1, q_I0, q_I, q_ixL, q_ixT, q_ixO, q_lenL, q_lenT, q_lenO, q_sum, q_listL, q_listT, q_abs, q_max2, q_min2, q_slL, q_neg, q_append, q_setI, q_cMul, q_cDiv, q_cPos, q_cPow, at0, at1, at2, at3, at4, at5, ix0, ix1, okW, isOwn, wipeR, restR, wp_chain, wp_zip, wp_enum, wp_str, wp_slO, wp_rdON, wp_put, wp_swap, wp_str0, wp_mownS, wp_keys, wp_mdcomp, endQ_nx, endQ_rt, endO_ro, q_isiI, q_isiB, q_isiS, q_isiT, q_isiL, q_isiTL, q_all, q_any, q_ltS, q_addS, q_inS, q_ninS, q_lenS, q_lenD, q_zipT, q_zipL, q_catT, q_catL, q_slT, q_slS, q_tupleL, q_tupleT, q_tupO, q_lstO, q_listNL, q_listNT, q_insert, q_upper, q_nu2I, q_nu2B, q_nu1I, q_nu1B, q_strI, q_strB, q_strS, q_ixA_T, q_ixA_L, q_ixA_S, q_ixS, q_eqII, q_neII, q_eqSS, q_neSS, q_eqBB, q_neBB, q_dgetS, q_dgetI, q_dinS, q_dinI, at6, at7, gT, gsCons, gsNil, gN, keyOfD, someQ_some, someQ_if, someQ_map, q_allM, q_anyM, i_BN, i_BB, i_BI, i_BS, i_BL, i_BT, i_BD, i_IN, i_IB, i_II, i_IS, i_IL, i_IT, i_ID, i_SN, i_SB, i_SI, i_SS, i_SL, i_ST, i_SD, i_TN, i_TB, i_TI, i_TS, i_TL, i_TT, i_TD, i_LN, i_LB, i_LI, i_LS, i_LL, i_LT, i_LD, sizeLine_eq, -List.map_map]
      refine take_step (by decide) fun z a b g4 g5 => ?_
      simp [wp_seq, wp_set, wp_sret, wp_sretO, wp_expr, wp_for, wp_sif, wp_mif, wp_mand, wp_mor, wp_mnot, wp_mtest, wp_bnd, wp_ret, wp_some, wp_mcons, wp_nx, wp_bk, wp_ct, wp_asg, wp_mlc, wp_molc, wp_mcomp, wp_callV, wp_callO, wp_macons, wpr_maown, anQ_own, wpr_aug, auQ_val, wpr, rdQ_val, rdQ_own, wpr_rdO, wpr_wrOp, wpr_mopO, wpr_mmut, wpr_setI, owQ_own, wp_setO, wp_tup, wp_lst, wp_olst, wp_list, wp_tuple, wp_range1, wp_range2, wp_part, wp_slice, wp_tru, wp_andV, wp_orV, wp_notV, seqQ_nx, seqQ_rt, seqQ_ro, seqQ_bk, seqQ_ct, gath, scat, scat1, pos, ownAt, clQ_nx, clQ_rt, clQ_ro, lpQ_nx, lpQ_ct, lpQ_bk, lpQ_rt, lpQ_ro, mrg1, q_I0, q_I, q_ixL, q_ixT, q_ixO, q_lenL, q_lenT, q_lenO, q_sum, q_listL, q_listT, q_abs, q_max2, q_min2, q_slL, q_neg, q_append, q_setI, q_cMul, q_cDiv, q_cPos, q_cPow, at0, at1, at2, at3, at4, at5, ix0, ix1, okW, isOwn, wipeR, restR, wp_chain, wp_zip, wp_enum, wp_str, wp_slO, wp_rdON, wp_put, wp_swap, wp_str0, wp_mownS, wp_keys, wp_mdcomp, endQ_nx, endQ_rt, endO_ro, q_isiI, q_isiB, q_isiS, q_isiT, q_isiL, q_isiTL, q_all, q_any, q_ltS, q_addS, q_inS, q_ninS, q_lenS, q_lenD, q_zipT, q_zipL, q_catT, q_catL, q_slT, q_slS, q_tupleL, q_tupleT, q_tupO, q_lstO, q_listNL, q_listNT, q_insert, q_upper, q_nu2I, q_nu2B, q_nu1I, q_nu1B, q_strI, q_strB, q_strS, q_ixA_T, q_ixA_L, q_ixA_S, q_ixS, q_eqII, q_neII, q_eqSS, q_neSS, q_eqBB, q_neBB, q_dgetS, q_dgetI, q_dinS, q_dinI, at6, at7, gT, gsCons, gsNil, gN, keyOfD, someQ_some, someQ_if, someQ_map, q_allM, q_anyM, i_BN, i_BB, i_BI, i_BS, i_BL, i_BT, i_BD, i_IN, i_IB, i_II, i_IS, i_IL, i_IT, i_ID, i_SN, i_SB, i_SI, i_SS, i_SL, i_ST, i_SD, i_TN, i_TB, i_TI, i_TS, i_TL, i_TT, i_TD, i_LN, i_LB, i_LI, i_LS, i_LL, i_LT, i_LD, sizeLine_eq, -List.map_map]
      have hil : i < ts.length := (List.getElem?_eq_some_iff.mp ht).1
      refine ⟨cs ++ [(x, y, z)], by simp [hcl], ?_, ?_⟩
      · simp only [List.mem_append, List.mem_singleton]
        rintro p q r (hp | hp)
        · exact hcs _ hp
        · cases hp; exact ⟨g0, g1, g2, g3, g4, g5⟩
      · have e1 : ts.zip (cs ++ [(x, y, z)]) = ts.zip cs ++ [(t, (x, y, z))] := by
          have hts : ts = ts.take i ++ t :: ts.drop (i + 1) := by
            rw [← (List.getElem?_eq_some_iff.mp ht).2, List.getElem_cons_drop, List.take_append_drop]
          have h1 : ts.zip cs = (ts.take i).zip cs := by
            conv => lhs; rw [hts]
            rw [← List.append_nil cs, List.zip_append (by rw [List.length_take, hcl]; omega)]
            simp
          rw [h1]
          conv => lhs; rw [hts]
          rw [List.zip_append (by rw [List.length_take, hcl]; omega)]
          simp
        rw [e1, List.map_append]
        rfl
  · rintro ys ρ ⟨cs, a, b, hcl, hcs, rfl, rfl⟩
    simp [wp_seq, wp_set, wp_sret, wp_sretO, wp_expr, wp_for, wp_sif, wp_mif, wp_mand, wp_mor, wp_mnot, wp_mtest, wp_bnd, wp_ret, wp_some, wp_mcons, wp_nx, wp_bk, wp_ct, wp_asg, wp_mlc, wp_molc, wp_mcomp, wp_callV, wp_callO, wp_macons, wpr_maown, anQ_own, wpr_aug, auQ_val, wpr, rdQ_val, rdQ_own, wpr_rdO, wpr_wrOp, wpr_mopO, wpr_mmut, wpr_setI, owQ_own, wp_setO, wp_tup, wp_lst, wp_olst, wp_list, wp_tuple, wp_range1, wp_range2, wp_part, wp_slice, wp_tru, wp_andV, wp_orV, wp_notV, seqQ_nx, seqQ_rt, seqQ_ro, seqQ_bk, seqQ_ct, gath, scat, scat1, pos, ownAt, clQ_nx, clQ_rt, clQ_ro, lpQ_nx, lpQ_ct, lpQ_bk, lpQ_rt, lpQ_ro, mrg1, q_I0, q_I, q_ixL, q_ixT, q_ixO, q_lenL, q_lenT, q_lenO, q_sum, q_listL, q_listT, q_abs, q_max2, q_min2, q_slL, q_neg, q_append, q_setI, q_cMul, q_cDiv, q_cPos, q_cPow, at0, at1, at2, at3, at4, at5, ix0, ix1, okW, isOwn, wipeR, restR, wp_chain, wp_zip, wp_enum, wp_str, wp_slO, wp_rdON, wp_put, wp_swap, wp_str0, wp_mownS, wp_keys, wp_mdcomp, endQ_nx, endQ_rt, endO_ro, q_isiI, q_isiB, q_isiS, q_isiT, q_isiL, q_isiTL, q_all, q_any, q_ltS, q_addS, q_inS, q_ninS, q_lenS, q_lenD, q_zipT, q_zipL, q_catT, q_catL, q_slT, q_slS, q_tupleL, q_tupleT, q_tupO, q_lstO, q_listNL, q_listNT, q_insert, q_upper, q_nu2I, q_nu2B, q_nu1I, q_nu1B, q_strI, q_strB, q_strS, q_ixA_T, q_ixA_L, q_ixA_S, q_ixS, q_eqII, q_neII, q_eqSS, q_neSS, q_eqBB, q_neBB, q_dgetS, q_dgetI, q_dinS, q_dinI, at6, at7, gT, gsCons, gsNil, gN, keyOfD, someQ_some, someQ_if, someQ_map, q_allM, q_anyM, i_BN, i_BB, i_BI, i_BS, i_BL, i_BT, i_BD, i_IN, i_IB, i_II, i_IS, i_IL, i_IT, i_ID, i_SN, i_SB, i_SI, i_SS, i_SL, i_ST, i_SD, i_TN, i_TB, i_TI, i_TS, i_TL, i_TT, i_TD, i_LN, i_LB, i_LI, i_LS, i_LL, i_LT, i_LD, sizeLine_eq, -List.map_map]
    exact h cs a b (by simpa using hcl) hcs
end RG
set_option Elab.async false
set_option linter.all false
set_option maxRecDepth 100000
set_option maxHeartbeats 4000000
namespace K15
open PySem PySem.Spec PyProof.Rows L2 DL RG
def topS (i : Nat) : Stmt := PySem.Challenge.pw_rungstock_k15_costs_told.main.body.getD i (.Pass ⟨0, 0, 0, 0⟩)
variable {P : Program} {w : World} {K : PySem.W.Frag} {mg : Str → Option Value} {base : Heap}
def m_law : SM Empty := (DL.sseq (DL.sfor (DL.mrange1 (DL.mcons (DL.mbnd (DL.mret (PySem.PyData.int 1)) fun x => DL.mbnd (DL.mbnd (DL.mcons (DL.mbnd (DL.mcons (DL.rd 0) (DL.mret [])) fun x => DL.mlft (DL.gLen x)) (DL.mcons (DL.mret (PySem.PyData.int 20)) (DL.mret []))) fun x => DL.mlft (DL.gMin2 x)) fun y => DL.mlft (DL.gAdd x y)) (DL.mret []))) (DL.gN 1) (DL.sseq (DL.ssetO 1 2 (DL.mcallO (DL.macons (DL.rd 0) (DL.macons (DL.rd 1) (DL.mret []))) g__law_bag)) (DL.sseq (DL.sset 3 (DL.mcallV (DL.maown 2 (DL.macons (DL.mret (PySem.PyData.int 0)) (DL.mret []))) g__law_tree)) (DL.sseq (DL.sset 4 (DL.mcallV (DL.maown 2 (DL.macons (DL.rd 3) (DL.mret []))) g__law_costs)) (DL.sseq (DL.sset 5 (DL.mcallV (DL.maown 2 (DL.macons (DL.mcallV (DL.maown 2 (DL.macons (DL.mret (PySem.PyData.int 0)) (DL.mret []))) g__law_tree) (DL.mret []))) g__law_costs)) (DL.sseq (DL.sset 6 (DL.mbnd (DL.mcons (DL.mlc (DL.mcomp (DL.mtuple (DL.rd 4)) (List.map (fun x => Prod.snd x) [(PySem.Str.ofString "row", 10)]) (DL.gN 10) (DL.mret Bool.true) (DL.mbnd (DL.mslice (DL.rd 10) (DL.mret Option.none) (DL.mpart (DL.mret (PySem.PyData.int 1))) DL.gSlT) fun x => DL.mbnd (DL.mtup (DL.mcons (DL.mret (PySem.PyData.int 0)) (DL.mcons (DL.mret (PySem.PyData.int 100)) (DL.mcons (DL.mbnd (DL.mlst (DL.mcons (DL.mret (PySem.PyData.int 100)) (DL.mcons (DL.mret (PySem.PyData.int 101)) (DL.mret [])))) fun x => DL.mbnd (DL.mcallV (DL.maown 2 (DL.macons (DL.mret (PySem.PyData.int 2)) (DL.mret []))) g__law_take) fun y => DL.mlft (DL.gIxL x y)) (DL.mret []))))) fun y => DL.mlft (DL.gCatT x y)))) (DL.mret [])) fun x => DL.mlft (DL.gTuple x))) (DL.sseq (DL.sfor (DL.mlist (DL.mlst (DL.mcons (DL.rd 5) (DL.mcons (DL.rd 6) (DL.mcons (DL.mbnd (DL.rd 4) fun x => DL.mbnd (DL.mtup (DL.mcons (DL.mtup (DL.mcons (DL.mret (PySem.PyData.str (PySem.Str.ofString "zz"))) (DL.mcons (DL.mret (PySem.PyData.int 1)) (DL.mcons (DL.mret (PySem.PyData.int 1)) (DL.mcons (DL.mret (PySem.PyData.int 1)) (DL.mret [])))))) (DL.mret []))) fun y => DL.mlft (DL.gCatT x y)) (DL.mcons (DL.mslice (DL.rd 4) (DL.mpart (DL.mret (PySem.PyData.int 1))) (DL.mret Option.none) DL.gSlT) (DL.mcons (DL.mcallV (DL.maown 2 (DL.mret [])) g__law_odd) (DL.mcons (DL.mtup (DL.mret [])) (DL.mret []))))))))) (DL.gN 7) (DL.sif (DL.mtest (DL.mbnd (DL.mcallV (DL.macons (DL.rd 3) (DL.macons (DL.rd 7) (DL.mret []))) g_is_costs) fun x => DL.mbnd (DL.mcallV (DL.macons (DL.rd 3) (DL.macons (DL.rd 7) (DL.mret []))) g__law_is_costs) fun y => DL.mlft (DL.gNeD x y))) (DL.sret (DL.mret (PySem.PyData.bool Bool.false))) DL.snx)) (DL.sfor (DL.mrange1 (DL.mcons (DL.mret (PySem.PyData.int 6)) (DL.mret []))) (DL.gN 8) (DL.sseq (DL.sset 9 (DL.mcallV (DL.macons (DL.rd 3) (DL.macons (DL.rd 4) (DL.mret []))) g_is_costs)) (DL.sseq (DL.sif (DL.mor (DL.mnot (DL.mtest (DL.mbnd (DL.rd 9) fun d => DL.mlft (DL.gIsi "bool" d)))) (DL.mtest (DL.mbnd (DL.rd 9) fun x => DL.mbnd (DL.mcallV (DL.macons (DL.rd 3) (DL.macons (DL.rd 4) (DL.mret []))) g__law_is_costs) fun y => DL.mlft (DL.gNeD x y)))) (DL.sret (DL.mret (PySem.PyData.bool Bool.false))) DL.snx) (DL.sset 4 (DL.mcallV (DL.maown 2 (DL.macons (DL.rd 4) (DL.mret []))) (g__law_spoilt 30))))))))))))) (DL.sret (DL.mret (PySem.PyData.bool Bool.true))))
def g_law : FM Empty := close 11 m_law
abbrev s_is_whole : Stmt := topS 9
abbrev N_is_whole : List Str := ["thing"]
theorem sc_is_whole : FnScope N_is_whole ["thing"] (defScope s_is_whole) := ⟨rfl, rfl, rfl, by decide +kernel, rfl, by decide +kernel, by decide +kernel⟩
theorem ok_is_whole {f : Addr} {fd : FuncData} (F : Fun K "is_whole" "is_whole" s_is_whole f fd)  (m_bool : mg "bool" = none) (m_int : mg "int" = none) (m_isinstance : mg "isinstance" = none) : FnOk P w K mg base CX0 1 f fd ["thing"] (spF (noG K) 1 g_is_whole) := by
  refine F.ok sc_is_whole (spF_len (noG K) rfl) (fun cdv A outer s H vs Q E hr h => ?_)
  have hl : vs.length = 1 := h.1
  refine ⟨tS (noG K) vs _, (dss_one (ds_ret (ps_ret (dv_and (dv_isi (t := "int") (pe_callB call_isi (by rfl) m_isinstance PyProof.Rows.boot_isinstance (pa_cons (dv_var (pv 0)) (pa_cons (pe_bltn (v := .ty "int") (u := .type "int") (by rfl) m_int (by decide +kernel) rfl) pa_nil)))) (dv_one (dv_not (dv_isi (t := "bool") (pe_callB call_isi (by rfl) m_isinstance PyProof.Rows.boot_isinstance (pa_cons (dv_var (pv 0)) (pa_cons (pe_bltn (v := .ty "bool") (u := .type "bool") (by rfl) m_bool (by decide +kernel) rfl) pa_nil)))))))))), body_ok h (by decide) (fun ρ r hρ hg => ?_)⟩
  exact hg
abbrev s_is_within : Stmt := topS 10
abbrev N_is_within : List Str := ["thing", "least", "most"]
theorem sc_is_within : FnScope N_is_within ["thing", "least", "most"] (defScope s_is_within) := ⟨rfl, rfl, rfl, by decide +kernel, rfl, by decide +kernel, by decide +kernel⟩
theorem ok_is_within {f : Addr} {fd : FuncData} (F : Fun K "is_within" "is_within" s_is_within f fd) (c_is_whole : CalF P w K mg base 1 "is_whole" ["thing"] (spF (noG K) 1 g_is_whole))  : FnOk P w K mg base CX0 2 f fd ["thing", "least", "most"] (spF (noG K) 3 g_is_within) := by
  refine F.ok sc_is_within (spF_len (noG K) rfl) (fun cdv A outer s H vs Q E hr h => ?_)
  have hl : vs.length = 3 := h.1
  refine ⟨tS (noG K) vs _, (dss_one (ds_ret (ps_ret (dv_and (dv_callF (pe_cal c_is_whole (hr.mono (by decide)) rfl (dr_val (dv_var (pv 0)) dr_nil)) (al_val al_nil)) (dv_one (dv_chain (pe_chain op_le op_le (dv_var (pv 1)) (dv_var (pv 0)) (dv_var (pv 2))) d_le d_le)))))), body_ok h (by decide) (fun ρ r hρ hg => ?_)⟩
  exact hg
abbrev s_is_name : Stmt := topS 11
abbrev N_is_name : List Str := ["thing", "sign"]
theorem sc_is_name : FnScope N_is_name ["thing"] (defScope s_is_name) := ⟨rfl, rfl, rfl, by decide +kernel, rfl, by decide +kernel, by decide +kernel⟩
theorem ok_is_name {f : Addr} {fd : FuncData} (F : Fun K "is_name" "is_name" s_is_name f fd)  (m_LETTERS : GlV mg "LETTERS" (.str "abcdefghijklmnopqrstuvwxyz")) (m_all : mg "all" = none) (m_isinstance : mg "isinstance" = none) (m_len : mg "len" = none) (m_str : mg "str" = none) : FnOk P w K mg base CX0 1 f fd ["thing"] (spF (noG K) 1 g_is_name) := by
  refine F.ok sc_is_name (spF_len (noG K) rfl) (fun cdv A outer s H vs Q E hr h => ?_)
  have hl : vs.length = 1 := h.1
  refine ⟨tS (noG K) vs _, (dss_one (ds_ret (ps_ret (dv_and (dv_isi (t := "str") (pe_callB call_isi (by rfl) m_isinstance PyProof.Rows.boot_isinstance (pa_cons (dv_var (pv 0)) (pa_cons (pe_bltn (v := .ty "str") (u := .type "str") (by rfl) m_str (by decide +kernel) rfl) pa_nil)))) (dv_and (dv_chain (pe_chain op_le op_le dv_int (dv_call (pe_callB call_len (by rfl) m_len PySem.boot_len (da_cons (dv_var (pv 0)) da_nil)) d_len) dv_int) d_le d_le) (dv_one (dv_call (pe_callB (cr_all rfl) (by rfl) m_all (by decide +kernel) (da_cons (dv_lc (pe_lc (own := [("sign", 1)]) (g := gName 1) rfl sc_is_name.nd (di_str (pi_str (dv_var (pv 0)))) (blkOk_by (own := [("sign", 1)]) (N := N_is_name) (sc := defScope s_is_name) (by decide +kernel)) (fun _ _ _ _ _ => (pg_name (i := 1) sc_is_name.nd rfl (.inl rfl))) (fun _ _ _ _ _ => dts_nil) (fun _ _ _ _ _ => (dv_op (pe_cmpR op_in_sign (dv_var (pv 1)) (dv_gs (v := "abcdefghijklmnopqrstuvwxyz") (pe_gl m_LETTERS (by rfl))) (by rfl)) d_inS))) (dg_name 1) (by decide)) da_nil)) d_all))))))), body_ok h (by decide) (fun ρ r hρ hg => ?_)⟩
  exact hg
abbrev s_is_store : Stmt := topS 12
abbrev N_is_store : List Str := ["thing", "name", "above", "delay", "base", "start", "waits"]
theorem sc_is_store : FnScope N_is_store ["thing"] (defScope s_is_store) := ⟨rfl, rfl, rfl, by decide +kernel, rfl, by decide +kernel, by decide +kernel⟩
theorem ok_is_store {f : Addr} {fd : FuncData} (F : Fun K "is_store" "is_store" s_is_store f fd) (c_is_name : CalF P w K mg base 1 "is_name" ["thing"] (spF (noG K) 1 g_is_name)) (c_is_within : CalF P w K mg base 2 "is_within" ["thing", "least", "most"] (spF (noG K) 3 g_is_within)) (m_MOST_BASE : GlV mg "MOST_BASE" (.int 200)) (m_MOST_DELAY : GlV mg "MOST_DELAY" (.int 9)) (m_bool : mg "bool" = none) (m_isinstance : mg "isinstance" = none) (m_len : mg "len" = none) (m_str : mg "str" = none) (m_tuple : mg "tuple" = none) : FnOk P w K mg base CX0 3 f fd ["thing"] (spF (noG K) 1 g_is_store) := by
  refine F.ok sc_is_store (spF_len (noG K) rfl) (fun cdv A outer s H vs Q E hr h => ?_)
  have hl : vs.length = 1 := h.1
  refine ⟨tS (noG K) vs _, (dss_cons (ds_if (PW.pt (dw_or (dt_not (dt_B (pt_val (dv_isi (t := "tuple") (pe_callB call_isi (by rfl) m_isinstance PyProof.Rows.boot_isinstance (pa_cons (dv_var (pv 0)) (pa_cons (pe_bltn (v := .ty "tuple") (u := .type "tuple") (by rfl) m_tuple (by decide +kernel) rfl) pa_nil))))))) (dw_or (dt_op (pt_cmpR (op_neD hr.units) (dv_call (pe_callB call_len (by rfl) m_len PySem.boot_len (da_cons (dv_var (pv 0)) da_nil)) d_len) dv_int (nomark _)) d_neD) (dw_or (dt_not (dt_B (pt_val (dv_callF (pe_cal c_is_name (hr.mono (by decide)) rfl (dr_val (dv_op (pe_ix ix_tup (dv_var (pv 0)) dv_int (fun _ _ => rfl)) d_ixT) dr_nil)) (al_val al_nil))))) (dw_or1 (dt_not (dt_B (pt_val (dv_isi (t := "str") (pe_callB call_isi (by rfl) m_isinstance PyProof.Rows.boot_isinstance (pa_cons (dv_op (pe_ix ix_tup (dv_var (pv 0)) dv_int (fun _ _ => rfl)) d_ixT) (pa_cons (pe_bltn (v := .ty "str") (u := .type "str") (by rfl) m_str (by decide +kernel) rfl) pa_nil))))))))))))
    (dss_one (ds_ret (ps_ret dv_bl)))
    dss_nil)
  (dss_cons (ds_asg (ps_asg (dv_var (pv 0)) (pg_tup (n := 6) (by rfl) (pgs_cons (pg_name (i := 1) sc_is_store.nd rfl (.inl rfl)) (pgs_cons (pg_name (i := 2) sc_is_store.nd rfl (.inl rfl)) (pgs_cons (pg_name (i := 3) sc_is_store.nd rfl (.inl rfl)) (pgs_cons (pg_name (i := 4) sc_is_store.nd rfl (.inl rfl)) (pgs_cons (pg_name (i := 5) sc_is_store.nd rfl (.inl rfl)) (pgs_cons (pg_name (i := 6) sc_is_store.nd rfl (.inl rfl)) pgs_nil)))))))) (dg_tup (dgs_cons (dg_name 1) (dgs_cons (dg_name 2) (dgs_cons (dg_name 3) (dgs_cons (dg_name 4) (dgs_cons (dg_name 5) (dgs_cons (dg_name 6) dgs_nil))))))))
  (dss_cons (ds_if (PW.pt (dw_or (dt_not (dt_B (pt_val (dv_callF (pe_cal c_is_within (hr.mono (by decide)) rfl (dr_val (dv_var (pv 3)) (dr_val dv_int (dr_val (dv_gi (v := 9) (pe_gl m_MOST_DELAY (by rfl))) dr_nil)))) (al_val (al_val (al_val al_nil))))))) (dw_or1 (dt_not (dt_B (pt_val (dv_isi (t := "bool") (pe_callB call_isi (by rfl) m_isinstance PyProof.Rows.boot_isinstance (pa_cons (dv_var (pv 6)) (pa_cons (pe_bltn (v := .ty "bool") (u := .type "bool") (by rfl) m_bool (by decide +kernel) rfl) pa_nil))))))))))
    (dss_one (ds_ret (ps_ret dv_bl)))
    dss_nil)
  (dss_one (ds_ret (ps_ret (dv_and (dv_callF (pe_cal c_is_within (hr.mono (by decide)) rfl (dr_val (dv_var (pv 4)) (dr_val dv_int (dr_val (dv_gi (v := 200) (pe_gl m_MOST_BASE (by rfl))) dr_nil)))) (al_val (al_val (al_val al_nil)))) (dv_one (dv_callF (pe_cal c_is_within (hr.mono (by decide)) rfl (dr_val (dv_var (pv 5)) (dr_val dv_int (dr_val (dv_gi (v := 200) (pe_gl m_MOST_BASE (by rfl))) dr_nil)))) (al_val (al_val (al_val al_nil)))))))))))), body_ok h (by decide) (fun ρ r hρ hg => ?_)⟩
  exact hg
abbrev s_way_up : Stmt := topS 13
abbrev N_way_up : List Str := ["above", "name", "found", "here"]
theorem sc_way_up : FnScope N_way_up ["above", "name"] (defScope s_way_up) := ⟨rfl, rfl, rfl, by decide +kernel, rfl, by decide +kernel, by decide +kernel⟩
theorem ok_way_up {f : Addr} {fd : FuncData} (F : Fun K "way_up" "way_up" s_way_up f fd)  (m_len : mg "len" = none) : FnOk P w K mg base CX0 1 f fd ["above", "name"] (spF (noG K) 2 g_way_up) := by
  refine F.ok sc_way_up (spF_len (noG K) rfl) (fun cdv A outer s H vs Q E hr h => ?_)
  have hl : vs.length = 2 := h.1
  refine ⟨tS (noG K) vs _, (dss_cons (ds_setO (ps_set (i := 2) sc_way_up.nd rfl (.inl rfl) (do_lst (pe_lst da_nil))) hl)
  (dss_cons (ds_set (ps_set (i := 3) sc_way_up.nd rfl (.inl rfl) (dv_dget (pe_dget (hu_of hr) (dv_var (pv 0)) (dv_var (pv 1)) (fun _ _ => rfl)))))
  (dss_cons (ds_while (n := w_way_up) (ps_while PassesOwn.never (PW.pt (dw_and (dt_op (pt_cmpR (op_neD hr.units) (dv_var (pv 3)) dv_str (nomark _)) d_neD) (dw_and1 (dt_op (pt_cmpR op_lt (dv_callO (pe_callB call_len (by rfl) m_len PySem.boot_len (pa_cons (pv 2) pa_nil)) d_lenO) (dv_call (pe_callB call_lenR (by rfl) m_len PySem.boot_len (da_cons (dv_var (pv 0)) da_nil)) d_lenD) (nomark _)) d_lt))))
    (dss_cons (ds_expr (ps_expr (dv_mut (pe_bm PySem.F.plainAttrs_list PySem.F.slot_list_append PySem.F.type_list_append mt_append (pv 2) (da_cons (dv_var (pv 3)) da_nil)) d_append)))
  (dss_one (ds_set (ps_set (i := 3) sc_way_up.nd rfl (.inl rfl) (dv_dget (pe_dget (hu_of hr) (dv_var (pv 0)) (dv_var (pv 3)) (fun _ _ => rfl)))))))))
  (dss_one (ds_ret (ps_ret (dv_var (pv 2)))))))), body_ok h (by decide) (fun ρ r hρ hg => ?_)⟩
  exact hg
abbrev s_is_tree : Stmt := topS 14
abbrev N_is_tree : List Str := ["thing", "above", "one", "other", "name"]
theorem sc_is_tree : FnScope N_is_tree ["thing"] (defScope s_is_tree) := ⟨rfl, rfl, rfl, by decide +kernel, rfl, by decide +kernel, by decide +kernel⟩
theorem ok_is_tree {f : Addr} {fd : FuncData} (F : Fun K "is_tree" "is_tree" s_is_tree f fd) (c_is_store : CalF P w K mg base 3 "is_store" ["thing"] (spF (noG K) 1 g_is_store)) (c_way_up : CalF P w K mg base 1 "way_up" ["above", "name"] (spF (noG K) 2 g_way_up)) (m_MOST_STORES : GlV mg "MOST_STORES" (.int 8)) (m_all : mg "all" = none) (m_any : mg "any" = none) (m_isinstance : mg "isinstance" = none) (m_len : mg "len" = none) (m_tuple : mg "tuple" = none) (m_zip : mg "zip" = none) : FnOk P w K mg base CX0 4 f fd ["thing"] (spF (noG K) 1 g_is_tree) := by
  refine F.ok sc_is_tree (spF_len (noG K) rfl) (fun cdv A outer s H vs Q E hr h => ?_)
  have hl : vs.length = 1 := h.1
  refine ⟨tS (noG K) vs _, (dss_cons (ds_if (PW.pt (dw_or (dt_not (dt_B (pt_val (dv_isi (t := "tuple") (pe_callB call_isi (by rfl) m_isinstance PyProof.Rows.boot_isinstance (pa_cons (dv_var (pv 0)) (pa_cons (pe_bltn (v := .ty "tuple") (u := .type "tuple") (by rfl) m_tuple (by decide +kernel) rfl) pa_nil))))))) (dw_or (dt_not (dt_chain (pt_chain op_le op_le dv_int (dv_call (pe_callB call_len (by rfl) m_len PySem.boot_len (da_cons (dv_var (pv 0)) da_nil)) d_len) (dv_gi (v := 8) (pe_gl m_MOST_STORES (by rfl)))) d_le d_le)) (dw_or1 (dt_not (dt_B (pt_val (dv_call (pe_callB (cr_all rfl) (by rfl) m_all (by decide +kernel) (da_cons (dv_lc (pe_lc (own := [("one", 2)]) (g := gName 2) rfl sc_is_tree.nd (di_tup (pi_tup (dv_var (pv 0)))) (blkOk_by (own := [("one", 2)]) (N := N_is_tree) (sc := defScope s_is_tree) (by decide +kernel)) (fun _ _ _ _ _ => (pg_name (i := 2) sc_is_tree.nd rfl (.inl rfl))) (fun _ _ _ _ _ => dts_nil) (fun _ _ _ _ _ => (dv_callF (pe_cal c_is_store (hr.mono (by decide)) rfl (dr_val (dv_var (pv 2)) dr_nil)) (al_val al_nil)))) (dg_name 2) (by decide)) da_nil)) d_all))))))))
    (dss_one (ds_ret (ps_ret dv_bl)))
    dss_nil)
  (dss_cons (ds_if (dt_not (dt_B (pt_val (dv_call (pe_callB (cr_all rfl) (by rfl) m_all (by decide +kernel) (da_cons (dv_lc (pe_lc (own := [("one", 2), ("other", 3)]) (g := gTup _ 2 (gCons (gName 2) (gCons (gName 3) gNil))) rfl sc_is_tree.nd (di_zip (RZ.pi_zipA (by rfl) m_zip (da_cons (dv_var (pv 0)) (da_cons (dv_slice (pe_slice sl_tupA (dv_var (pv 0)) (dpo_some dv_int) dpo_none) d_slT) da_nil)))) (blkOk_by (own := [("one", 2), ("other", 3)]) (N := N_is_tree) (sc := defScope s_is_tree) (by decide +kernel)) (fun _ _ _ _ _ => (pg_tup (n := 2) (by rfl) (pgs_cons (pg_name (i := 2) sc_is_tree.nd rfl (.inl rfl)) (pgs_cons (pg_name (i := 3) sc_is_tree.nd rfl (.inl rfl)) pgs_nil)))) (fun _ _ _ _ _ => dts_nil) (fun _ _ _ _ _ => (dv_op (pe_cmpR op_lt_str (dv_op (pe_ix ix_tup (dv_var (pv 2)) dv_int (fun _ _ => rfl)) d_ixT) (dv_op (pe_ix ix_tup (dv_var (pv 3)) dv_int (fun _ _ => rfl)) d_ixT) (nomark _)) d_ltS))) (dg_tup (dgs_cons (dg_name 2) (dgs_cons (dg_name 3) dgs_nil))) (by decide)) da_nil)) d_all))))
    (dss_one (ds_ret (ps_ret dv_bl)))
    dss_nil)
  (dss_cons (ds_set (ps_set (i := 1) sc_is_tree.nd rfl (.inr rfl) (dv_dc (pe_frz (pe_dc (own := [("one", 2)]) (g := gName 2) rfl sc_is_tree.nd (di_tup (pi_tup (dv_var (pv 0)))) (blkOk_by (own := [("one", 2)]) (N := N_is_tree) (sc := defScope s_is_tree) (by decide +kernel)) (fun _ _ _ _ _ => (pg_name (i := 2) sc_is_tree.nd rfl (.inl rfl))) (fun _ _ _ _ _ => dts_nil) (fun _ _ _ _ _ => (dv_op (pe_ix ix_tup (dv_var (pv 2)) dv_int (fun _ _ => rfl)) d_ixT)) (fun _ _ _ _ _ => (dv_op (pe_ix ix_tup (dv_var (pv 2)) dv_int (fun _ _ => rfl)) d_ixT)))) (dg_name 2) (by decide))))
  (dss_cons (ds_if (dt_not (dt_B (pt_val (dv_call (pe_callB (cr_all rfl) (by rfl) m_all (by decide +kernel) (da_cons (dv_lc (pe_lc (own := [("one", 2)]) (g := gName 2) rfl sc_is_tree.nd (di_tup (pi_tup (dv_var (pv 0)))) (blkOk_by (own := [("one", 2)]) (N := N_is_tree) (sc := defScope s_is_tree) (by decide +kernel)) (fun _ _ _ _ _ => (pg_name (i := 2) sc_is_tree.nd rfl (.inl rfl))) (fun _ _ _ _ _ => dts_nil) (fun _ _ _ _ _ => (dv_or (dv_op (pe_cmpR (op_eqD hr.units) (dv_op (pe_ix ix_tup (dv_var (pv 2)) dv_int (fun _ _ => rfl)) d_ixT) dv_str (nomark _)) d_eqD) (dv_one (dv_din (pe_cmp (pc_din (hu_of hr) (dv_op (pe_ix ix_tup (dv_var (pv 2)) dv_int (fun _ _ => rfl)) d_ixT) (dv_var (pv 1))))))))) (dg_name 2) (by decide)) da_nil)) d_all))))
    (dss_one (ds_ret (ps_ret dv_bl)))
    dss_nil)
  (dss_one (ds_ret (ps_ret (dv_not (dv_call (pe_callB (cr_any rfl) (by rfl) m_any (by decide +kernel) (da_cons (dv_lc (pe_lc (own := [("name", 4)]) (g := gName 4) rfl sc_is_tree.nd (di_keys (pi_keys (dv_var (pv 1)))) (blkOk_by (own := [("name", 4)]) (N := N_is_tree) (sc := defScope s_is_tree) (by decide +kernel)) (fun _ _ _ _ _ => (pg_name (i := 4) sc_is_tree.nd rfl (.inl rfl))) (fun _ _ _ _ _ => dts_nil) (fun _ _ _ _ _ => (dv_op (pe_cmpR (op_inD (hu65 hr)) (dv_var (pv 4)) (dv_callF (pe_cal c_way_up (hr.mono (by decide)) rfl (dr_val (dv_var (pv 1)) (dr_val (dv_var (pv 4)) dr_nil))) (al_val (al_val al_nil))) (by rfl)) d_inD))) (dg_name 4) (by decide)) da_nil)) d_any))))))))), body_ok h (by decide) (fun ρ r hρ hg => ?_)⟩
  exact hg
abbrev s_need_tree : Stmt := topS 15
abbrev N_need_tree : List Str := ["thing"]
theorem sc_need_tree : FnScope N_need_tree ["thing"] (defScope s_need_tree) := ⟨rfl, rfl, rfl, by decide +kernel, rfl, by decide +kernel, by decide +kernel⟩
theorem ok_need_tree {f : Addr} {fd : FuncData} (F : Fun K "need_tree" "need_tree" s_need_tree f fd) (c_is_tree : CalF P w K mg base 4 "is_tree" ["thing"] (spF (noG K) 1 g_is_tree))  : FnOk P w K mg base CX0 5 f fd ["thing"] (spF (noG K) 1 g_need_tree) := by
  refine F.ok sc_need_tree (spF_len (noG K) rfl) (fun cdv A outer s H vs Q E hr h => ?_)
  have hl : vs.length = 1 := h.1
  refine ⟨tS (noG K) vs _, (dss_one (ds_if (dt_not (dt_B (pt_val (dv_callF (pe_cal c_is_tree (hr.mono (by decide)) rfl (dr_val (dv_var (pv 0)) dr_nil)) (al_val al_nil)))))
    (dss_one ds_never)
    dss_nil)), body_ok h (by decide) (fun ρ r hρ hg => ?_)⟩
  exact hg
abbrev s_are_costs : Stmt := topS 18
abbrev N_are_costs : List Str := ["tree", "thing", "store", "row", "part"]
theorem sc_are_costs : FnScope N_are_costs ["tree", "thing"] (defScope s_are_costs) := ⟨rfl, rfl, rfl, by decide +kernel, rfl, by decide +kernel, by decide +kernel⟩
theorem ok_are_costs {f : Addr} {fd : FuncData} (F : Fun K "are_costs" "are_costs" s_are_costs f fd) (c_is_within : CalF P w K mg base 2 "is_within" ["thing", "least", "most"] (spF (noG K) 3 g_is_within)) (m_MOST_COST : GlV mg "MOST_COST" (.int 100)) (m_all : mg "all" = none) (m_isinstance : mg "isinstance" = none) (m_len : mg "len" = none) (m_str : mg "str" = none) (m_tuple : mg "tuple" = none) (m_zip : mg "zip" = none) : FnOk P w K mg base CX0 3 f fd ["tree", "thing"] (spF (noG K) 2 g_are_costs) := by
  refine F.ok sc_are_costs (spF_len (noG K) rfl) (fun cdv A outer s H vs Q E hr h => ?_)
  have hl : vs.length = 2 := h.1
  refine ⟨tS (noG K) vs _, (dss_cons (ds_if (PW.pt (dw_or (dt_not (dt_B (pt_val (dv_isi (t := "tuple") (pe_callB call_isi (by rfl) m_isinstance PyProof.Rows.boot_isinstance (pa_cons (dv_var (pv 1)) (pa_cons (pe_bltn (v := .ty "tuple") (u := .type "tuple") (by rfl) m_tuple (by decide +kernel) rfl) pa_nil))))))) (dw_or1 (dt_op (pt_cmpR (op_neD hr.units) (dv_call (pe_callB call_len (by rfl) m_len PySem.boot_len (da_cons (dv_var (pv 1)) da_nil)) d_len) (dv_call (pe_callB call_len (by rfl) m_len PySem.boot_len (da_cons (dv_var (pv 0)) da_nil)) d_len) (nomark _)) d_neD))))
    (dss_one (ds_ret (ps_ret dv_bl)))
    dss_nil)
  (dss_cons (ds_for (ps_for PassesOwn.never rfl (di_zip (RZ.pi_zipA (by rfl) m_zip (da_cons (dv_var (pv 0)) (da_cons (dv_var (pv 1)) da_nil)))) (pg_tup (n := 2) (by rfl) (pgs_cons (pg_name (i := 2) sc_are_costs.nd rfl (.inl rfl)) (pgs_cons (pg_name (i := 3) sc_are_costs.nd rfl (.inl rfl)) pgs_nil)))
    (dss_cons (ds_if (PW.pt (dw_or (dt_not (dt_B (pt_val (dv_isi (t := "tuple") (pe_callB call_isi (by rfl) m_isinstance PyProof.Rows.boot_isinstance (pa_cons (dv_var (pv 3)) (pa_cons (pe_bltn (v := .ty "tuple") (u := .type "tuple") (by rfl) m_tuple (by decide +kernel) rfl) pa_nil))))))) (dw_or (dt_op (pt_cmpR (op_neD hr.units) (dv_call (pe_callB call_len (by rfl) m_len PySem.boot_len (da_cons (dv_var (pv 3)) da_nil)) d_len) dv_int (nomark _)) d_neD) (dw_or (dt_op (pt_cmpR (op_neD hr.units) (dv_op (pe_ix ix_tup (dv_var (pv 3)) dv_int (fun _ _ => rfl)) d_ixT) (dv_op (pe_ix ix_tup (dv_var (pv 2)) dv_int (fun _ _ => rfl)) d_ixT) (nomark _)) d_neD) (dw_or1 (dt_not (dt_B (pt_val (dv_isi (t := "str") (pe_callB call_isi (by rfl) m_isinstance PyProof.Rows.boot_isinstance (pa_cons (dv_op (pe_ix ix_tup (dv_var (pv 3)) dv_int (fun _ _ => rfl)) d_ixT) (pa_cons (pe_bltn (v := .ty "str") (u := .type "str") (by rfl) m_str (by decide +kernel) rfl) pa_nil))))))))))))
    (dss_one (ds_ret (ps_ret dv_bl)))
    dss_nil)
  (dss_one (ds_if (dt_not (dt_B (pt_val (dv_call (pe_callB (cr_all rfl) (by rfl) m_all (by decide +kernel) (da_cons (dv_lc (pe_lc (own := [("part", 4)]) (g := gName 4) rfl sc_are_costs.nd (di_tup (pi_tup (dv_slice (pe_slice sl_tupA (dv_var (pv 3)) (dpo_some dv_int) dpo_none) d_slT))) (blkOk_by (own := [("part", 4)]) (N := N_are_costs) (sc := defScope s_are_costs) (by decide +kernel)) (fun _ _ _ _ _ => (pg_name (i := 4) sc_are_costs.nd rfl (.inl rfl))) (fun _ _ _ _ _ => dts_nil) (fun _ _ _ _ _ => (dv_callF (pe_cal c_is_within (hr.mono (by decide)) rfl (dr_val (dv_var (pv 4)) (dr_val dv_int (dr_val (dv_gi (v := 100) (pe_gl m_MOST_COST (by rfl))) dr_nil)))) (al_val (al_val (al_val al_nil)))))) (dg_name 4) (by decide)) da_nil)) d_all))))
    (dss_one (ds_ret (ps_ret dv_bl)))
    dss_nil)))) (dg_tup (dgs_cons (dg_name 2) (dgs_cons (dg_name 3) dgs_nil))))
  (dss_one (ds_ret (ps_ret dv_bl))))), body_ok h (by decide) (fun ρ r hρ hg => ?_)⟩
  exact hg
abbrev s_is_costs : Stmt := topS 19
abbrev N_is_costs : List Str := ["tree", "thing"]
theorem sc_is_costs : FnScope N_is_costs ["tree", "thing"] (defScope s_is_costs) := ⟨rfl, rfl, rfl, by decide +kernel, rfl, by decide +kernel, by decide +kernel⟩
theorem ok_is_costs {f : Addr} {fd : FuncData} (F : Fun K "is_costs" "is_costs" s_is_costs f fd) (c_are_costs : CalF P w K mg base 3 "are_costs" ["tree", "thing"] (spF (noG K) 2 g_are_costs)) (c_need_tree : CalF P w K mg base 5 "need_tree" ["thing"] (spF (noG K) 1 g_need_tree))  : FnOk P w K mg base CX0 6 f fd ["tree", "thing"] (spF (noG K) 2 g_is_costs) := by
  refine F.ok sc_is_costs (spF_len (noG K) rfl) (fun cdv A outer s H vs Q E hr h => ?_)
  have hl : vs.length = 2 := h.1
  refine ⟨tS (noG K) vs _, (dss_cons (ds_expr (ps_expr (dv_callF (pe_cal c_need_tree (hr.mono (by decide)) rfl (dr_val (dv_var (pv 0)) dr_nil)) (al_val al_nil))))
  (dss_one (ds_ret (ps_ret (dv_callF (pe_cal c_are_costs (hr.mono (by decide)) rfl (dr_val (dv_var (pv 0)) (dr_val (dv_var (pv 1)) dr_nil))) (al_val (al_val al_nil))))))), body_ok h (by decide) (fun ρ r hρ hg => ?_)⟩
  exact hg
abbrev s__law_bag : Stmt := topS 21
abbrev N__law_bag : List Str := ["script", "k", "cell"]
theorem sc__law_bag : FnScope N__law_bag ["script", "k"] (defScope s__law_bag) := ⟨rfl, rfl, rfl, by decide +kernel, rfl, by decide +kernel, by decide +kernel⟩
theorem ok__law_bag {f : Addr} {fd : FuncData} (F : Fun K "_law_bag" "_law_bag" s__law_bag f fd)  (m_abs : mg "abs" = none) (m_len : mg "len" = none) : FnOk P w K mg base CX0 1 f fd ["script", "k"] (spF (noG K) 2 g__law_bag) := by
  refine F.ok sc__law_bag (spF_len (noG K) rfl) (fun cdv A outer s H vs Q E hr h => ?_)
  have hl : vs.length = 2 := h.1
  refine ⟨tS (noG K) vs _, (dss_cons (ds_set (ps_set (i := 2) sc__law_bag.nd rfl (.inl rfl) dv_int))
  (dss_cons (ds_if (dt_op (pt_cmpR op_lt (dv_var (pv 1)) (dv_call (pe_callB call_len (by rfl) m_len PySem.boot_len (da_cons (dv_var (pv 0)) da_nil)) d_len) (nomark _)) d_lt)
    (dss_one (ds_set (ps_set (i := 2) sc__law_bag.nd rfl (.inl rfl) (dv_call (pe_callB call_abs (by rfl) m_abs PyProof.Rows.boot_abs (da_cons (dv_op (pe_ix ix_list (dv_var (pv 0)) (dv_var (pv 1)) (fun _ _ => rfl)) d_ixL) da_nil)) d_abs))))
    dss_nil)
  (dss_cons (ds_if (dt_op (pt_cmpR op_lt (dv_var (pv 2)) (dv_op (pe_op op_pow dv_int dv_int) d_pow) (nomark _)) d_lt)
    (dss_one (ds_retO (ps_ret (do_lst (pe_lst (da_cons dv_int (da_cons (dv_op (pe_op op_add dv_int (dv_op (pe_op op_mod (dv_op (pe_op op_add (dv_op (pe_op op_mul (dv_var (pv 2)) dv_int) d_mul) (dv_op (pe_op op_mul dv_int (dv_var (pv 1))) d_mul)) d_add) dv_int) d_mod)) d_add) da_nil)))))))
    dss_nil)
  (dss_one (ds_retO (ps_ret (do_lst (pe_lst (da_cons (dv_var (pv 2)) (da_cons (dv_op (pe_op op_add dv_int (dv_op (pe_op op_mod (dv_op (pe_op op_add (dv_var (pv 2)) (dv_var (pv 1))) d_add) dv_int) d_mod)) d_add) da_nil)))))))))), body_ok h (by decide) (fun ρ r hρ hg => ?_)⟩
  exact hg
abbrev s__law_take : Stmt := topS 22
abbrev N__law_take : List Str := ["bag", "many", "found"]
theorem sc__law_take : FnScope N__law_take ["bag", "many"] (defScope s__law_take) := ⟨rfl, rfl, rfl, by decide +kernel, rfl, by decide +kernel, by decide +kernel⟩
theorem ok__law_take {f : Addr} {fd : FuncData} (F : Fun K "_law_take" "_law_take" s__law_take f fd)   : FnOk P w K mg base CX0 1 f fd ["bag", "many"] (spF (noG K) 2 g__law_take) := by
  refine F.ok sc__law_take (spF_len (noG K) rfl) (fun cdv A outer s H vs Q E hr h => ?_)
  have hl : vs.length = 2 := h.1
  refine ⟨tS (noG K) vs _, (dss_cons (ds_if (dt_op (pt_cmpR op_gt (dv_opO (pe_ix ix_list (pv 0) dv_int (fun _ _ => rfl)) d_ixO) dv_int (nomark _)) d_gt)
    (dss_cons (ds_set (ps_set (i := 2) sc__law_take.nd rfl (.inl rfl) (dv_op (pe_op op_mod (dv_opO (pe_ix ix_list (pv 0) dv_int (fun _ _ => rfl)) d_ixO) (dv_var (pv 1))) d_mod)))
  (dss_cons (ds_setI (ps_asg (dv_op (pe_op op_fdiv (dv_opO (pe_ix ix_list (pv 0) dv_int (fun _ _ => rfl)) d_ixO) (dv_var (pv 1))) d_div) (pg_sub (pv 0) dv_int set_list)))
  (dss_one (ds_ret (ps_ret (dv_var (pv 2)))))))
    dss_nil)
  (dss_cons (ds_setI (ps_asg (dv_op (pe_op op_mod (dv_op (pe_op op_mul (dv_opO (pe_ix ix_list (pv 0) dv_int (fun _ _ => rfl)) d_ixO) dv_int) d_mul) dv_int) d_mod) (pg_sub (pv 0) dv_int set_list)))
  (dss_one (ds_ret (ps_ret (dv_op (pe_op op_mod (dv_op (pe_op op_fdiv (dv_op (pe_op op_mod (dv_op (pe_op op_mul (dv_opO (pe_ix ix_list (pv 0) dv_int (fun _ _ => rfl)) d_ixO) (dv_opO (pe_ix ix_list (pv 0) dv_int (fun _ _ => rfl)) d_ixO)) d_mul) dv_int) d_mod) dv_int) d_div) (dv_var (pv 1))) d_mod)))))), body_ok h (by decide) (fun ρ r hρ hg => ?_)⟩
  exact hg
abbrev s__law_of : Stmt := topS 23
abbrev N__law_of : List Str := ["bag", "some"]
theorem sc__law_of : FnScope N__law_of ["bag", "some"] (defScope s__law_of) := ⟨rfl, rfl, rfl, by decide +kernel, rfl, by decide +kernel, by decide +kernel⟩
theorem ok__law_of {f : Addr} {fd : FuncData} (F : Fun K "_law_of" "_law_of" s__law_of f fd) (c__law_take : CalF P w K mg base 1 "_law_take" ["bag", "many"] (spF (noG K) 2 g__law_take)) (m_len : mg "len" = none) : FnOk P w K mg base CX0 2 f fd ["bag", "some"] (spF (noG K) 2 g__law_of) := by
  refine F.ok sc__law_of (spF_len (noG K) rfl) (fun cdv A outer s H vs Q E hr h => ?_)
  have hl : vs.length = 2 := h.1
  refine ⟨tS (noG K) vs _, (dss_one (ds_ret (ps_ret (dv_op (pe_ix ix_list (dv_var (pv 1)) (dv_callF (pe_cal c__law_take (hr.mono (by decide)) rfl (dr_own (pv 0) (dr_val (dv_call (pe_callB call_len (by rfl) m_len PySem.boot_len (da_cons (dv_var (pv 1)) da_nil)) d_len) dr_nil))) (al_own (al_val al_nil))) (fun _ _ => rfl)) d_ixL)))), body_ok h (by decide) (fun ρ r hρ hg => ?_)⟩
  exact hg
abbrev s__law_within : Stmt := topS 24
abbrev N__law_within : List Str := ["thing", "least", "most"]
theorem sc__law_within : FnScope N__law_within ["thing", "least", "most"] (defScope s__law_within) := ⟨rfl, rfl, rfl, by decide +kernel, rfl, by decide +kernel, by decide +kernel⟩
theorem ok__law_within {f : Addr} {fd : FuncData} (F : Fun K "_law_within" "_law_within" s__law_within f fd)  (m_bool : mg "bool" = none) (m_int : mg "int" = none) (m_isinstance : mg "isinstance" = none) : FnOk P w K mg base CX0 1 f fd ["thing", "least", "most"] (spF (noG K) 3 g__law_within) := by
  refine F.ok sc__law_within (spF_len (noG K) rfl) (fun cdv A outer s H vs Q E hr h => ?_)
  have hl : vs.length = 3 := h.1
  refine ⟨tS (noG K) vs _, (dss_one (ds_ret (ps_ret (dv_and (dv_isi (t := "int") (pe_callB call_isi (by rfl) m_isinstance PyProof.Rows.boot_isinstance (pa_cons (dv_var (pv 0)) (pa_cons (pe_bltn (v := .ty "int") (u := .type "int") (by rfl) m_int (by decide +kernel) rfl) pa_nil)))) (dv_and (dv_not (dv_isi (t := "bool") (pe_callB call_isi (by rfl) m_isinstance PyProof.Rows.boot_isinstance (pa_cons (dv_var (pv 0)) (pa_cons (pe_bltn (v := .ty "bool") (u := .type "bool") (by rfl) m_bool (by decide +kernel) rfl) pa_nil))))) (dv_one (dv_chain (pe_chain op_le op_le (dv_var (pv 1)) (dv_var (pv 0)) (dv_var (pv 2))) d_le d_le))))))), body_ok h (by decide) (fun ρ r hρ hg => ?_)⟩
  exact hg
abbrev s__law_odd : Stmt := topS 26
abbrev N__law_odd : List Str := ["bag", "some"]
theorem sc__law_odd : FnScope N__law_odd ["bag"] (defScope s__law_odd) := ⟨rfl, rfl, rfl, by decide +kernel, rfl, by decide +kernel, by decide +kernel⟩
theorem ok__law_odd {f : Addr} {fd : FuncData} (F : Fun K "_law_odd" "_law_odd" s__law_odd f fd) (c__law_take : CalF P w K mg base 1 "_law_take" ["bag", "many"] (spF (noG K) 2 g__law_take)) (m_len : mg "len" = none) : FnOk P w K mg base CX0 2 f fd ["bag"] (spF (noG K) 1 g__law_odd) := by
  refine F.ok sc__law_odd (spF_len (noG K) rfl) (fun cdv A outer s H vs Q E hr h => ?_)
  have hl : vs.length = 1 := h.1
  refine ⟨tS (noG K) vs _, (dss_cons (ds_set (ps_set (i := 1) sc__law_odd.nd rfl (.inl rfl) (dv_lst (pe_lst (da_cons dv_non (da_cons dv_bl (da_cons dv_bl (da_cons dv_int (da_cons dv_int (da_cons (dv_un (pe_un un_neg dv_int) d_neg) (da_cons dv_int (da_cons (dv_op (pe_op op_pow dv_int dv_int) d_pow) (da_cons dv_str (da_cons dv_str (da_cons dv_str (da_cons dv_str (da_cons dv_str (da_cons (dv_tup (pe_tup da_nil)) (da_cons (dv_lst (pe_lst da_nil)) (da_cons (dv_tup (pe_tup (da_cons dv_int (da_cons dv_int da_nil)))) (da_cons dv_str (da_cons (dv_tup (pe_tup (da_cons dv_non da_nil))) da_nil))))))))))))))))))))))
  (dss_cons (ds_set (ps_set (i := 1) sc__law_odd.nd rfl (.inl rfl) (dv_op (pe_op op_catS (dv_var (pv 1)) (dv_lst (pe_lst (da_cons (dv_tup (pe_tup (da_cons dv_str (da_cons dv_str (da_cons dv_int (da_cons dv_int (da_cons dv_int (da_cons dv_bl da_nil)))))))) (da_cons (dv_lst (pe_lst (da_cons (dv_tup (pe_tup (da_cons dv_str (da_cons dv_str (da_cons dv_int (da_cons dv_int (da_cons dv_int (da_cons dv_bl da_nil)))))))) da_nil))) (da_cons (dv_tup (pe_tup (da_cons (dv_tup (pe_tup (da_cons dv_str (da_cons dv_str (da_cons dv_int (da_cons dv_int (da_cons dv_int (da_cons dv_bl da_nil)))))))) da_nil))) da_nil)))))) d_cat)))
  (dss_cons (ds_set (ps_set (i := 1) sc__law_odd.nd rfl (.inl rfl) (dv_op (pe_op op_catS (dv_var (pv 1)) (dv_lst (pe_lst (da_cons (dv_tup (pe_tup (da_cons (dv_tup (pe_tup (da_cons dv_str (da_cons dv_str (da_cons dv_int (da_cons dv_int (da_cons dv_int (da_cons dv_bl da_nil)))))))) da_nil))) (da_cons (dv_tup (pe_tup (da_cons (dv_tup (pe_tup (da_cons dv_str (da_cons dv_str (da_cons dv_int (da_cons dv_int (da_cons dv_int (da_cons dv_int da_nil)))))))) da_nil))) (da_cons (dv_tup (pe_tup (da_cons (dv_tup (pe_tup (da_cons dv_int (da_cons dv_str (da_cons dv_int da_nil))))) da_nil))) (da_cons (dv_lst (pe_lst (da_cons (dv_tup (pe_tup (da_cons dv_int (da_cons dv_str (da_cons dv_int da_nil))))) da_nil))) da_nil))))))) d_cat)))
  (dss_one (ds_ret (ps_ret (dv_op (pe_ix ix_list (dv_var (pv 1)) (dv_callF (pe_cal c__law_take (hr.mono (by decide)) rfl (dr_own (pv 0) (dr_val (dv_call (pe_callB call_len (by rfl) m_len PySem.boot_len (da_cons (dv_var (pv 1)) da_nil)) d_len) dr_nil))) (al_own (al_val al_nil))) (fun _ _ => rfl)) d_ixL))))))), body_ok h (by decide) (fun ρ r hρ hg => ?_)⟩
  exact hg
abbrev s__law_spoilt : Stmt := topS 25
abbrev N__law_spoilt : List Str := ["bag", "thing", "way", "rows", "at", "other"]
theorem sc__law_spoilt : FnScope N__law_spoilt ["bag", "thing"] (defScope s__law_spoilt) := ⟨rfl, rfl, rfl, by decide +kernel, rfl, by decide +kernel, by decide +kernel⟩
theorem ok__law_spoilt {n : Nat} {f : Addr} {fd : FuncData} (F : Fun K "_law_spoilt" "_law_spoilt" s__law_spoilt f fd) (c__law_odd : CalF P w K mg base 2 "_law_odd" ["bag"] (spF (noG K) 1 g__law_odd)) (c__law_spoilt : CalF P w K mg base (n + 2) "_law_spoilt" ["bag", "thing"] (spF (noG K) 2 (g__law_spoilt n))) (c__law_take : CalF P w K mg base 1 "_law_take" ["bag", "many"] (spF (noG K) 2 g__law_take)) (m_int : mg "int" = none) (m_isinstance : mg "isinstance" = none) (m_len : mg "len" = none) (m_list : mg "list" = none) (m_str : mg "str" = none) (m_tuple : mg "tuple" = none) : FnOk P w K mg base CX0 (n + 3) f fd ["bag", "thing"] (spF (noG K) 2 (g__law_spoilt (n + 1))) := by
  refine F.ok sc__law_spoilt (spF_len (noG K) rfl) (fun cdv A outer s H vs Q E hr h => ?_)
  have hl : vs.length = 2 := h.1
  refine ⟨tS (noG K) vs _, (dss_cons (ds_set (ps_set (i := 2) sc__law_spoilt.nd rfl (.inl rfl) (dv_callF (pe_cal c__law_take (hr.mono (by omega)) rfl (dr_own (pv 0) (dr_val dv_int dr_nil))) (al_own (al_val al_nil)))))
  (dss_cons (ds_if (PW.pt (dw_and (dt_B (pt_val (dv_isi2 (t := "tuple") (u := "list") (pe_callB call_isiT (by rfl) m_isinstance PyProof.Rows.boot_isinstance (pa_cons (dv_var (pv 1)) (pa_cons (pe_tup (pa_cons (pe_bltn (v := .ty "tuple") (u := .type "tuple") (by rfl) m_tuple (by decide +kernel) rfl) (pa_cons (pe_bltn (v := .ty "list") (u := .type "list") (by rfl) m_list (by decide +kernel) rfl) pa_nil))) pa_nil)))))) (dw_and (dt_op (pt_cmpR op_gt (dv_call (pe_callB call_len (by rfl) m_len PySem.boot_len (da_cons (dv_var (pv 1)) da_nil)) d_len) dv_int (nomark _)) d_gt) (dw_and1 (dt_op (pt_cmpR op_gt (dv_var (pv 2)) dv_int (nomark _)) d_gt)))))
    (dss_cons (ds_setO (ps_set (i := 3) sc__law_spoilt.nd rfl (.inl rfl) (do_call (pe_callTy call_list_of (by rfl) m_list (by decide +kernel) (da_cons (dv_var (pv 1)) da_nil)) do_list)) hl)
  (dss_cons (ds_set (ps_set (i := 4) sc__law_spoilt.nd rfl (.inl rfl) (dv_callF (pe_cal c__law_take (hr.mono (by omega)) rfl (dr_own (pv 0) (dr_val (dv_callO (pe_callB call_len (by rfl) m_len PySem.boot_len (pa_cons (pv 3) pa_nil)) d_lenO) dr_nil))) (al_own (al_val al_nil)))))
  (dss_cons (ds_if (dt_op (pt_cmpR (op_eqD hr.units) (dv_var (pv 2)) dv_int (nomark _)) d_eqD)
    (dss_one (ds_setO (ps_set (i := 3) sc__law_spoilt.nd rfl (.inl rfl) (do_op (pe_op op_catS (dv_slO (pe_slice sl_list (pv 3) dpo_none (dpo_some (dv_var (pv 4))))) (dv_slO (pe_slice sl_list (pv 3) (dpo_some (dv_op (pe_op op_add (dv_var (pv 4)) dv_int) d_add)) dpo_none))) do_cat)) hl))
    (dss_one (ds_if (dt_op (pt_cmpR (op_eqD hr.units) (dv_var (pv 2)) dv_int (nomark _)) d_eqD)
    (dss_one (ds_setO (ps_set (i := 3) sc__law_spoilt.nd rfl (.inl rfl) (do_op (pe_op op_catS (dv_slO (pe_slice sl_list (pv 3) dpo_none (dpo_some (dv_op (pe_op op_add (dv_var (pv 4)) dv_int) d_add)))) (dv_slO (pe_slice sl_list (pv 3) (dpo_some (dv_var (pv 4))) dpo_none))) do_cat)) hl))
    (dss_one (ds_if (dt_op (pt_cmpR (op_eqD hr.units) (dv_var (pv 2)) dv_int (nomark _)) d_eqD)
    (dss_cons (ds_set (ps_set (i := 5) sc__law_spoilt.nd rfl (.inl rfl) (dv_callF (pe_cal c__law_take (hr.mono (by omega)) rfl (dr_own (pv 0) (dr_val (dv_callO (pe_callB call_len (by rfl) m_len PySem.boot_len (pa_cons (pv 3) pa_nil)) d_lenO) dr_nil))) (al_own (al_val al_nil)))))
  (dss_one (ds_swap (ps_asg (dv_tup (pe_tup (da_cons (dv_opO (pe_ix ix_list (pv 3) (dv_var (pv 5)) (fun _ _ => rfl)) d_ixO) (da_cons (dv_opO (pe_ix ix_list (pv 3) (dv_var (pv 4)) (fun _ _ => rfl)) d_ixO) da_nil)))) (pg_tup (by rfl) (pgs_cons (pg_sub (pv 3) (dv_var (pv 4)) set_list) (pgs_cons (pg_sub (pv 3) (dv_var (pv 5)) set_list) pgs_nil)))))))
    (dss_one (ds_if (dt_op (pt_cmpR (op_eqD hr.units) (dv_var (pv 2)) dv_int (nomark _)) d_eqD)
    (dss_one (ds_ret (ps_ret (dv_if (dt_B (pt_val (dv_isi (t := "tuple") (pe_callB call_isi (by rfl) m_isinstance PyProof.Rows.boot_isinstance (pa_cons (dv_var (pv 1)) (pa_cons (pe_bltn (v := .ty "tuple") (u := .type "tuple") (by rfl) m_tuple (by decide +kernel) rfl) pa_nil)))))) (dv_var (pv 3)) (dv_callO (pe_callTy call_tuple_of (by rfl) m_tuple (by decide +kernel) (pa_cons (pv 3) pa_nil)) d_tupO)))))
    (dss_one (ds_setI (ps_asg (dv_callF (pe_cal c__law_spoilt (hr.mono (by omega)) rfl (dr_own (pv 0) (dr_val (dv_opO (pe_ix ix_list (pv 3) (dv_var (pv 4)) (fun _ _ => rfl)) d_ixO) dr_nil))) (al_own (al_val al_nil))) (pg_sub (pv 3) (dv_var (pv 4)) set_list)))))))))))
  (dss_one (ds_ret (ps_ret (dv_if (dt_B (pt_val (dv_isi (t := "tuple") (pe_callB call_isi (by rfl) m_isinstance PyProof.Rows.boot_isinstance (pa_cons (dv_var (pv 1)) (pa_cons (pe_bltn (v := .ty "tuple") (u := .type "tuple") (by rfl) m_tuple (by decide +kernel) rfl) pa_nil)))))) (dv_callO (pe_callTy call_tuple_of (by rfl) m_tuple (by decide +kernel) (pa_cons (pv 3) pa_nil)) d_tupO) (dv_var (pv 3)))))))))
    dss_nil)
  (dss_cons (ds_if (PW.pt (dw_and (dt_B (pt_val (dv_isi (t := "str") (pe_callB call_isi (by rfl) m_isinstance PyProof.Rows.boot_isinstance (pa_cons (dv_var (pv 1)) (pa_cons (pe_bltn (v := .ty "str") (u := .type "str") (by rfl) m_str (by decide +kernel) rfl) pa_nil)))))) (dw_and1 (dt_op (pt_cmpR op_gt (dv_var (pv 2)) dv_int (nomark _)) d_gt))))
    (dss_one (ds_ret (ps_ret (dv_op (pe_ix ix_list (dv_lst (pe_lst (da_cons (dv_op (pe_op op_add_str (dv_var (pv 1)) dv_str) d_addS) (da_cons (dv_slice (pe_slice sl_str (dv_var (pv 1)) dpo_none (dpo_some (dv_un (pe_un un_neg dv_int) d_neg))) d_slS) (da_cons (dv_op (pe_op op_add_str (dv_var (pv 1)) dv_str) d_addS) (da_cons (dv_str0 (pe_bm0 PySem.F.plainAttrs_str PySem.F.slot_str_upper PySem.F.type_str_upper mt_upper (dv_var (pv 1))) d_upper) (da_cons (dv_op (pe_op op_add_str (dv_var (pv 1)) (dv_var (pv 1))) d_addS) (da_cons (dv_op (pe_op op_add_str dv_str (dv_var (pv 1))) d_addS) (da_cons dv_str da_nil))))))))) (dv_op (pe_op op_sub (dv_var (pv 2)) dv_int) d_sub) (fun _ _ => rfl)) d_ixL))))
    dss_nil)
  (dss_cons (ds_if (PW.pt (dw_and (dt_B (pt_val (dv_isi (t := "int") (pe_callB call_isi (by rfl) m_isinstance PyProof.Rows.boot_isinstance (pa_cons (dv_var (pv 1)) (pa_cons (pe_bltn (v := .ty "int") (u := .type "int") (by rfl) m_int (by decide +kernel) rfl) pa_nil)))))) (dw_and1 (dt_op (pt_cmpR op_gt (dv_var (pv 2)) dv_int (nomark _)) d_gt))))
    (dss_one (ds_ret (ps_ret (dv_op (pe_ix ix_list (dv_lst (pe_lst (da_cons (dv_op (pe_op op_addNI (dv_var (pv 1)) dv_int) (d_nu2 _)) (da_cons (dv_op (pe_op op_subNI (dv_var (pv 1)) dv_int) (d_nu2 _)) (da_cons (dv_un (pe_un DL.un_negN (dv_var (pv 1))) (d_nu1 _)) (da_cons (dv_op (pe_op op_addNI (dv_var (pv 1)) dv_int) (d_nu2 _)) (da_cons (dv_call (pe_callTy call_strN (by rfl) m_str (by decide +kernel) (da_cons (dv_var (pv 1)) da_nil)) d_strN) (da_cons (dv_op (pe_op op_addNI (dv_var (pv 1)) dv_int) (d_nu2 _)) (da_cons (dv_tup (pe_tup (da_cons (dv_var (pv 1)) da_nil))) da_nil))))))))) (dv_op (pe_op op_sub (dv_var (pv 2)) dv_int) d_sub) (fun _ _ => rfl)) d_ixL))))
    dss_nil)
  (dss_one (ds_ret (ps_ret (dv_callF (pe_cal c__law_odd (hr.mono (by omega)) rfl (dr_own (pv 0) dr_nil)) (al_own al_nil))))))))), body_ok h (by decide) (fun ρ r hρ hg => ?_)⟩
  exact hg
theorem ok0__law_spoilt {f : Addr} {fd : FuncData} (F : Fun K "_law_spoilt" "_law_spoilt" s__law_spoilt f fd) : FnOk P w K mg base CX0 2 f fd ["bag", "thing"] (spF (noG K) 2 (g__law_spoilt 0)) := by
  refine F.ok sc__law_spoilt (spF_len (noG K) rfl) (fun cdv A outer s H vs Q E hr h => ?_)
  obtain ⟨_, F, ω, ρ, re, r, ρ', e, _⟩ := h
  cases e
abbrev s__law_tree : Stmt := topS 27
abbrev N__law_tree : List Str := ["bag", "kind", "many", "names", "order", "name", "row", "found", "at", "above", "base", "start", "waits", "delay"]
theorem sc__law_tree : FnScope N__law_tree ["bag", "kind"] (defScope s__law_tree) := ⟨rfl, rfl, rfl, by decide +kernel, rfl, by decide +kernel, by decide +kernel⟩
theorem ok__law_tree {f : Addr} {fd : FuncData} (F : Fun K "_law_tree" "_law_tree" s__law_tree f fd) (c__law_of : CalF P w K mg base 2 "_law_of" ["bag", "some"] (spF (noG K) 2 g__law_of)) (c__law_take : CalF P w K mg base 1 "_law_take" ["bag", "many"] (spF (noG K) 2 g__law_take)) (m_len : mg "len" = none) (m_range : mg "range" = none) (m_sorted : mg "sorted" = none) (m_tuple : mg "tuple" = none) : FnOk P w K mg base CX0 3 f fd ["bag", "kind"] (spF (noG K) 2 g__law_tree) := by
  refine F.ok sc__law_tree (spF_len (noG K) rfl) (fun cdv A outer s H vs Q E hr h => ?_)
  have hl : vs.length = 2 := h.1
  refine ⟨tS (noG K) vs _, (dss_cons (ds_set (ps_set (i := 2) sc__law_tree.nd rfl (.inl rfl) (dv_op (pe_op op_add dv_int (dv_callF (pe_cal c__law_take (hr.mono (by decide)) rfl (dr_own (pv 0) (dr_val (dv_op (pe_ix ix_list (dv_lst (pe_lst (da_cons dv_int (da_cons dv_int (da_cons dv_int da_nil))))) (dv_callF (pe_cal c__law_take (hr.mono (by decide)) rfl (dr_own (pv 0) (dr_val dv_int dr_nil))) (al_own (al_val al_nil))) (fun _ _ => rfl)) d_ixL) dr_nil))) (al_own (al_val al_nil)))) d_add)))
  (dss_cons (ds_set (ps_set (i := 3) sc__law_tree.nd rfl (.inl rfl) (dv_slice (pe_slice sl_list (dv_lst (pe_lst (da_cons dv_str (da_cons dv_str (da_cons dv_str (da_cons dv_str (da_cons dv_str (da_cons dv_str (da_cons dv_str (da_cons dv_str da_nil)))))))))) dpo_none (dpo_some (dv_var (pv 2)))) d_slL)))
  (dss_cons (ds_setO (ps_set (i := 4) sc__law_tree.nd rfl (.inl rfl) (do_lst (pe_lst da_nil))) hl)
  (dss_cons (ds_for (ps_for PassesOwn.never rfl (di_list (pi_list (dv_var (pv 3)))) (pg_name (i := 5) sc__law_tree.nd rfl (.inl rfl))
    (dss_one (ds_expr (ps_expr (dv_mut (pe_bm PySem.F.plainAttrs_list PySem.F.slot_list_insert PySem.F.type_list_insert mt_insert (pv 4) (da_cons (dv_callF (pe_cal c__law_take (hr.mono (by decide)) rfl (dr_own (pv 0) (dr_val (dv_op (pe_op op_add (dv_callO (pe_callB call_len (by rfl) m_len PySem.boot_len (pa_cons (pv 4) pa_nil)) d_lenO) dv_int) d_add) dr_nil))) (al_own (al_val al_nil))) (da_cons (dv_var (pv 5)) da_nil))) d_insert))))) (dg_name 5))
  (dss_cons (ds_set (ps_set (i := 6) sc__law_tree.nd rfl (.inl rfl) (dv_op (pe_cmpR (op_eqD hr.units) (dv_callF (pe_cal c__law_take (hr.mono (by decide)) rfl (dr_own (pv 0) (dr_val dv_int dr_nil))) (al_own (al_val al_nil))) dv_int (nomark _)) d_eqD)))
  (dss_cons (ds_setO (ps_set (i := 7) sc__law_tree.nd rfl (.inl rfl) (do_lst (pe_lst da_nil))) hl)
  (dss_cons (ds_for (ps_for PassesOwn.never rfl (di_range1 (pi_range1 rfl m_range (da_cons (dv_var (pv 2)) da_nil))) (pg_name (i := 8) sc__law_tree.nd rfl (.inl rfl))
    (dss_cons (ds_set (ps_set (i := 9) sc__law_tree.nd rfl (.inl rfl) (dv_if (dt_op (pt_cmpR op_gt (dv_var (pv 8)) dv_int (nomark _)) d_gt) (dv_callF (pe_cal c__law_of (hr.mono (by decide)) rfl (dr_own (pv 0) (dr_val (dv_op (pe_op op_catS (dv_lst (pe_lst (da_cons dv_str da_nil))) (dv_slO (pe_slice sl_list (pv 4) dpo_none (dpo_some (dv_var (pv 8)))))) d_cat) dr_nil))) (al_own (al_val al_nil))) dv_str)))
  (dss_cons (ds_if (PW.pt (dw_and (dt_B (pt_val (dv_var (pv 6)))) (dw_and1 (dt_op (pt_cmpR op_gt (dv_var (pv 8)) dv_int (nomark _)) d_gt))))
    (dss_one (ds_set (ps_set (i := 9) sc__law_tree.nd rfl (.inl rfl) (dv_opO (pe_ix ix_list (pv 4) (dv_op (pe_op op_sub (dv_var (pv 8)) dv_int) d_sub) (fun _ _ => rfl)) d_ixO))))
    dss_nil)
  (dss_cons (ds_set (ps_set (i := 10) sc__law_tree.nd rfl (.inl rfl) (dv_op (pe_ix ix_list (dv_lst (pe_lst (da_cons dv_int (da_cons (dv_callF (pe_cal c__law_take (hr.mono (by decide)) rfl (dr_own (pv 0) (dr_val dv_int dr_nil))) (al_own (al_val al_nil))) (da_cons (dv_callF (pe_cal c__law_take (hr.mono (by decide)) rfl (dr_own (pv 0) (dr_val dv_int dr_nil))) (al_own (al_val al_nil))) (da_cons dv_int da_nil)))))) (dv_callF (pe_cal c__law_take (hr.mono (by decide)) rfl (dr_own (pv 0) (dr_val dv_int dr_nil))) (al_own (al_val al_nil))) (fun _ _ => rfl)) d_ixL)))
  (dss_cons (ds_set (ps_set (i := 11) sc__law_tree.nd rfl (.inl rfl) (dv_op (pe_ix ix_list (dv_lst (pe_lst (da_cons (dv_var (pv 10)) (da_cons (dv_var (pv 10)) (da_cons (dv_callF (pe_cal c__law_take (hr.mono (by decide)) rfl (dr_own (pv 0) (dr_val (dv_op (pe_op op_add (dv_var (pv 10)) dv_int) d_add) dr_nil))) (al_own (al_val al_nil))) (da_cons (dv_callF (pe_cal c__law_take (hr.mono (by decide)) rfl (dr_own (pv 0) (dr_val dv_int dr_nil))) (al_own (al_val al_nil))) da_nil)))))) (dv_callF (pe_cal c__law_take (hr.mono (by decide)) rfl (dr_own (pv 0) (dr_val (dv_op (pe_ix ix_list (dv_lst (pe_lst (da_cons dv_int (da_cons dv_int (da_cons dv_int da_nil))))) (dv_var (pv 1)) (fun _ _ => rfl)) d_ixL) dr_nil))) (al_own (al_val al_nil))) (fun _ _ => rfl)) d_ixL)))
  (dss_cons (ds_set (ps_set (i := 12) sc__law_tree.nd rfl (.inl rfl) (dv_or (dv_op (pe_cmpR op_gt (dv_var (pv 1)) dv_int (nomark _)) d_gt) (dv_one (dv_op (pe_cmpR op_gt (dv_callF (pe_cal c__law_take (hr.mono (by decide)) rfl (dr_own (pv 0) (dr_val dv_int dr_nil))) (al_own (al_val al_nil))) dv_int (nomark _)) d_gt)))))
  (dss_cons (ds_set (ps_set (i := 13) sc__law_tree.nd rfl (.inl rfl) (dv_op (pe_op op_add dv_int (dv_callF (pe_cal c__law_take (hr.mono (by decide)) rfl (dr_own (pv 0) (dr_val (dv_op (pe_ix ix_list (dv_lst (pe_lst (da_cons dv_int (da_cons dv_int (da_cons dv_int da_nil))))) (dv_callF (pe_cal c__law_take (hr.mono (by decide)) rfl (dr_own (pv 0) (dr_val dv_int dr_nil))) (al_own (al_val al_nil))) (fun _ _ => rfl)) d_ixL) dr_nil))) (al_own (al_val al_nil)))) d_add)))
  (dss_one (ds_expr (ps_expr (dv_mut (pe_bm PySem.F.plainAttrs_list PySem.F.slot_list_append PySem.F.type_list_append mt_append (pv 7) (da_cons (dv_tup (pe_tup (da_cons (dv_opO (pe_ix ix_list (pv 4) (dv_var (pv 8)) (fun _ _ => rfl)) d_ixO) (da_cons (dv_var (pv 9)) (da_cons (dv_var (pv 13)) (da_cons (dv_var (pv 10)) (da_cons (dv_var (pv 11)) (da_cons (dv_var (pv 12)) da_nil)))))))) da_nil)) d_append))))))))))) (dg_name 8))
  (dss_one (ds_ret (ps_ret (dv_call (pe_callTy call_tuple_of (by rfl) m_tuple (by decide +kernel) (da_cons (dv_callO (pe_callB (cr_sortedQ hr.units) (by rfl) m_sorted PyProof.Rows.boot_sorted (pa_cons (pv 7) pa_nil)) do_sortO.call) da_nil)) d_tuple))))))))))), body_ok h (by decide) (fun ρ r hρ hg => ?_)⟩
  exact hg
abbrev s__law_costs : Stmt := topS 28
abbrev N__law_costs : List Str := ["bag", "tree", "store"]
theorem sc__law_costs : FnScope N__law_costs ["bag", "tree"] (defScope s__law_costs) := ⟨rfl, rfl, rfl, by decide +kernel, rfl, by decide +kernel, by decide +kernel⟩
theorem ok__law_costs {f : Addr} {fd : FuncData} (F : Fun K "_law_costs" "_law_costs" s__law_costs f fd) (c__law_take : CalF P w K mg base 1 "_law_take" ["bag", "many"] (spF (noG K) 2 g__law_take)) (m_tuple : mg "tuple" = none) : FnOk P w K mg base CX0 2 f fd ["bag", "tree"] (spF (noG K) 2 g__law_costs) := by
  refine F.ok sc__law_costs (spF_len (noG K) rfl) (fun cdv A outer s H vs Q E hr h => ?_)
  have hl : vs.length = 2 := h.1
  refine ⟨tS (noG K) vs _, (dss_one (ds_ret (ps_ret (dv_call (pe_callTy call_tuple_of (by rfl) m_tuple (by decide +kernel) (da_cons (dv_lc (pe_lc (own := [("store", 2)]) (g := gName 2) rfl sc__law_costs.nd (di_tup (pi_tup (dv_var (pv 1)))) (blkOk_by (own := [("store", 2)]) (N := N__law_costs) (sc := defScope s__law_costs) (by decide +kernel)) (fun _ _ _ _ _ => (pg_name (i := 2) sc__law_costs.nd rfl (.inl rfl))) (fun _ _ _ _ _ => dts_nil) (fun _ _ _ _ _ => (dv_tup (pe_tup (da_cons (dv_op (pe_ix ix_tup (dv_var (pv 2)) dv_int (fun _ _ => rfl)) d_ixT) (da_cons (dv_callF (pe_cal c__law_take (hr.mono (by decide)) rfl (dr_own (pv 0) (dr_val dv_int dr_nil))) (al_own (al_val al_nil))) (da_cons (dv_callF (pe_cal c__law_take (hr.mono (by decide)) rfl (dr_own (pv 0) (dr_val dv_int dr_nil))) (al_own (al_val al_nil))) (da_cons (dv_callF (pe_cal c__law_take (hr.mono (by decide)) rfl (dr_own (pv 0) (dr_val dv_int dr_nil))) (al_own (al_val al_nil))) da_nil)))))))) (dg_name 2) (by decide)) da_nil)) d_tuple)))), body_ok h (by decide) (fun ρ r hρ hg => ?_)⟩
  exact hg
abbrev s__law_is_costs : Stmt := topS 29
abbrev N__law_is_costs : List Str := ["tree", "thing", "store", "row", "part"]
theorem sc__law_is_costs : FnScope N__law_is_costs ["tree", "thing"] (defScope s__law_is_costs) := ⟨rfl, rfl, rfl, by decide +kernel, rfl, by decide +kernel, by decide +kernel⟩
theorem ok__law_is_costs {f : Addr} {fd : FuncData} (F : Fun K "_law_is_costs" "_law_is_costs" s__law_is_costs f fd) (c__law_within : CalF P w K mg base 1 "_law_within" ["thing", "least", "most"] (spF (noG K) 3 g__law_within)) (m_isinstance : mg "isinstance" = none) (m_len : mg "len" = none) (m_tuple : mg "tuple" = none) (m_zip : mg "zip" = none) : FnOk P w K mg base CX0 2 f fd ["tree", "thing"] (spF (noG K) 2 g__law_is_costs) := by
  refine F.ok sc__law_is_costs (spF_len (noG K) rfl) (fun cdv A outer s H vs Q E hr h => ?_)
  have hl : vs.length = 2 := h.1
  refine ⟨tS (noG K) vs _, (dss_cons (ds_if (PW.pt (dw_or (dt_not (dt_B (pt_val (dv_isi (t := "tuple") (pe_callB call_isi (by rfl) m_isinstance PyProof.Rows.boot_isinstance (pa_cons (dv_var (pv 1)) (pa_cons (pe_bltn (v := .ty "tuple") (u := .type "tuple") (by rfl) m_tuple (by decide +kernel) rfl) pa_nil))))))) (dw_or1 (dt_op (pt_cmpR (op_neD hr.units) (dv_call (pe_callB call_len (by rfl) m_len PySem.boot_len (da_cons (dv_var (pv 1)) da_nil)) d_len) (dv_call (pe_callB call_len (by rfl) m_len PySem.boot_len (da_cons (dv_var (pv 0)) da_nil)) d_len) (nomark _)) d_neD))))
    (dss_one (ds_ret (ps_ret dv_bl)))
    dss_nil)
  (dss_cons (ds_for (ps_for PassesOwn.never rfl (di_zip (RZ.pi_zipA (by rfl) m_zip (da_cons (dv_var (pv 0)) (da_cons (dv_var (pv 1)) da_nil)))) (pg_tup (n := 2) (by rfl) (pgs_cons (pg_name (i := 2) sc__law_is_costs.nd rfl (.inl rfl)) (pgs_cons (pg_name (i := 3) sc__law_is_costs.nd rfl (.inl rfl)) pgs_nil)))
    (dss_cons (ds_if (PW.pt (dw_or (dt_not (dt_B (pt_val (dv_isi (t := "tuple") (pe_callB call_isi (by rfl) m_isinstance PyProof.Rows.boot_isinstance (pa_cons (dv_var (pv 3)) (pa_cons (pe_bltn (v := .ty "tuple") (u := .type "tuple") (by rfl) m_tuple (by decide +kernel) rfl) pa_nil))))))) (dw_or (dt_op (pt_cmpR (op_neD hr.units) (dv_call (pe_callB call_len (by rfl) m_len PySem.boot_len (da_cons (dv_var (pv 3)) da_nil)) d_len) dv_int (nomark _)) d_neD) (dw_or1 (dt_op (pt_cmpR (op_neD hr.units) (dv_op (pe_ix ix_tup (dv_var (pv 3)) dv_int (fun _ _ => rfl)) d_ixT) (dv_op (pe_ix ix_tup (dv_var (pv 2)) dv_int (fun _ _ => rfl)) d_ixT) (nomark _)) d_neD)))))
    (dss_one (ds_ret (ps_ret dv_bl)))
    dss_nil)
  (dss_one (ds_if (dt_op (pt_cmpR (op_neD hr.units) (dv_lc (pe_lc (own := [("part", 4)]) (g := gName 4) rfl sc__law_is_costs.nd (di_tup (pi_tup (dv_slice (pe_slice sl_tupA (dv_var (pv 3)) (dpo_some dv_int) dpo_none) d_slT))) (blkOk_by (own := [("part", 4)]) (N := N__law_is_costs) (sc := defScope s__law_is_costs) (by decide +kernel)) (fun _ _ _ _ _ => (pg_name (i := 4) sc__law_is_costs.nd rfl (.inl rfl))) (fun _ _ _ _ _ => (dts_one (dt_not (dt_B (pt_val (dv_callF (pe_cal c__law_within (hr.mono (by decide)) rfl (dr_val (dv_var (pv 4)) (dr_val dv_int (dr_val dv_int dr_nil)))) (al_val (al_val (al_val al_nil))))))))) (fun _ _ _ _ _ => (dv_var (pv 4)))) (dg_name 4) (by decide)) (dv_lst (pe_lst da_nil)) (nomark _)) d_neD)
    (dss_one (ds_ret (ps_ret dv_bl)))
    dss_nil)))) (dg_tup (dgs_cons (dg_name 2) (dgs_cons (dg_name 3) dgs_nil))))
  (dss_one (ds_ret (ps_ret dv_bl))))), body_ok h (by decide) (fun ρ r hρ hg => ?_)⟩
  exact hg
abbrev s_law : Stmt := topS 30
abbrev N_law : List Str := ["script", "k", "bag", "tree", "thing", "other", "wide", "one", "turn", "found", "row"]
theorem sc_law : FnScope N_law ["script"] (defScope s_law) := ⟨rfl, rfl, rfl, by decide +kernel, rfl, by decide +kernel, by decide +kernel⟩
theorem ok_law {f : Addr} {fd : FuncData} (F : Fun K "law" "law" s_law f fd) (c__law_bag : CalF P w K mg base 1 "_law_bag" ["script", "k"] (spF (noG K) 2 g__law_bag)) (c__law_costs : CalF P w K mg base 2 "_law_costs" ["bag", "tree"] (spF (noG K) 2 g__law_costs)) (c__law_is_costs : CalF P w K mg base 2 "_law_is_costs" ["tree", "thing"] (spF (noG K) 2 g__law_is_costs)) (c__law_odd : CalF P w K mg base 2 "_law_odd" ["bag"] (spF (noG K) 1 g__law_odd)) (c__law_spoilt : CalF P w K mg base 32 "_law_spoilt" ["bag", "thing"] (spF (noG K) 2 (g__law_spoilt 30))) (c__law_take : CalF P w K mg base 1 "_law_take" ["bag", "many"] (spF (noG K) 2 g__law_take)) (c__law_tree : CalF P w K mg base 3 "_law_tree" ["bag", "kind"] (spF (noG K) 2 g__law_tree)) (c_is_costs : CalF P w K mg base 6 "is_costs" ["tree", "thing"] (spF (noG K) 2 g_is_costs)) (m_bool : mg "bool" = none) (m_isinstance : mg "isinstance" = none) (m_len : mg "len" = none) (m_min : mg "min" = none) (m_range : mg "range" = none) (m_tuple : mg "tuple" = none) : FnOk P w K mg base CX0 33 f fd ["script"] (spF (noG K) 1 g_law) := by
  refine F.ok sc_law (spF_len (noG K) rfl) (fun cdv A outer s H vs Q E hr h => ?_)
  have hl : vs.length = 1 := h.1
  refine ⟨tS (noG K) vs _, (dss_cons (ds_for (ps_for PassesOwn.never rfl (di_range1 (pi_range1 rfl m_range (da_cons (dv_op (pe_op op_add dv_int (dv_call (pe_callB (call_min2 rfl) (by rfl) m_min PyProof.Rows.boot_min (da_cons (dv_call (pe_callB call_len (by rfl) m_len PySem.boot_len (da_cons (dv_var (pv 0)) da_nil)) d_len) (da_cons dv_int da_nil))) d_min2)) d_add) da_nil))) (pg_name (i := 1) sc_law.nd rfl (.inl rfl))
    (dss_cons (ds_setO (ps_set (i := 2) sc_law.nd rfl (.inr rfl) (do_callF (pe_cal c__law_bag (hr.mono (by decide)) rfl (dr_val (dv_var (pv 0)) (dr_val (dv_var (pv 1)) dr_nil))) (al_val (al_val al_nil)))) hl)
  (dss_cons (ds_set (ps_set (i := 3) sc_law.nd rfl (.inl rfl) (dv_callF (pe_cal c__law_tree (hr.mono (by decide)) rfl (dr_own (pv 2) (dr_val dv_int dr_nil))) (al_own (al_val al_nil)))))
  (dss_cons (ds_set (ps_set (i := 4) sc_law.nd rfl (.inl rfl) (dv_callF (pe_cal c__law_costs (hr.mono (by decide)) rfl (dr_own (pv 2) (dr_val (dv_var (pv 3)) dr_nil))) (al_own (al_val al_nil)))))
  (dss_cons (ds_set (ps_set (i := 5) sc_law.nd rfl (.inl rfl) (dv_callF (pe_cal c__law_costs (hr.mono (by decide)) rfl (dr_own (pv 2) (dr_val (dv_callF (pe_cal c__law_tree (hr.mono (by decide)) rfl (dr_own (pv 2) (dr_val dv_int dr_nil))) (al_own (al_val al_nil))) dr_nil))) (al_own (al_val al_nil)))))
  (dss_cons (ds_set (ps_set (i := 6) sc_law.nd rfl (.inl rfl) (dv_call (pe_callTy call_tuple_of (by rfl) m_tuple (by decide +kernel) (da_cons (dv_lc (pe_lc (own := [("row", 10)]) (g := gName 10) rfl sc_law.nd (di_tup (pi_tup (dv_var (pv 4)))) (blkOk_by (own := [("row", 10)]) (N := N_law) (sc := defScope s_law) (by decide +kernel)) (fun _ _ _ _ _ => (pg_name (i := 10) sc_law.nd rfl (.inl rfl))) (fun _ _ _ _ _ => dts_nil) (fun _ _ _ _ _ => (dv_op (pe_op op_catA (dv_slice (pe_slice sl_tupA (dv_var (pv 10)) dpo_none (dpo_some dv_int)) d_slT) (dv_tup (pe_tup (da_cons dv_int (da_cons dv_int (da_cons (dv_op (pe_ix ix_list (dv_lst (pe_lst (da_cons dv_int (da_cons dv_int da_nil)))) (dv_callF (pe_cal c__law_take (hr.mono (by decide)) rfl (dr_own (pv 2) (dr_val dv_int dr_nil))) (al_own (al_val al_nil))) (fun _ _ => rfl)) d_ixL) da_nil)))))) d_catT))) (dg_name 10) (by decide)) da_nil)) d_tuple)))
  (dss_cons (ds_for (ps_for PassesOwn.never rfl (di_list (pi_list (dv_lst (pe_lst (da_cons (dv_var (pv 5)) (da_cons (dv_var (pv 6)) (da_cons (dv_op (pe_op op_catA (dv_var (pv 4)) (dv_tup (pe_tup (da_cons (dv_tup (pe_tup (da_cons dv_str (da_cons dv_int (da_cons dv_int (da_cons dv_int da_nil)))))) da_nil)))) d_catT) (da_cons (dv_slice (pe_slice sl_tupA (dv_var (pv 4)) (dpo_some dv_int) dpo_none) d_slT) (da_cons (dv_callF (pe_cal c__law_odd (hr.mono (by decide)) rfl (dr_own (pv 2) dr_nil)) (al_own al_nil)) (da_cons (dv_tup (pe_tup da_nil)) da_nil)))))))))) (pg_name (i := 7) sc_law.nd rfl (.inl rfl))
    (dss_one (ds_if (dt_op (pt_cmpR (op_neD hr.units) (dv_callF (pe_cal c_is_costs (hr.mono (by decide)) rfl (dr_val (dv_var (pv 3)) (dr_val (dv_var (pv 7)) dr_nil))) (al_val (al_val al_nil))) (dv_callF (pe_cal c__law_is_costs (hr.mono (by decide)) rfl (dr_val (dv_var (pv 3)) (dr_val (dv_var (pv 7)) dr_nil))) (al_val (al_val al_nil))) (nomark _)) d_neD)
    (dss_one (ds_ret (ps_ret dv_bl)))
    dss_nil))) (dg_name 7))
  (dss_one (ds_for (ps_for PassesOwn.never rfl (di_range1 (pi_range1 rfl m_range (da_cons dv_int da_nil))) (pg_name (i := 8) sc_law.nd rfl (.inl rfl))
    (dss_cons (ds_set (ps_set (i := 9) sc_law.nd rfl (.inl rfl) (dv_callF (pe_cal c_is_costs (hr.mono (by decide)) rfl (dr_val (dv_var (pv 3)) (dr_val (dv_var (pv 4)) dr_nil))) (al_val (al_val al_nil)))))
  (dss_cons (ds_if (PW.pt (dw_or (dt_not (dt_B (pt_val (dv_isi (t := "bool") (pe_callB call_isi (by rfl) m_isinstance PyProof.Rows.boot_isinstance (pa_cons (dv_var (pv 9)) (pa_cons (pe_bltn (v := .ty "bool") (u := .type "bool") (by rfl) m_bool (by decide +kernel) rfl) pa_nil))))))) (dw_or1 (dt_op (pt_cmpR (op_neD hr.units) (dv_var (pv 9)) (dv_callF (pe_cal c__law_is_costs (hr.mono (by decide)) rfl (dr_val (dv_var (pv 3)) (dr_val (dv_var (pv 4)) dr_nil))) (al_val (al_val al_nil))) (nomark _)) d_neD))))
    (dss_one (ds_ret (ps_ret dv_bl)))
    dss_nil)
  (dss_one (ds_set (ps_set (i := 4) sc_law.nd rfl (.inl rfl) (dv_callF (pe_cal c__law_spoilt (hr.mono (by decide)) rfl (dr_own (pv 2) (dr_val (dv_var (pv 4)) dr_nil))) (al_own (al_val al_nil))))))))) (dg_name 8)))))))))) (dg_name 1))
  (dss_one (ds_ret (ps_ret dv_bl)))), body_ok h (by decide) (fun ρ r hρ hg => ?_)⟩
  exact hg
end K15
set_option Elab.async false
set_option linter.all false
set_option maxRecDepth 100000
set_option maxHeartbeats 8000000
namespace K15
open PySem PySem.Spec PyProof.Rows L2 DL RG
theorem ok_goodS {k n : Nat} {d : D} (h : okB k d = true) (hk : k ≤ 8) (hd : d.depth ≤ n) : goodS n d := ⟨okB_good k hk d h, hd⟩
theorem okB_asc {s : PySem.Str} (h : asc s) (hl : s.length ≤ 64) : okB 0 (.str s) = true := okB_str.mpr ⟨by simpa using hl, h⟩
def rowD (p : RG.St × Int × Int × Int) : D := .tuple [.str p.1.name, .int p.2.1, .int p.2.2.1, .int p.2.2.2]
theorem row_ok {p : RG.St × Int × Int × Int} (hn : asc p.1.name ∧ p.1.name.length ≤ 8) (h : p.2.1.natAbs ≤ 1000 ∧ p.2.2.1.natAbs ≤ 1000 ∧ p.2.2.2.natAbs ≤ 1000) : okB 0 (rowD p) = true ∧ (rowD p).depth = 1 := by
  refine ⟨okB_tup.mpr ⟨by simp, ?_⟩, by simp [rowD, PyData.depth, PyData.depthAll]⟩
  intro d hd
  simp only [List.mem_cons, List.not_mem_nil, or_false] at hd
  rcases hd with rfl | rfl | rfl | rfl
  · exact okB_asc hn.1 (by omega)
  · exact okB_int.mpr (by omega)
  · exact okB_int.mpr (by omega)
  · exact okB_int.mpr (by omega)
theorem rows_ok {es : List D} (hl : es.length ≤ 100) (h : ∀ d ∈ es, okB 0 d = true ∧ d.depth ≤ 1) : okB 0 (.tuple es) = true ∧ PyData.depth (.tuple es) ≤ 2 := by
  refine ⟨okB_tup.mpr ⟨by omega, fun d hd => (h d hd).1⟩, ?_⟩
  rw [PyData.depth]
  have := depthAll_le (n := 1) fun d hd => (h d hd).2
  omega
theorem law_true (ns : List Int) (h : ns.length ≤ 63) : ∃ ρ', g_law [.val (.list (ns.map PyData.int))] = some (.val (.bool true), ρ') := by
  suffices hq : callQ g_law [.val (.list (ns.map PyData.int))] (fun d _ => d = .bool true) by
    obtain ⟨d, ρ', e, rfl⟩ := hq
    exact ⟨ρ', e⟩
  refine call_close ?_
  obtain ⟨kk, hkk, ekk⟩ : ∃ kk : Nat, kk ≤ 21 ∧ 1 + (if 20 < (ns.length : Int) then 20 else (ns.length : Int)) = (kk : Int) := ⟨1 + min ns.length 20, by omega, by split <;> omega⟩
  unfold m_law
  rw [wp_seq]
  simp [wp_set, wp_sret, wp_sretO, wp_expr, wp_for, wp_sif, wp_mif, wp_mand, wp_mor, wp_mnot, wp_mtest, wp_bnd, wp_ret, wp_some, wp_mcons, wp_nx, wp_bk, wp_ct, wp_asg, wp_mlc, wp_molc, wp_mcomp, wp_callV, wp_callO, wp_macons, wpr_maown, anQ_own, wpr_aug, auQ_val, wpr, rdQ_val, rdQ_own, wpr_rdO, wpr_wrOp, wpr_mopO, wpr_mmut, wpr_setI, owQ_own, wp_setO, wp_tup, wp_lst, wp_olst, wp_list, wp_tuple, wp_range1, wp_range2, wp_part, wp_slice, wp_tru, wp_andV, wp_orV, wp_notV, seqQ_rt, seqQ_ro, seqQ_bk, seqQ_ct, gath, scat, scat1, pos, ownAt, clQ_nx, clQ_rt, clQ_ro, lpQ_nx, lpQ_ct, lpQ_bk, lpQ_rt, lpQ_ro, mrg1, q_I0, q_I, q_ixL, q_ixT, q_ixO, q_lenL, q_lenT, q_lenO, q_sum, q_listL, q_listT, q_abs, q_max2, q_min2, q_slL, q_neg, q_append, q_setI, q_cMul, q_cDiv, q_cPos, q_cPow, at0, at1, at2, at3, at4, at5, ix0, ix1, okW, isOwn, wipeR, restR, wp_chain, wp_zip, wp_enum, wp_str, wp_slO, wp_rdON, wp_put, wp_swap, wp_str0, wp_mownS, wp_keys, wp_mdcomp, endQ_nx, endQ_rt, endO_ro, q_isiI, q_isiB, q_isiS, q_isiT, q_isiL, q_isiTL, q_all, q_any, q_ltS, q_addS, q_inS, q_ninS, q_lenS, q_lenD, q_zipT, q_zipL, q_catT, q_catL, q_slT, q_slS, q_tupleL, q_tupleT, q_tupO, q_lstO, q_listNL, q_listNT, q_insert, q_upper, q_nu2I, q_nu2B, q_nu1I, q_nu1B, q_strI, q_strB, q_strS, q_ixA_T, q_ixA_L, q_ixA_S, q_ixS, q_eqII, q_neII, q_eqSS, q_neSS, q_eqBB, q_neBB, q_dgetS, q_dgetI, q_dinS, q_dinI, at6, at7, gT, gsCons, gsNil, gN, keyOfD, someQ_some, someQ_if, someQ_map, q_allM, q_anyM, i_BN, i_BB, i_BI, i_BS, i_BL, i_BT, i_BD, i_IN, i_IB, i_II, i_IS, i_IL, i_IT, i_ID, i_SN, i_SB, i_SI, i_SS, i_SL, i_ST, i_SD, i_TN, i_TB, i_TI, i_TS, i_TL, i_TT, i_TD, i_LN, i_LB, i_LI, i_LS, i_LL, i_LT, i_LD, sizeLine_eq]
  rw [ekk]
  refine ⟨by omega, ?_⟩
  refine wp_loop (fun i (ρ : List (Sl Empty)) => ∃ x1 x2 x3 x4 x5 x6 x7 x8 x9, ρ = [.val (.list (ns.map PyData.int)), x1, x2, x3, x4, x5, x6, x7, x8, x9, .un]) ⟨_, _, _, _, _, _, _, _, _, rfl⟩ ?_ ?_
  · rintro k d ρ hd ⟨x1, x2, x3, x4, x5, x6, x7, x8, x9, rfl⟩
    obtain ⟨hi, rfl⟩ := rng_get hd
    refine ⟨_, rfl, ?_⟩
    simp only [List.set_cons_succ, List.set_cons_zero, Int.zero_add]
    rw [wp_seq]
    try simp [wp_set, wp_sret, wp_sretO, wp_expr, wp_for, wp_sif, wp_mif, wp_mand, wp_mor, wp_mnot, wp_mtest, wp_bnd, wp_ret, wp_some, wp_mcons, wp_nx, wp_bk, wp_ct, wp_asg, wp_mlc, wp_molc, wp_mcomp, wp_callV, wp_callO, wp_macons, wpr_maown, anQ_own, wpr_aug, auQ_val, wpr, rdQ_val, rdQ_own, wpr_rdO, wpr_wrOp, wpr_mopO, wpr_mmut, wpr_setI, owQ_own, wp_setO, wp_tup, wp_lst, wp_olst, wp_list, wp_tuple, wp_range1, wp_range2, wp_part, wp_slice, wp_tru, wp_andV, wp_orV, wp_notV, seqQ_rt, seqQ_ro, seqQ_bk, seqQ_ct, gath, scat, scat1, pos, ownAt, clQ_nx, clQ_rt, clQ_ro, lpQ_nx, lpQ_ct, lpQ_bk, lpQ_rt, lpQ_ro, mrg1, q_I0, q_I, q_ixL, q_ixT, q_ixO, q_lenL, q_lenT, q_lenO, q_sum, q_listL, q_listT, q_abs, q_max2, q_min2, q_slL, q_neg, q_append, q_setI, q_cMul, q_cDiv, q_cPos, q_cPow, at0, at1, at2, at3, at4, at5, ix0, ix1, okW, isOwn, wipeR, restR, wp_chain, wp_zip, wp_enum, wp_str, wp_slO, wp_rdON, wp_put, wp_swap, wp_str0, wp_mownS, wp_keys, wp_mdcomp, endQ_nx, endQ_rt, endO_ro, q_isiI, q_isiB, q_isiS, q_isiT, q_isiL, q_isiTL, q_all, q_any, q_ltS, q_addS, q_inS, q_ninS, q_lenS, q_lenD, q_zipT, q_zipL, q_catT, q_catL, q_slT, q_slS, q_tupleL, q_tupleT, q_tupO, q_lstO, q_listNL, q_listNT, q_insert, q_upper, q_nu2I, q_nu2B, q_nu1I, q_nu1B, q_strI, q_strB, q_strS, q_ixA_T, q_ixA_L, q_ixA_S, q_ixS, q_eqII, q_neII, q_eqSS, q_neSS, q_eqBB, q_neBB, q_dgetS, q_dgetI, q_dinS, q_dinI, at6, at7, gT, gsCons, gsNil, gN, keyOfD, someQ_some, someQ_if, someQ_map, q_allM, q_anyM, i_BN, i_BB, i_BI, i_BS, i_BL, i_BT, i_BD, i_IN, i_IB, i_II, i_IS, i_IL, i_IT, i_ID, i_SN, i_SB, i_SI, i_SS, i_SL, i_ST, i_SD, i_TN, i_TB, i_TI, i_TS, i_TL, i_TT, i_TD, i_LN, i_LB, i_LI, i_LS, i_LL, i_LT, i_LD, sizeLine_eq]
    refine bag_step (ns := ns) (k := k) ⟨by omega, by omega⟩ fun a b => ?_
    try simp [wp_set, wp_sret, wp_sretO, wp_expr, wp_for, wp_sif, wp_mif, wp_mand, wp_mor, wp_mnot, wp_mtest, wp_bnd, wp_ret, wp_some, wp_mcons, wp_nx, wp_bk, wp_ct, wp_asg, wp_mlc, wp_molc, wp_mcomp, wp_callV, wp_callO, wp_macons, wpr_maown, anQ_own, wpr_aug, auQ_val, wpr, rdQ_val, rdQ_own, wpr_rdO, wpr_wrOp, wpr_mopO, wpr_mmut, wpr_setI, owQ_own, wp_setO, wp_tup, wp_lst, wp_olst, wp_list, wp_tuple, wp_range1, wp_range2, wp_part, wp_slice, wp_tru, wp_andV, wp_orV, wp_notV, seqQ_rt, seqQ_ro, seqQ_bk, seqQ_ct, gath, scat, scat1, pos, ownAt, clQ_nx, clQ_rt, clQ_ro, lpQ_nx, lpQ_ct, lpQ_bk, lpQ_rt, lpQ_ro, mrg1, q_I0, q_I, q_ixL, q_ixT, q_ixO, q_lenL, q_lenT, q_lenO, q_sum, q_listL, q_listT, q_abs, q_max2, q_min2, q_slL, q_neg, q_append, q_setI, q_cMul, q_cDiv, q_cPos, q_cPow, at0, at1, at2, at3, at4, at5, ix0, ix1, okW, isOwn, wipeR, restR, wp_chain, wp_zip, wp_enum, wp_str, wp_slO, wp_rdON, wp_put, wp_swap, wp_str0, wp_mownS, wp_keys, wp_mdcomp, endQ_nx, endQ_rt, endO_ro, q_isiI, q_isiB, q_isiS, q_isiT, q_isiL, q_isiTL, q_all, q_any, q_ltS, q_addS, q_inS, q_ninS, q_lenS, q_lenD, q_zipT, q_zipL, q_catT, q_catL, q_slT, q_slS, q_tupleL, q_tupleT, q_tupO, q_lstO, q_listNL, q_listNT, q_insert, q_upper, q_nu2I, q_nu2B, q_nu1I, q_nu1B, q_strI, q_strB, q_strS, q_ixA_T, q_ixA_L, q_ixA_S, q_ixS, q_eqII, q_neII, q_eqSS, q_neSS, q_eqBB, q_neBB, q_dgetS, q_dgetI, q_dinS, q_dinI, at6, at7, gT, gsCons, gsNil, gN, keyOfD, someQ_some, someQ_if, someQ_map, q_allM, q_anyM, i_BN, i_BB, i_BI, i_BS, i_BL, i_BT, i_BD, i_IN, i_IB, i_II, i_IS, i_IL, i_IT, i_ID, i_SN, i_SB, i_SI, i_SS, i_SL, i_ST, i_SD, i_TN, i_TB, i_TI, i_TS, i_TL, i_TT, i_TD, i_LN, i_LB, i_LI, i_LS, i_LL, i_LT, i_LD, sizeLine_eq]
    rw [seqQ_nx, wp_seq]
    try simp [wp_set, wp_sret, wp_sretO, wp_expr, wp_for, wp_sif, wp_mif, wp_mand, wp_mor, wp_mnot, wp_mtest, wp_bnd, wp_ret, wp_some, wp_mcons, wp_nx, wp_bk, wp_ct, wp_asg, wp_mlc, wp_molc, wp_mcomp, wp_callV, wp_callO, wp_macons, wpr_maown, anQ_own, wpr_aug, auQ_val, wpr, rdQ_val, rdQ_own, wpr_rdO, wpr_wrOp, wpr_mopO, wpr_mmut, wpr_setI, owQ_own, wp_setO, wp_tup, wp_lst, wp_olst, wp_list, wp_tuple, wp_range1, wp_range2, wp_part, wp_slice, wp_tru, wp_andV, wp_orV, wp_notV, seqQ_rt, seqQ_ro, seqQ_bk, seqQ_ct, gath, scat, scat1, pos, ownAt, clQ_nx, clQ_rt, clQ_ro, lpQ_nx, lpQ_ct, lpQ_bk, lpQ_rt, lpQ_ro, mrg1, q_I0, q_I, q_ixL, q_ixT, q_ixO, q_lenL, q_lenT, q_lenO, q_sum, q_listL, q_listT, q_abs, q_max2, q_min2, q_slL, q_neg, q_append, q_setI, q_cMul, q_cDiv, q_cPos, q_cPow, at0, at1, at2, at3, at4, at5, ix0, ix1, okW, isOwn, wipeR, restR, wp_chain, wp_zip, wp_enum, wp_str, wp_slO, wp_rdON, wp_put, wp_swap, wp_str0, wp_mownS, wp_keys, wp_mdcomp, endQ_nx, endQ_rt, endO_ro, q_isiI, q_isiB, q_isiS, q_isiT, q_isiL, q_isiTL, q_all, q_any, q_ltS, q_addS, q_inS, q_ninS, q_lenS, q_lenD, q_zipT, q_zipL, q_catT, q_catL, q_slT, q_slS, q_tupleL, q_tupleT, q_tupO, q_lstO, q_listNL, q_listNT, q_insert, q_upper, q_nu2I, q_nu2B, q_nu1I, q_nu1B, q_strI, q_strB, q_strS, q_ixA_T, q_ixA_L, q_ixA_S, q_ixS, q_eqII, q_neII, q_eqSS, q_neSS, q_eqBB, q_neBB, q_dgetS, q_dgetI, q_dinS, q_dinI, at6, at7, gT, gsCons, gsNil, gN, keyOfD, someQ_some, someQ_if, someQ_map, q_allM, q_anyM, i_BN, i_BB, i_BI, i_BS, i_BL, i_BT, i_BD, i_IN, i_IB, i_II, i_IS, i_IL, i_IT, i_ID, i_SN, i_SB, i_SI, i_SS, i_SL, i_ST, i_SD, i_TN, i_TB, i_TI, i_TS, i_TL, i_TT, i_TD, i_LN, i_LB, i_LI, i_LS, i_LL, i_LT, i_LD, sizeLine_eq]
    refine tree_gen (.inl rfl) fun ts a b gt => ?_
    have hgood := gt.good
    have htree := gt.tree
    have htl := gt.l8
    have hnm : ∀ t ∈ ts, asc t.name ∧ t.name.length ≤ 8 := fun t ht => ⟨(name8 _ (gt.nm t ht)).2.1, (name8 _ (gt.nm t ht)).2.2.1⟩
    have hcall : ∀ {k : Nat} {d : D}, okB k d = true → k ≤ 8 → d.depth ≤ 60 → ∀ {Q : D → List (Sl Empty) → Prop}, (∀ b, b = costsB ts d → Q (.bool b) [.val (.tuple (ts.map tD)), .val d]) →
        callQ g_is_costs [.val (.tuple (ts.map tD)), .val d] Q ∧ callQ g__law_is_costs [.val (.tuple (ts.map tD)), .val d] Q := by
      intro k d h1 h2 h3 Q hQ
      exact ⟨is_costs_step hgood htree (ok_goodS h1 h2 h3) (hQ _ rfl), law_costs_step (fun t ht => asc_ok (hnm t ht).1) (by omega) (ok_goodS h1 h2 h3) (hQ _ rfl)⟩
    try simp [wp_set, wp_sret, wp_sretO, wp_expr, wp_for, wp_sif, wp_mif, wp_mand, wp_mor, wp_mnot, wp_mtest, wp_bnd, wp_ret, wp_some, wp_mcons, wp_nx, wp_bk, wp_ct, wp_asg, wp_mlc, wp_molc, wp_mcomp, wp_callV, wp_callO, wp_macons, wpr_maown, anQ_own, wpr_aug, auQ_val, wpr, rdQ_val, rdQ_own, wpr_rdO, wpr_wrOp, wpr_mopO, wpr_mmut, wpr_setI, owQ_own, wp_setO, wp_tup, wp_lst, wp_olst, wp_list, wp_tuple, wp_range1, wp_range2, wp_part, wp_slice, wp_tru, wp_andV, wp_orV, wp_notV, seqQ_rt, seqQ_ro, seqQ_bk, seqQ_ct, gath, scat, scat1, pos, ownAt, clQ_nx, clQ_rt, clQ_ro, lpQ_nx, lpQ_ct, lpQ_bk, lpQ_rt, lpQ_ro, mrg1, q_I0, q_I, q_ixL, q_ixT, q_ixO, q_lenL, q_lenT, q_lenO, q_sum, q_listL, q_listT, q_abs, q_max2, q_min2, q_slL, q_neg, q_append, q_setI, q_cMul, q_cDiv, q_cPos, q_cPow, at0, at1, at2, at3, at4, at5, ix0, ix1, okW, isOwn, wipeR, restR, wp_chain, wp_zip, wp_enum, wp_str, wp_slO, wp_rdON, wp_put, wp_swap, wp_str0, wp_mownS, wp_keys, wp_mdcomp, endQ_nx, endQ_rt, endO_ro, q_isiI, q_isiB, q_isiS, q_isiT, q_isiL, q_isiTL, q_all, q_any, q_ltS, q_addS, q_inS, q_ninS, q_lenS, q_lenD, q_zipT, q_zipL, q_catT, q_catL, q_slT, q_slS, q_tupleL, q_tupleT, q_tupO, q_lstO, q_listNL, q_listNT, q_insert, q_upper, q_nu2I, q_nu2B, q_nu1I, q_nu1B, q_strI, q_strB, q_strS, q_ixA_T, q_ixA_L, q_ixA_S, q_ixS, q_eqII, q_neII, q_eqSS, q_neSS, q_eqBB, q_neBB, q_dgetS, q_dgetI, q_dinS, q_dinI, at6, at7, gT, gsCons, gsNil, gN, keyOfD, someQ_some, someQ_if, someQ_map, q_allM, q_anyM, i_BN, i_BB, i_BI, i_BS, i_BL, i_BT, i_BD, i_IN, i_IB, i_II, i_IS, i_IL, i_IT, i_ID, i_SN, i_SB, i_SI, i_SS, i_SL, i_ST, i_SD, i_TN, i_TB, i_TI, i_TS, i_TL, i_TT, i_TD, i_LN, i_LB, i_LI, i_LS, i_LL, i_LT, i_LD, sizeLine_eq, -List.map_map]
    rw [seqQ_nx, wp_seq]
    try simp [wp_set, wp_sret, wp_sretO, wp_expr, wp_for, wp_sif, wp_mif, wp_mand, wp_mor, wp_mnot, wp_mtest, wp_bnd, wp_ret, wp_some, wp_mcons, wp_nx, wp_bk, wp_ct, wp_asg, wp_mlc, wp_molc, wp_mcomp, wp_callV, wp_callO, wp_macons, wpr_maown, anQ_own, wpr_aug, auQ_val, wpr, rdQ_val, rdQ_own, wpr_rdO, wpr_wrOp, wpr_mopO, wpr_mmut, wpr_setI, owQ_own, wp_setO, wp_tup, wp_lst, wp_olst, wp_list, wp_tuple, wp_range1, wp_range2, wp_part, wp_slice, wp_tru, wp_andV, wp_orV, wp_notV, seqQ_rt, seqQ_ro, seqQ_bk, seqQ_ct, gath, scat, scat1, pos, ownAt, clQ_nx, clQ_rt, clQ_ro, lpQ_nx, lpQ_ct, lpQ_bk, lpQ_rt, lpQ_ro, mrg1, q_I0, q_I, q_ixL, q_ixT, q_ixO, q_lenL, q_lenT, q_lenO, q_sum, q_listL, q_listT, q_abs, q_max2, q_min2, q_slL, q_neg, q_append, q_setI, q_cMul, q_cDiv, q_cPos, q_cPow, at0, at1, at2, at3, at4, at5, ix0, ix1, okW, isOwn, wipeR, restR, wp_chain, wp_zip, wp_enum, wp_str, wp_slO, wp_rdON, wp_put, wp_swap, wp_str0, wp_mownS, wp_keys, wp_mdcomp, endQ_nx, endQ_rt, endO_ro, q_isiI, q_isiB, q_isiS, q_isiT, q_isiL, q_isiTL, q_all, q_any, q_ltS, q_addS, q_inS, q_ninS, q_lenS, q_lenD, q_zipT, q_zipL, q_catT, q_catL, q_slT, q_slS, q_tupleL, q_tupleT, q_tupO, q_lstO, q_listNL, q_listNT, q_insert, q_upper, q_nu2I, q_nu2B, q_nu1I, q_nu1B, q_strI, q_strB, q_strS, q_ixA_T, q_ixA_L, q_ixA_S, q_ixS, q_eqII, q_neII, q_eqSS, q_neSS, q_eqBB, q_neBB, q_dgetS, q_dgetI, q_dinS, q_dinI, at6, at7, gT, gsCons, gsNil, gN, keyOfD, someQ_some, someQ_if, someQ_map, q_allM, q_anyM, i_BN, i_BB, i_BI, i_BS, i_BL, i_BT, i_BD, i_IN, i_IB, i_II, i_IS, i_IL, i_IT, i_ID, i_SN, i_SB, i_SI, i_SS, i_SL, i_ST, i_SD, i_TN, i_TB, i_TI, i_TS, i_TL, i_TT, i_TD, i_LN, i_LB, i_LI, i_LS, i_LL, i_LT, i_LD, sizeLine_eq, -List.map_map]
    refine costs_gen htl fun cs a b hcl hcs => ?_
    have hthing : okB 0 (.tuple ((ts.zip cs).map rowD)) = true ∧ PyData.depth (.tuple ((ts.zip cs).map rowD)) ≤ 2 := by
      refine rows_ok (by simp; omega) fun d hd => ?_
      obtain ⟨p, hp, rfl⟩ := List.mem_map.mp hd
      obtain ⟨h1, h2⟩ := List.of_mem_zip hp
      have h3 := hcs _ h2
      have := row_ok (p := p) (hnm _ h1) ⟨by omega, by omega, by omega⟩
      exact ⟨this.1, by omega⟩
    try simp [wp_set, wp_sret, wp_sretO, wp_expr, wp_for, wp_sif, wp_mif, wp_mand, wp_mor, wp_mnot, wp_mtest, wp_bnd, wp_ret, wp_some, wp_mcons, wp_nx, wp_bk, wp_ct, wp_asg, wp_mlc, wp_molc, wp_mcomp, wp_callV, wp_callO, wp_macons, wpr_maown, anQ_own, wpr_aug, auQ_val, wpr, rdQ_val, rdQ_own, wpr_rdO, wpr_wrOp, wpr_mopO, wpr_mmut, wpr_setI, owQ_own, wp_setO, wp_tup, wp_lst, wp_olst, wp_list, wp_tuple, wp_range1, wp_range2, wp_part, wp_slice, wp_tru, wp_andV, wp_orV, wp_notV, seqQ_rt, seqQ_ro, seqQ_bk, seqQ_ct, gath, scat, scat1, pos, ownAt, clQ_nx, clQ_rt, clQ_ro, lpQ_nx, lpQ_ct, lpQ_bk, lpQ_rt, lpQ_ro, mrg1, q_I0, q_I, q_ixL, q_ixT, q_ixO, q_lenL, q_lenT, q_lenO, q_sum, q_listL, q_listT, q_abs, q_max2, q_min2, q_slL, q_neg, q_append, q_setI, q_cMul, q_cDiv, q_cPos, q_cPow, at0, at1, at2, at3, at4, at5, ix0, ix1, okW, isOwn, wipeR, restR, wp_chain, wp_zip, wp_enum, wp_str, wp_slO, wp_rdON, wp_put, wp_swap, wp_str0, wp_mownS, wp_keys, wp_mdcomp, endQ_nx, endQ_rt, endO_ro, q_isiI, q_isiB, q_isiS, q_isiT, q_isiL, q_isiTL, q_all, q_any, q_ltS, q_addS, q_inS, q_ninS, q_lenS, q_lenD, q_zipT, q_zipL, q_catT, q_catL, q_slT, q_slS, q_tupleL, q_tupleT, q_tupO, q_lstO, q_listNL, q_listNT, q_insert, q_upper, q_nu2I, q_nu2B, q_nu1I, q_nu1B, q_strI, q_strB, q_strS, q_ixA_T, q_ixA_L, q_ixA_S, q_ixS, q_eqII, q_neII, q_eqSS, q_neSS, q_eqBB, q_neBB, q_dgetS, q_dgetI, q_dinS, q_dinI, at6, at7, gT, gsCons, gsNil, gN, keyOfD, someQ_some, someQ_if, someQ_map, q_allM, q_anyM, i_BN, i_BB, i_BI, i_BS, i_BL, i_BT, i_BD, i_IN, i_IB, i_II, i_IS, i_IL, i_IT, i_ID, i_SN, i_SB, i_SI, i_SS, i_SL, i_ST, i_SD, i_TN, i_TB, i_TI, i_TS, i_TL, i_TT, i_TD, i_LN, i_LB, i_LI, i_LS, i_LL, i_LT, i_LD, sizeLine_eq, -List.map_map]
    rw [seqQ_nx, wp_seq]
    try simp [wp_set, wp_sret, wp_sretO, wp_expr, wp_for, wp_sif, wp_mif, wp_mand, wp_mor, wp_mnot, wp_mtest, wp_bnd, wp_ret, wp_some, wp_mcons, wp_nx, wp_bk, wp_ct, wp_asg, wp_mlc, wp_molc, wp_mcomp, wp_callV, wp_callO, wp_macons, wpr_maown, anQ_own, wpr_aug, auQ_val, wpr, rdQ_val, rdQ_own, wpr_rdO, wpr_wrOp, wpr_mopO, wpr_mmut, wpr_setI, owQ_own, wp_setO, wp_tup, wp_lst, wp_olst, wp_list, wp_tuple, wp_range1, wp_range2, wp_part, wp_slice, wp_tru, wp_andV, wp_orV, wp_notV, seqQ_rt, seqQ_ro, seqQ_bk, seqQ_ct, gath, scat, scat1, pos, ownAt, clQ_nx, clQ_rt, clQ_ro, lpQ_nx, lpQ_ct, lpQ_bk, lpQ_rt, lpQ_ro, mrg1, q_I0, q_I, q_ixL, q_ixT, q_ixO, q_lenL, q_lenT, q_lenO, q_sum, q_listL, q_listT, q_abs, q_max2, q_min2, q_slL, q_neg, q_append, q_setI, q_cMul, q_cDiv, q_cPos, q_cPow, at0, at1, at2, at3, at4, at5, ix0, ix1, okW, isOwn, wipeR, restR, wp_chain, wp_zip, wp_enum, wp_str, wp_slO, wp_rdON, wp_put, wp_swap, wp_str0, wp_mownS, wp_keys, wp_mdcomp, endQ_nx, endQ_rt, endO_ro, q_isiI, q_isiB, q_isiS, q_isiT, q_isiL, q_isiTL, q_all, q_any, q_ltS, q_addS, q_inS, q_ninS, q_lenS, q_lenD, q_zipT, q_zipL, q_catT, q_catL, q_slT, q_slS, q_tupleL, q_tupleT, q_tupO, q_lstO, q_listNL, q_listNT, q_insert, q_upper, q_nu2I, q_nu2B, q_nu1I, q_nu1B, q_strI, q_strB, q_strS, q_ixA_T, q_ixA_L, q_ixA_S, q_ixS, q_eqII, q_neII, q_eqSS, q_neSS, q_eqBB, q_neBB, q_dgetS, q_dgetI, q_dinS, q_dinI, at6, at7, gT, gsCons, gsNil, gN, keyOfD, someQ_some, someQ_if, someQ_map, q_allM, q_anyM, i_BN, i_BB, i_BI, i_BS, i_BL, i_BT, i_BD, i_IN, i_IB, i_II, i_IS, i_IL, i_IT, i_ID, i_SN, i_SB, i_SI, i_SS, i_SL, i_ST, i_SD, i_TN, i_TB, i_TI, i_TS, i_TL, i_TT, i_TD, i_LN, i_LB, i_LI, i_LS, i_LL, i_LT, i_LD, sizeLine_eq, -List.map_map]
    refine tree_gen (.inl rfl) fun ts2 a b gt2 => ?_
    try simp [wp_set, wp_sret, wp_sretO, wp_expr, wp_for, wp_sif, wp_mif, wp_mand, wp_mor, wp_mnot, wp_mtest, wp_bnd, wp_ret, wp_some, wp_mcons, wp_nx, wp_bk, wp_ct, wp_asg, wp_mlc, wp_molc, wp_mcomp, wp_callV, wp_callO, wp_macons, wpr_maown, anQ_own, wpr_aug, auQ_val, wpr, rdQ_val, rdQ_own, wpr_rdO, wpr_wrOp, wpr_mopO, wpr_mmut, wpr_setI, owQ_own, wp_setO, wp_tup, wp_lst, wp_olst, wp_list, wp_tuple, wp_range1, wp_range2, wp_part, wp_slice, wp_tru, wp_andV, wp_orV, wp_notV, seqQ_rt, seqQ_ro, seqQ_bk, seqQ_ct, gath, scat, scat1, pos, ownAt, clQ_nx, clQ_rt, clQ_ro, lpQ_nx, lpQ_ct, lpQ_bk, lpQ_rt, lpQ_ro, mrg1, q_I0, q_I, q_ixL, q_ixT, q_ixO, q_lenL, q_lenT, q_lenO, q_sum, q_listL, q_listT, q_abs, q_max2, q_min2, q_slL, q_neg, q_append, q_setI, q_cMul, q_cDiv, q_cPos, q_cPow, at0, at1, at2, at3, at4, at5, ix0, ix1, okW, isOwn, wipeR, restR, wp_chain, wp_zip, wp_enum, wp_str, wp_slO, wp_rdON, wp_put, wp_swap, wp_str0, wp_mownS, wp_keys, wp_mdcomp, endQ_nx, endQ_rt, endO_ro, q_isiI, q_isiB, q_isiS, q_isiT, q_isiL, q_isiTL, q_all, q_any, q_ltS, q_addS, q_inS, q_ninS, q_lenS, q_lenD, q_zipT, q_zipL, q_catT, q_catL, q_slT, q_slS, q_tupleL, q_tupleT, q_tupO, q_lstO, q_listNL, q_listNT, q_insert, q_upper, q_nu2I, q_nu2B, q_nu1I, q_nu1B, q_strI, q_strB, q_strS, q_ixA_T, q_ixA_L, q_ixA_S, q_ixS, q_eqII, q_neII, q_eqSS, q_neSS, q_eqBB, q_neBB, q_dgetS, q_dgetI, q_dinS, q_dinI, at6, at7, gT, gsCons, gsNil, gN, keyOfD, someQ_some, someQ_if, someQ_map, q_allM, q_anyM, i_BN, i_BB, i_BI, i_BS, i_BL, i_BT, i_BD, i_IN, i_IB, i_II, i_IS, i_IL, i_IT, i_ID, i_SN, i_SB, i_SI, i_SS, i_SL, i_ST, i_SD, i_TN, i_TB, i_TI, i_TS, i_TL, i_TT, i_TD, i_LN, i_LB, i_LI, i_LS, i_LL, i_LT, i_LD, sizeLine_eq, -List.map_map]
    refine costs_gen gt2.l8 fun cs2 a b hcl2 hcs2 => ?_
    have hother : okB 0 (.tuple ((ts2.zip cs2).map rowD)) = true ∧ PyData.depth (.tuple ((ts2.zip cs2).map rowD)) ≤ 2 := by
      refine rows_ok (by have := gt2.l8; simp; omega) fun d hd => ?_
      obtain ⟨p, hp, rfl⟩ := List.mem_map.mp hd
      obtain ⟨h1, h2⟩ := List.of_mem_zip hp
      have h3 := hcs2 _ h2
      have hn := name8 _ (gt2.nm _ h1)
      have := row_ok (p := p) ⟨hn.2.1, hn.2.2.1⟩ ⟨by omega, by omega, by omega⟩
      exact ⟨this.1, by omega⟩
    try simp [wp_set, wp_sret, wp_sretO, wp_expr, wp_for, wp_sif, wp_mif, wp_mand, wp_mor, wp_mnot, wp_mtest, wp_bnd, wp_ret, wp_some, wp_mcons, wp_nx, wp_bk, wp_ct, wp_asg, wp_mlc, wp_molc, wp_mcomp, wp_callV, wp_callO, wp_macons, wpr_maown, anQ_own, wpr_aug, auQ_val, wpr, rdQ_val, rdQ_own, wpr_rdO, wpr_wrOp, wpr_mopO, wpr_mmut, wpr_setI, owQ_own, wp_setO, wp_tup, wp_lst, wp_olst, wp_list, wp_tuple, wp_range1, wp_range2, wp_part, wp_slice, wp_tru, wp_andV, wp_orV, wp_notV, seqQ_rt, seqQ_ro, seqQ_bk, seqQ_ct, gath, scat, scat1, pos, ownAt, clQ_nx, clQ_rt, clQ_ro, lpQ_nx, lpQ_ct, lpQ_bk, lpQ_rt, lpQ_ro, mrg1, q_I0, q_I, q_ixL, q_ixT, q_ixO, q_lenL, q_lenT, q_lenO, q_sum, q_listL, q_listT, q_abs, q_max2, q_min2, q_slL, q_neg, q_append, q_setI, q_cMul, q_cDiv, q_cPos, q_cPow, at0, at1, at2, at3, at4, at5, ix0, ix1, okW, isOwn, wipeR, restR, wp_chain, wp_zip, wp_enum, wp_str, wp_slO, wp_rdON, wp_put, wp_swap, wp_str0, wp_mownS, wp_keys, wp_mdcomp, endQ_nx, endQ_rt, endO_ro, q_isiI, q_isiB, q_isiS, q_isiT, q_isiL, q_isiTL, q_all, q_any, q_ltS, q_addS, q_inS, q_ninS, q_lenS, q_lenD, q_zipT, q_zipL, q_catT, q_catL, q_slT, q_slS, q_tupleL, q_tupleT, q_tupO, q_lstO, q_listNL, q_listNT, q_insert, q_upper, q_nu2I, q_nu2B, q_nu1I, q_nu1B, q_strI, q_strB, q_strS, q_ixA_T, q_ixA_L, q_ixA_S, q_ixS, q_eqII, q_neII, q_eqSS, q_neSS, q_eqBB, q_neBB, q_dgetS, q_dgetI, q_dinS, q_dinI, at6, at7, gT, gsCons, gsNil, gN, keyOfD, someQ_some, someQ_if, someQ_map, q_allM, q_anyM, i_BN, i_BB, i_BI, i_BS, i_BL, i_BT, i_BD, i_IN, i_IB, i_II, i_IS, i_IL, i_IT, i_ID, i_SN, i_SB, i_SI, i_SS, i_SL, i_ST, i_SD, i_TN, i_TB, i_TI, i_TS, i_TL, i_TT, i_TD, i_LN, i_LB, i_LI, i_LS, i_LL, i_LT, i_LD, sizeLine_eq, -List.map_map]
    rw [seqQ_nx, wp_seq]
    try simp [wp_set, wp_sret, wp_sretO, wp_expr, wp_for, wp_sif, wp_mif, wp_mand, wp_mor, wp_mnot, wp_mtest, wp_bnd, wp_ret, wp_some, wp_mcons, wp_nx, wp_bk, wp_ct, wp_asg, wp_mlc, wp_molc, wp_mcomp, wp_callV, wp_callO, wp_macons, wpr_maown, anQ_own, wpr_aug, auQ_val, wpr, rdQ_val, rdQ_own, wpr_rdO, wpr_wrOp, wpr_mopO, wpr_mmut, wpr_setI, owQ_own, wp_setO, wp_tup, wp_lst, wp_olst, wp_list, wp_tuple, wp_range1, wp_range2, wp_part, wp_slice, wp_tru, wp_andV, wp_orV, wp_notV, seqQ_rt, seqQ_ro, seqQ_bk, seqQ_ct, gath, scat, scat1, pos, ownAt, clQ_nx, clQ_rt, clQ_ro, lpQ_nx, lpQ_ct, lpQ_bk, lpQ_rt, lpQ_ro, mrg1, q_I0, q_I, q_ixL, q_ixT, q_ixO, q_lenL, q_lenT, q_lenO, q_sum, q_listL, q_listT, q_abs, q_max2, q_min2, q_slL, q_neg, q_append, q_setI, q_cMul, q_cDiv, q_cPos, q_cPow, at0, at1, at2, at3, at4, at5, ix0, ix1, okW, isOwn, wipeR, restR, wp_chain, wp_zip, wp_enum, wp_str, wp_slO, wp_rdON, wp_put, wp_swap, wp_str0, wp_mownS, wp_keys, wp_mdcomp, endQ_nx, endQ_rt, endO_ro, q_isiI, q_isiB, q_isiS, q_isiT, q_isiL, q_isiTL, q_all, q_any, q_ltS, q_addS, q_inS, q_ninS, q_lenS, q_lenD, q_zipT, q_zipL, q_catT, q_catL, q_slT, q_slS, q_tupleL, q_tupleT, q_tupO, q_lstO, q_listNL, q_listNT, q_insert, q_upper, q_nu2I, q_nu2B, q_nu1I, q_nu1B, q_strI, q_strB, q_strS, q_ixA_T, q_ixA_L, q_ixA_S, q_ixS, q_eqII, q_neII, q_eqSS, q_neSS, q_eqBB, q_neBB, q_dgetS, q_dgetI, q_dinS, q_dinI, at6, at7, gT, gsCons, gsNil, gN, keyOfD, someQ_some, someQ_if, someQ_map, q_allM, q_anyM, i_BN, i_BB, i_BI, i_BS, i_BL, i_BT, i_BD, i_IN, i_IB, i_II, i_IS, i_IL, i_IT, i_ID, i_SN, i_SB, i_SI, i_SS, i_SL, i_ST, i_SD, i_TN, i_TB, i_TI, i_TS, i_TL, i_TT, i_TD, i_LN, i_LB, i_LI, i_LS, i_LL, i_LT, i_LD, sizeLine_eq, -List.map_map]
    refine ⟨by omega, ?_⟩
    refine wp_comp (fun i acc (ρ : List (Sl Empty)) => ∃ a b : Int, acc.length = i ∧ (∀ d ∈ acc, okB 0 d = true ∧ d.depth ≤ 1) ∧ ρ = [.val (.list (ns.map PyData.int)), .val (.int k), bagS a b, .val (.tuple (ts.map tD)), .val (.tuple ((ts.zip cs).map rowD)), .val (.tuple ((ts2.zip cs2).map rowD)), x6, x7, x8, x9, .un]) ⟨_, _, rfl, by simp, rfl⟩ ?_ ?_
    · rintro i d acc ρ hd ⟨a, b, hal, hacc, rfl⟩
      have hd := List.mem_of_getElem? hd
      obtain ⟨p, hp, rfl⟩ := List.mem_map.mp hd
      have hn := hnm _ (List.of_mem_zip hp).1
      refine ⟨_, rfl, ?_⟩
      have hcut : DL.cutD [PyData.str p.1.name, .int p.2.1, .int p.2.2.1, .int p.2.2.2] none (some 1) = [.str p.1.name] := cut_to _ 1 (by simp)
      simp [wp_set, wp_sret, wp_sretO, wp_expr, wp_for, wp_sif, wp_mif, wp_mand, wp_mor, wp_mnot, wp_mtest, wp_bnd, wp_ret, wp_some, wp_mcons, wp_nx, wp_bk, wp_ct, wp_asg, wp_mlc, wp_molc, wp_mcomp, wp_callV, wp_callO, wp_macons, wpr_maown, anQ_own, wpr_aug, auQ_val, wpr, rdQ_val, rdQ_own, wpr_rdO, wpr_wrOp, wpr_mopO, wpr_mmut, wpr_setI, owQ_own, wp_setO, wp_tup, wp_lst, wp_olst, wp_list, wp_tuple, wp_range1, wp_range2, wp_part, wp_slice, wp_tru, wp_andV, wp_orV, wp_notV, seqQ_rt, seqQ_ro, seqQ_bk, seqQ_ct, gath, scat, scat1, pos, ownAt, clQ_nx, clQ_rt, clQ_ro, lpQ_nx, lpQ_ct, lpQ_bk, lpQ_rt, lpQ_ro, mrg1, q_I0, q_I, q_ixL, q_ixT, q_ixO, q_lenL, q_lenT, q_lenO, q_sum, q_listL, q_listT, q_abs, q_max2, q_min2, q_slL, q_neg, q_append, q_setI, q_cMul, q_cDiv, q_cPos, q_cPow, at0, at1, at2, at3, at4, at5, ix0, ix1, okW, isOwn, wipeR, restR, wp_chain, wp_zip, wp_enum, wp_str, wp_slO, wp_rdON, wp_put, wp_swap, wp_str0, wp_mownS, wp_keys, wp_mdcomp, endQ_nx, endQ_rt, endO_ro, q_isiI, q_isiB, q_isiS, q_isiT, q_isiL, q_isiTL, q_all, q_any, q_ltS, q_addS, q_inS, q_ninS, q_lenS, q_lenD, q_zipT, q_zipL, q_catT, q_catL, q_slT, q_slS, q_tupleL, q_tupleT, q_tupO, q_lstO, q_listNL, q_listNT, q_insert, q_upper, q_nu2I, q_nu2B, q_nu1I, q_nu1B, q_strI, q_strB, q_strS, q_ixA_T, q_ixA_L, q_ixA_S, q_ixS, q_eqII, q_neII, q_eqSS, q_neSS, q_eqBB, q_neBB, q_dgetS, q_dgetI, q_dinS, q_dinI, at6, at7, gT, gsCons, gsNil, gN, keyOfD, someQ_some, someQ_if, someQ_map, q_allM, q_anyM, i_BN, i_BB, i_BI, i_BS, i_BL, i_BT, i_BD, i_IN, i_IB, i_II, i_IS, i_IL, i_IT, i_ID, i_SN, i_SB, i_SI, i_SS, i_SL, i_ST, i_SD, i_TN, i_TB, i_TI, i_TS, i_TL, i_TT, i_TD, i_LN, i_LB, i_LI, i_LS, i_LL, i_LT, i_LD, sizeLine_eq, rowD, hcut, -List.map_map]
      refine take_step (by decide) fun v a b h0 h1 => ?_
      simp [wp_set, wp_sret, wp_sretO, wp_expr, wp_for, wp_sif, wp_mif, wp_mand, wp_mor, wp_mnot, wp_mtest, wp_bnd, wp_ret, wp_some, wp_mcons, wp_nx, wp_bk, wp_ct, wp_asg, wp_mlc, wp_molc, wp_mcomp, wp_callV, wp_callO, wp_macons, wpr_maown, anQ_own, wpr_aug, auQ_val, wpr, rdQ_val, rdQ_own, wpr_rdO, wpr_wrOp, wpr_mopO, wpr_mmut, wpr_setI, owQ_own, wp_setO, wp_tup, wp_lst, wp_olst, wp_list, wp_tuple, wp_range1, wp_range2, wp_part, wp_slice, wp_tru, wp_andV, wp_orV, wp_notV, seqQ_rt, seqQ_ro, seqQ_bk, seqQ_ct, gath, scat, scat1, pos, ownAt, clQ_nx, clQ_rt, clQ_ro, lpQ_nx, lpQ_ct, lpQ_bk, lpQ_rt, lpQ_ro, mrg1, q_I0, q_I, q_ixL, q_ixT, q_ixO, q_lenL, q_lenT, q_lenO, q_sum, q_listL, q_listT, q_abs, q_max2, q_min2, q_slL, q_neg, q_append, q_setI, q_cMul, q_cDiv, q_cPos, q_cPow, at0, at1, at2, at3, at4, at5, ix0, ix1, okW, isOwn, wipeR, restR, wp_chain, wp_zip, wp_enum, wp_str, wp_slO, wp_rdON, wp_put, wp_swap, wp_str0, wp_mownS, wp_keys, wp_mdcomp, endQ_nx, endQ_rt, endO_ro, q_isiI, q_isiB, q_isiS, q_isiT, q_isiL, q_isiTL, q_all, q_any, q_ltS, q_addS, q_inS, q_ninS, q_lenS, q_lenD, q_zipT, q_zipL, q_catT, q_catL, q_slT, q_slS, q_tupleL, q_tupleT, q_tupO, q_lstO, q_listNL, q_listNT, q_insert, q_upper, q_nu2I, q_nu2B, q_nu1I, q_nu1B, q_strI, q_strB, q_strS, q_ixA_T, q_ixA_L, q_ixA_S, q_ixS, q_eqII, q_neII, q_eqSS, q_neSS, q_eqBB, q_neBB, q_dgetS, q_dgetI, q_dinS, q_dinI, at6, at7, gT, gsCons, gsNil, gN, keyOfD, someQ_some, someQ_if, someQ_map, q_allM, q_anyM, i_BN, i_BB, i_BI, i_BS, i_BL, i_BT, i_BD, i_IN, i_IB, i_II, i_IS, i_IL, i_IT, i_ID, i_SN, i_SB, i_SI, i_SS, i_SL, i_ST, i_SD, i_TN, i_TB, i_TI, i_TS, i_TL, i_TT, i_TD, i_LN, i_LB, i_LI, i_LS, i_LL, i_LT, i_LD, sizeLine_eq, -List.map_map]
      refine wp_atL h0 (by simpa using h1) fun x hx => ?_
      have hx : ∃ c : Int, x = .int c ∧ 0 ≤ c ∧ c ≤ 101 := by
        simp only [List.mem_cons, List.not_mem_nil, or_false] at hx
        rcases hx with rfl | rfl <;> exact ⟨_, rfl, by decide, by decide⟩
      obtain ⟨c, rfl, hc0, hc1⟩ := hx
      have hr := row_ok (p := (p.1, 0, 100, c)) hn ⟨by simp, by simp, by show c.natAbs ≤ 1000; omega⟩
      simp [wp_set, wp_sret, wp_sretO, wp_expr, wp_for, wp_sif, wp_mif, wp_mand, wp_mor, wp_mnot, wp_mtest, wp_bnd, wp_ret, wp_some, wp_mcons, wp_nx, wp_bk, wp_ct, wp_asg, wp_mlc, wp_molc, wp_mcomp, wp_callV, wp_callO, wp_macons, wpr_maown, anQ_own, wpr_aug, auQ_val, wpr, rdQ_val, rdQ_own, wpr_rdO, wpr_wrOp, wpr_mopO, wpr_mmut, wpr_setI, owQ_own, wp_setO, wp_tup, wp_lst, wp_olst, wp_list, wp_tuple, wp_range1, wp_range2, wp_part, wp_slice, wp_tru, wp_andV, wp_orV, wp_notV, seqQ_rt, seqQ_ro, seqQ_bk, seqQ_ct, gath, scat, scat1, pos, ownAt, clQ_nx, clQ_rt, clQ_ro, lpQ_nx, lpQ_ct, lpQ_bk, lpQ_rt, lpQ_ro, mrg1, q_I0, q_I, q_ixL, q_ixT, q_ixO, q_lenL, q_lenT, q_lenO, q_sum, q_listL, q_listT, q_abs, q_max2, q_min2, q_slL, q_neg, q_append, q_setI, q_cMul, q_cDiv, q_cPos, q_cPow, at0, at1, at2, at3, at4, at5, ix0, ix1, okW, isOwn, wipeR, restR, wp_chain, wp_zip, wp_enum, wp_str, wp_slO, wp_rdON, wp_put, wp_swap, wp_str0, wp_mownS, wp_keys, wp_mdcomp, endQ_nx, endQ_rt, endO_ro, q_isiI, q_isiB, q_isiS, q_isiT, q_isiL, q_isiTL, q_all, q_any, q_ltS, q_addS, q_inS, q_ninS, q_lenS, q_lenD, q_zipT, q_zipL, q_catT, q_catL, q_slT, q_slS, q_tupleL, q_tupleT, q_tupO, q_lstO, q_listNL, q_listNT, q_insert, q_upper, q_nu2I, q_nu2B, q_nu1I, q_nu1B, q_strI, q_strB, q_strS, q_ixA_T, q_ixA_L, q_ixA_S, q_ixS, q_eqII, q_neII, q_eqSS, q_neSS, q_eqBB, q_neBB, q_dgetS, q_dgetI, q_dinS, q_dinI, at6, at7, gT, gsCons, gsNil, gN, keyOfD, someQ_some, someQ_if, someQ_map, q_allM, q_anyM, i_BN, i_BB, i_BI, i_BS, i_BL, i_BT, i_BD, i_IN, i_IB, i_II, i_IS, i_IL, i_IT, i_ID, i_SN, i_SB, i_SI, i_SS, i_SL, i_ST, i_SD, i_TN, i_TB, i_TI, i_TS, i_TL, i_TT, i_TD, i_LN, i_LB, i_LI, i_LS, i_LL, i_LT, i_LD, sizeLine_eq, hal, -List.map_map]
      intro d hd
      rcases hd with hd | rfl
      · exact hacc d hd
      · exact ⟨hr.1, by have := hr.2; simp only [rowD] at this; omega⟩
    rintro ws ρ ⟨a, b, hwl, hws, rfl⟩
    have hwide := rows_ok (es := ws) (by rw [hwl]; simp; omega) hws
    try simp [wp_set, wp_sret, wp_sretO, wp_expr, wp_for, wp_sif, wp_mif, wp_mand, wp_mor, wp_mnot, wp_mtest, wp_bnd, wp_ret, wp_some, wp_mcons, wp_nx, wp_bk, wp_ct, wp_asg, wp_mlc, wp_molc, wp_mcomp, wp_callV, wp_callO, wp_macons, wpr_maown, anQ_own, wpr_aug, auQ_val, wpr, rdQ_val, rdQ_own, wpr_rdO, wpr_wrOp, wpr_mopO, wpr_mmut, wpr_setI, owQ_own, wp_setO, wp_tup, wp_lst, wp_olst, wp_list, wp_tuple, wp_range1, wp_range2, wp_part, wp_slice, wp_tru, wp_andV, wp_orV, wp_notV, seqQ_rt, seqQ_ro, seqQ_bk, seqQ_ct, gath, scat, scat1, pos, ownAt, clQ_nx, clQ_rt, clQ_ro, lpQ_nx, lpQ_ct, lpQ_bk, lpQ_rt, lpQ_ro, mrg1, q_I0, q_I, q_ixL, q_ixT, q_ixO, q_lenL, q_lenT, q_lenO, q_sum, q_listL, q_listT, q_abs, q_max2, q_min2, q_slL, q_neg, q_append, q_setI, q_cMul, q_cDiv, q_cPos, q_cPow, at0, at1, at2, at3, at4, at5, ix0, ix1, okW, isOwn, wipeR, restR, wp_chain, wp_zip, wp_enum, wp_str, wp_slO, wp_rdON, wp_put, wp_swap, wp_str0, wp_mownS, wp_keys, wp_mdcomp, endQ_nx, endQ_rt, endO_ro, q_isiI, q_isiB, q_isiS, q_isiT, q_isiL, q_isiTL, q_all, q_any, q_ltS, q_addS, q_inS, q_ninS, q_lenS, q_lenD, q_zipT, q_zipL, q_catT, q_catL, q_slT, q_slS, q_tupleL, q_tupleT, q_tupO, q_lstO, q_listNL, q_listNT, q_insert, q_upper, q_nu2I, q_nu2B, q_nu1I, q_nu1B, q_strI, q_strB, q_strS, q_ixA_T, q_ixA_L, q_ixA_S, q_ixS, q_eqII, q_neII, q_eqSS, q_neSS, q_eqBB, q_neBB, q_dgetS, q_dgetI, q_dinS, q_dinI, at6, at7, gT, gsCons, gsNil, gN, keyOfD, someQ_some, someQ_if, someQ_map, q_allM, q_anyM, i_BN, i_BB, i_BI, i_BS, i_BL, i_BT, i_BD, i_IN, i_IB, i_II, i_IS, i_IL, i_IT, i_ID, i_SN, i_SB, i_SI, i_SS, i_SL, i_ST, i_SD, i_TN, i_TB, i_TI, i_TS, i_TL, i_TT, i_TD, i_LN, i_LB, i_LI, i_LS, i_LL, i_LT, i_LD, sizeLine_eq, -List.map_map]
    rw [seqQ_nx, wp_seq]
    try simp [wp_set, wp_sret, wp_sretO, wp_expr, wp_for, wp_sif, wp_mif, wp_mand, wp_mor, wp_mnot, wp_mtest, wp_bnd, wp_ret, wp_some, wp_mcons, wp_nx, wp_bk, wp_ct, wp_asg, wp_mlc, wp_molc, wp_mcomp, wp_callV, wp_callO, wp_macons, wpr_maown, anQ_own, wpr_aug, auQ_val, wpr, rdQ_val, rdQ_own, wpr_rdO, wpr_wrOp, wpr_mopO, wpr_mmut, wpr_setI, owQ_own, wp_setO, wp_tup, wp_lst, wp_olst, wp_list, wp_tuple, wp_range1, wp_range2, wp_part, wp_slice, wp_tru, wp_andV, wp_orV, wp_notV, seqQ_rt, seqQ_ro, seqQ_bk, seqQ_ct, gath, scat, scat1, pos, ownAt, clQ_nx, clQ_rt, clQ_ro, lpQ_nx, lpQ_ct, lpQ_bk, lpQ_rt, lpQ_ro, mrg1, q_I0, q_I, q_ixL, q_ixT, q_ixO, q_lenL, q_lenT, q_lenO, q_sum, q_listL, q_listT, q_abs, q_max2, q_min2, q_slL, q_neg, q_append, q_setI, q_cMul, q_cDiv, q_cPos, q_cPow, at0, at1, at2, at3, at4, at5, ix0, ix1, okW, isOwn, wipeR, restR, wp_chain, wp_zip, wp_enum, wp_str, wp_slO, wp_rdON, wp_put, wp_swap, wp_str0, wp_mownS, wp_keys, wp_mdcomp, endQ_nx, endQ_rt, endO_ro, q_isiI, q_isiB, q_isiS, q_isiT, q_isiL, q_isiTL, q_all, q_any, q_ltS, q_addS, q_inS, q_ninS, q_lenS, q_lenD, q_zipT, q_zipL, q_catT, q_catL, q_slT, q_slS, q_tupleL, q_tupleT, q_tupO, q_lstO, q_listNL, q_listNT, q_insert, q_upper, q_nu2I, q_nu2B, q_nu1I, q_nu1B, q_strI, q_strB, q_strS, q_ixA_T, q_ixA_L, q_ixA_S, q_ixS, q_eqII, q_neII, q_eqSS, q_neSS, q_eqBB, q_neBB, q_dgetS, q_dgetI, q_dinS, q_dinI, at6, at7, gT, gsCons, gsNil, gN, keyOfD, someQ_some, someQ_if, someQ_map, q_allM, q_anyM, i_BN, i_BB, i_BI, i_BS, i_BL, i_BT, i_BD, i_IN, i_IB, i_II, i_IS, i_IL, i_IT, i_ID, i_SN, i_SB, i_SI, i_SS, i_SL, i_ST, i_SD, i_TN, i_TB, i_TI, i_TS, i_TL, i_TT, i_TD, i_LN, i_LB, i_LI, i_LS, i_LL, i_LT, i_LD, sizeLine_eq, -List.map_map]
    have hrows : ∀ d ∈ (ts.zip cs).map rowD, okB 0 d = true ∧ d.depth ≤ 1 := by
      intro d hd
      obtain ⟨p, hp, rfl⟩ := List.mem_map.mp hd
      obtain ⟨h1, h2⟩ := List.of_mem_zip hp
      have h3 := hcs _ h2
      have := row_ok (p := p) (hnm _ h1) ⟨by omega, by omega, by omega⟩
      exact ⟨this.1, by omega⟩
    have hzl : (ts.zip cs).length ≤ 8 := by rw [List.length_zip]; omega
    have hcat := rows_ok (es := (ts.zip cs).map rowD ++ [.tuple [.str (PySem.Str.ofString "zz"), .int 1, .int 1, .int 1]]) (by simp; omega) (fun d hd => by
      rcases List.mem_append.mp hd with hd | hd
      · exact hrows d hd
      · rw [List.mem_singleton.mp hd]; exact ⟨by decide +kernel, by decide +kernel⟩)
    have hcut := rows_ok (es := ((ts.zip cs).map rowD).drop 1) (by simp; omega) (fun d hd => hrows d (List.mem_of_mem_drop hd))
    rw [List.drop_one] at hcut
    have hnil : okB 0 (.tuple []) = true ∧ PyData.depth (.tuple []) ≤ 3 := ⟨by decide +kernel, by decide +kernel⟩
    rw [wp_lif]
    refine ⟨by omega, ?_⟩
    simp [wp_set, wp_sret, wp_sretO, wp_expr, wp_for, wp_sif, wp_mif, wp_mand, wp_mor, wp_mnot, wp_mtest, wp_bnd, wp_ret, wp_some, wp_mcons, wp_nx, wp_bk, wp_ct, wp_asg, wp_mlc, wp_molc, wp_mcomp, wp_callV, wp_callO, wp_macons, wpr_maown, anQ_own, wpr_aug, auQ_val, wpr, rdQ_val, rdQ_own, wpr_rdO, wpr_wrOp, wpr_mopO, wpr_mmut, wpr_setI, owQ_own, wp_setO, wp_tup, wp_lst, wp_olst, wp_list, wp_tuple, wp_range1, wp_range2, wp_part, wp_slice, wp_tru, wp_andV, wp_orV, wp_notV, seqQ_rt, seqQ_ro, seqQ_bk, seqQ_ct, gath, scat, scat1, pos, ownAt, clQ_nx, clQ_rt, clQ_ro, lpQ_nx, lpQ_ct, lpQ_bk, lpQ_rt, lpQ_ro, mrg1, q_I0, q_I, q_ixL, q_ixT, q_ixO, q_lenL, q_lenT, q_lenO, q_sum, q_listL, q_listT, q_abs, q_max2, q_min2, q_slL, q_neg, q_append, q_setI, q_cMul, q_cDiv, q_cPos, q_cPow, at0, at1, at2, at3, at4, at5, ix0, ix1, okW, isOwn, wipeR, restR, wp_chain, wp_zip, wp_enum, wp_str, wp_slO, wp_rdON, wp_put, wp_swap, wp_str0, wp_mownS, wp_keys, wp_mdcomp, endQ_nx, endQ_rt, endO_ro, q_isiI, q_isiB, q_isiS, q_isiT, q_isiL, q_isiTL, q_all, q_any, q_ltS, q_addS, q_inS, q_ninS, q_lenS, q_lenD, q_zipT, q_zipL, q_catT, q_catL, q_slT, q_slS, q_tupleL, q_tupleT, q_tupO, q_lstO, q_listNL, q_listNT, q_insert, q_upper, q_nu2I, q_nu2B, q_nu1I, q_nu1B, q_strI, q_strB, q_strS, q_ixA_T, q_ixA_L, q_ixA_S, q_ixS, q_eqII, q_neII, q_eqSS, q_neSS, q_eqBB, q_neBB, q_dgetS, q_dgetI, q_dinS, q_dinI, at6, at7, gT, gsCons, gsNil, gN, keyOfD, someQ_some, someQ_if, someQ_map, q_allM, q_anyM, i_BN, i_BB, i_BI, i_BS, i_BL, i_BT, i_BD, i_IN, i_IB, i_II, i_IS, i_IL, i_IT, i_ID, i_SN, i_SB, i_SI, i_SS, i_SL, i_ST, i_SD, i_TN, i_TB, i_TI, i_TS, i_TL, i_TT, i_TD, i_LN, i_LB, i_LI, i_LS, i_LL, i_LT, i_LD, sizeLine_eq, -List.map_map]
    rw [cut1]
    refine odd_step fun od a b ho1 ho2 => ?_
    simp [wp_set, wp_sret, wp_sretO, wp_expr, wp_for, wp_sif, wp_mif, wp_mand, wp_mor, wp_mnot, wp_mtest, wp_bnd, wp_ret, wp_some, wp_mcons, wp_nx, wp_bk, wp_ct, wp_asg, wp_mlc, wp_molc, wp_mcomp, wp_callV, wp_callO, wp_macons, wpr_maown, anQ_own, wpr_aug, auQ_val, wpr, rdQ_val, rdQ_own, wpr_rdO, wpr_wrOp, wpr_mopO, wpr_mmut, wpr_setI, owQ_own, wp_setO, wp_tup, wp_lst, wp_olst, wp_list, wp_tuple, wp_range1, wp_range2, wp_part, wp_slice, wp_tru, wp_andV, wp_orV, wp_notV, seqQ_rt, seqQ_ro, seqQ_bk, seqQ_ct, gath, scat, scat1, pos, ownAt, clQ_nx, clQ_rt, clQ_ro, lpQ_nx, lpQ_ct, lpQ_bk, lpQ_rt, lpQ_ro, mrg1, q_I0, q_I, q_ixL, q_ixT, q_ixO, q_lenL, q_lenT, q_lenO, q_sum, q_listL, q_listT, q_abs, q_max2, q_min2, q_slL, q_neg, q_append, q_setI, q_cMul, q_cDiv, q_cPos, q_cPow, at0, at1, at2, at3, at4, at5, ix0, ix1, okW, isOwn, wipeR, restR, wp_chain, wp_zip, wp_enum, wp_str, wp_slO, wp_rdON, wp_put, wp_swap, wp_str0, wp_mownS, wp_keys, wp_mdcomp, endQ_nx, endQ_rt, endO_ro, q_isiI, q_isiB, q_isiS, q_isiT, q_isiL, q_isiTL, q_all, q_any, q_ltS, q_addS, q_inS, q_ninS, q_lenS, q_lenD, q_zipT, q_zipL, q_catT, q_catL, q_slT, q_slS, q_tupleL, q_tupleT, q_tupO, q_lstO, q_listNL, q_listNT, q_insert, q_upper, q_nu2I, q_nu2B, q_nu1I, q_nu1B, q_strI, q_strB, q_strS, q_ixA_T, q_ixA_L, q_ixA_S, q_ixS, q_eqII, q_neII, q_eqSS, q_neSS, q_eqBB, q_neBB, q_dgetS, q_dgetI, q_dinS, q_dinI, at6, at7, gT, gsCons, gsNil, gN, keyOfD, someQ_some, someQ_if, someQ_map, q_allM, q_anyM, i_BN, i_BB, i_BI, i_BS, i_BL, i_BT, i_BD, i_IN, i_IB, i_II, i_IS, i_IL, i_IT, i_ID, i_SN, i_SB, i_SI, i_SS, i_SL, i_ST, i_SD, i_TN, i_TB, i_TI, i_TS, i_TL, i_TT, i_TD, i_LN, i_LB, i_LI, i_LS, i_LL, i_LT, i_LD, sizeLine_eq, -List.map_map]
    refine wp_loop (fun i (ρ : List (Sl Empty)) => ∃ x, ρ = [.val (.list (ns.map PyData.int)), .val (.int k), bagS a b, .val (.tuple (ts.map tD)), .val (.tuple ((ts.zip cs).map rowD)), .val (.tuple ((ts2.zip cs2).map rowD)), .val (.tuple ws), x, x8, x9, .un]) ⟨_, rfl⟩ ?_ ?_
    · rintro i d ρ hd ⟨x, rfl⟩
      have hd := List.mem_of_getElem? hd
      have hdo : okB 0 d = true ∧ d.depth ≤ 3 := by
        simp only [List.mem_cons, List.not_mem_nil, or_false] at hd
        rcases hd with rfl | rfl | rfl | rfl | rfl | rfl
        · exact ⟨hother.1, by have := hother.2; omega⟩
        · exact ⟨hwide.1, by have := hwide.2; omega⟩
        · exact ⟨hcat.1, by have := hcat.2; omega⟩
        · exact ⟨hcut.1, by have := hcut.2; omega⟩
        · exact ⟨ho1, ho2⟩
        · exact hnil
      refine ⟨_, rfl, ?_⟩
      try simp [wp_set, wp_sret, wp_sretO, wp_expr, wp_for, wp_sif, wp_mif, wp_mand, wp_mor, wp_mnot, wp_mtest, wp_bnd, wp_ret, wp_some, wp_mcons, wp_nx, wp_bk, wp_ct, wp_asg, wp_mlc, wp_molc, wp_mcomp, wp_callV, wp_callO, wp_macons, wpr_maown, anQ_own, wpr_aug, auQ_val, wpr, rdQ_val, rdQ_own, wpr_rdO, wpr_wrOp, wpr_mopO, wpr_mmut, wpr_setI, owQ_own, wp_setO, wp_tup, wp_lst, wp_olst, wp_list, wp_tuple, wp_range1, wp_range2, wp_part, wp_slice, wp_tru, wp_andV, wp_orV, wp_notV, seqQ_rt, seqQ_ro, seqQ_bk, seqQ_ct, gath, scat, scat1, pos, ownAt, clQ_nx, clQ_rt, clQ_ro, lpQ_nx, lpQ_ct, lpQ_bk, lpQ_rt, lpQ_ro, mrg1, q_I0, q_I, q_ixL, q_ixT, q_ixO, q_lenL, q_lenT, q_lenO, q_sum, q_listL, q_listT, q_abs, q_max2, q_min2, q_slL, q_neg, q_append, q_setI, q_cMul, q_cDiv, q_cPos, q_cPow, at0, at1, at2, at3, at4, at5, ix0, ix1, okW, isOwn, wipeR, restR, wp_chain, wp_zip, wp_enum, wp_str, wp_slO, wp_rdON, wp_put, wp_swap, wp_str0, wp_mownS, wp_keys, wp_mdcomp, endQ_nx, endQ_rt, endO_ro, q_isiI, q_isiB, q_isiS, q_isiT, q_isiL, q_isiTL, q_all, q_any, q_ltS, q_addS, q_inS, q_ninS, q_lenS, q_lenD, q_zipT, q_zipL, q_catT, q_catL, q_slT, q_slS, q_tupleL, q_tupleT, q_tupO, q_lstO, q_listNL, q_listNT, q_insert, q_upper, q_nu2I, q_nu2B, q_nu1I, q_nu1B, q_strI, q_strB, q_strS, q_ixA_T, q_ixA_L, q_ixA_S, q_ixS, q_eqII, q_neII, q_eqSS, q_neSS, q_eqBB, q_neBB, q_dgetS, q_dgetI, q_dinS, q_dinI, at6, at7, gT, gsCons, gsNil, gN, keyOfD, someQ_some, someQ_if, someQ_map, q_allM, q_anyM, i_BN, i_BB, i_BI, i_BS, i_BL, i_BT, i_BD, i_IN, i_IB, i_II, i_IS, i_IL, i_IT, i_ID, i_SN, i_SB, i_SI, i_SS, i_SL, i_ST, i_SD, i_TN, i_TB, i_TI, i_TS, i_TL, i_TT, i_TD, i_LN, i_LB, i_LI, i_LS, i_LL, i_LT, i_LD, sizeLine_eq, -List.map_map]
      refine (hcall hdo.1 (by omega) (by omega) ?_).1
      rintro _ rfl
      try simp [wp_set, wp_sret, wp_sretO, wp_expr, wp_for, wp_sif, wp_mif, wp_mand, wp_mor, wp_mnot, wp_mtest, wp_bnd, wp_ret, wp_some, wp_mcons, wp_nx, wp_bk, wp_ct, wp_asg, wp_mlc, wp_molc, wp_mcomp, wp_callV, wp_callO, wp_macons, wpr_maown, anQ_own, wpr_aug, auQ_val, wpr, rdQ_val, rdQ_own, wpr_rdO, wpr_wrOp, wpr_mopO, wpr_mmut, wpr_setI, owQ_own, wp_setO, wp_tup, wp_lst, wp_olst, wp_list, wp_tuple, wp_range1, wp_range2, wp_part, wp_slice, wp_tru, wp_andV, wp_orV, wp_notV, seqQ_rt, seqQ_ro, seqQ_bk, seqQ_ct, gath, scat, scat1, pos, ownAt, clQ_nx, clQ_rt, clQ_ro, lpQ_nx, lpQ_ct, lpQ_bk, lpQ_rt, lpQ_ro, mrg1, q_I0, q_I, q_ixL, q_ixT, q_ixO, q_lenL, q_lenT, q_lenO, q_sum, q_listL, q_listT, q_abs, q_max2, q_min2, q_slL, q_neg, q_append, q_setI, q_cMul, q_cDiv, q_cPos, q_cPow, at0, at1, at2, at3, at4, at5, ix0, ix1, okW, isOwn, wipeR, restR, wp_chain, wp_zip, wp_enum, wp_str, wp_slO, wp_rdON, wp_put, wp_swap, wp_str0, wp_mownS, wp_keys, wp_mdcomp, endQ_nx, endQ_rt, endO_ro, q_isiI, q_isiB, q_isiS, q_isiT, q_isiL, q_isiTL, q_all, q_any, q_ltS, q_addS, q_inS, q_ninS, q_lenS, q_lenD, q_zipT, q_zipL, q_catT, q_catL, q_slT, q_slS, q_tupleL, q_tupleT, q_tupO, q_lstO, q_listNL, q_listNT, q_insert, q_upper, q_nu2I, q_nu2B, q_nu1I, q_nu1B, q_strI, q_strB, q_strS, q_ixA_T, q_ixA_L, q_ixA_S, q_ixS, q_eqII, q_neII, q_eqSS, q_neSS, q_eqBB, q_neBB, q_dgetS, q_dgetI, q_dinS, q_dinI, at6, at7, gT, gsCons, gsNil, gN, keyOfD, someQ_some, someQ_if, someQ_map, q_allM, q_anyM, i_BN, i_BB, i_BI, i_BS, i_BL, i_BT, i_BD, i_IN, i_IB, i_II, i_IS, i_IL, i_IT, i_ID, i_SN, i_SB, i_SI, i_SS, i_SL, i_ST, i_SD, i_TN, i_TB, i_TI, i_TS, i_TL, i_TT, i_TD, i_LN, i_LB, i_LI, i_LS, i_LL, i_LT, i_LD, sizeLine_eq, -List.map_map]
      refine (hcall hdo.1 (by omega) (by omega) ?_).2
      rintro _ rfl
      simp [wp_set, wp_sret, wp_sretO, wp_expr, wp_for, wp_sif, wp_mif, wp_mand, wp_mor, wp_mnot, wp_mtest, wp_bnd, wp_ret, wp_some, wp_mcons, wp_nx, wp_bk, wp_ct, wp_asg, wp_mlc, wp_molc, wp_mcomp, wp_callV, wp_callO, wp_macons, wpr_maown, anQ_own, wpr_aug, auQ_val, wpr, rdQ_val, rdQ_own, wpr_rdO, wpr_wrOp, wpr_mopO, wpr_mmut, wpr_setI, owQ_own, wp_setO, wp_tup, wp_lst, wp_olst, wp_list, wp_tuple, wp_range1, wp_range2, wp_part, wp_slice, wp_tru, wp_andV, wp_orV, wp_notV, seqQ_rt, seqQ_ro, seqQ_bk, seqQ_ct, gath, scat, scat1, pos, ownAt, clQ_nx, clQ_rt, clQ_ro, lpQ_nx, lpQ_ct, lpQ_bk, lpQ_rt, lpQ_ro, mrg1, q_I0, q_I, q_ixL, q_ixT, q_ixO, q_lenL, q_lenT, q_lenO, q_sum, q_listL, q_listT, q_abs, q_max2, q_min2, q_slL, q_neg, q_append, q_setI, q_cMul, q_cDiv, q_cPos, q_cPow, at0, at1, at2, at3, at4, at5, ix0, ix1, okW, isOwn, wipeR, restR, wp_chain, wp_zip, wp_enum, wp_str, wp_slO, wp_rdON, wp_put, wp_swap, wp_str0, wp_mownS, wp_keys, wp_mdcomp, endQ_nx, endQ_rt, endO_ro, q_isiI, q_isiB, q_isiS, q_isiT, q_isiL, q_isiTL, q_all, q_any, q_ltS, q_addS, q_inS, q_ninS, q_lenS, q_lenD, q_zipT, q_zipL, q_catT, q_catL, q_slT, q_slS, q_tupleL, q_tupleT, q_tupO, q_lstO, q_listNL, q_listNT, q_insert, q_upper, q_nu2I, q_nu2B, q_nu1I, q_nu1B, q_strI, q_strB, q_strS, q_ixA_T, q_ixA_L, q_ixA_S, q_ixS, q_eqII, q_neII, q_eqSS, q_neSS, q_eqBB, q_neBB, q_dgetS, q_dgetI, q_dinS, q_dinI, at6, at7, gT, gsCons, gsNil, gN, keyOfD, someQ_some, someQ_if, someQ_map, q_allM, q_anyM, i_BN, i_BB, i_BI, i_BS, i_BL, i_BT, i_BD, i_IN, i_IB, i_II, i_IS, i_IL, i_IT, i_ID, i_SN, i_SB, i_SI, i_SS, i_SL, i_ST, i_SD, i_TN, i_TB, i_TI, i_TS, i_TL, i_TT, i_TD, i_LN, i_LB, i_LI, i_LS, i_LL, i_LT, i_LD, sizeLine_eq, -List.map_map]
    rintro ρ ⟨x, rfl⟩
    rw [seqQ_nx]
    try simp [wp_set, wp_sret, wp_sretO, wp_expr, wp_for, wp_sif, wp_mif, wp_mand, wp_mor, wp_mnot, wp_mtest, wp_bnd, wp_ret, wp_some, wp_mcons, wp_nx, wp_bk, wp_ct, wp_asg, wp_mlc, wp_molc, wp_mcomp, wp_callV, wp_callO, wp_macons, wpr_maown, anQ_own, wpr_aug, auQ_val, wpr, rdQ_val, rdQ_own, wpr_rdO, wpr_wrOp, wpr_mopO, wpr_mmut, wpr_setI, owQ_own, wp_setO, wp_tup, wp_lst, wp_olst, wp_list, wp_tuple, wp_range1, wp_range2, wp_part, wp_slice, wp_tru, wp_andV, wp_orV, wp_notV, seqQ_rt, seqQ_ro, seqQ_bk, seqQ_ct, gath, scat, scat1, pos, ownAt, clQ_nx, clQ_rt, clQ_ro, lpQ_nx, lpQ_ct, lpQ_bk, lpQ_rt, lpQ_ro, mrg1, q_I0, q_I, q_ixL, q_ixT, q_ixO, q_lenL, q_lenT, q_lenO, q_sum, q_listL, q_listT, q_abs, q_max2, q_min2, q_slL, q_neg, q_append, q_setI, q_cMul, q_cDiv, q_cPos, q_cPow, at0, at1, at2, at3, at4, at5, ix0, ix1, okW, isOwn, wipeR, restR, wp_chain, wp_zip, wp_enum, wp_str, wp_slO, wp_rdON, wp_put, wp_swap, wp_str0, wp_mownS, wp_keys, wp_mdcomp, endQ_nx, endQ_rt, endO_ro, q_isiI, q_isiB, q_isiS, q_isiT, q_isiL, q_isiTL, q_all, q_any, q_ltS, q_addS, q_inS, q_ninS, q_lenS, q_lenD, q_zipT, q_zipL, q_catT, q_catL, q_slT, q_slS, q_tupleL, q_tupleT, q_tupO, q_lstO, q_listNL, q_listNT, q_insert, q_upper, q_nu2I, q_nu2B, q_nu1I, q_nu1B, q_strI, q_strB, q_strS, q_ixA_T, q_ixA_L, q_ixA_S, q_ixS, q_eqII, q_neII, q_eqSS, q_neSS, q_eqBB, q_neBB, q_dgetS, q_dgetI, q_dinS, q_dinI, at6, at7, gT, gsCons, gsNil, gN, keyOfD, someQ_some, someQ_if, someQ_map, q_allM, q_anyM, i_BN, i_BB, i_BI, i_BS, i_BL, i_BT, i_BD, i_IN, i_IB, i_II, i_IS, i_IL, i_IT, i_ID, i_SN, i_SB, i_SI, i_SS, i_SL, i_ST, i_SD, i_TN, i_TB, i_TI, i_TS, i_TL, i_TT, i_TD, i_LN, i_LB, i_LI, i_LS, i_LL, i_LT, i_LD, sizeLine_eq, -List.map_map]
    refine wp_loop (fun i (ρ : List (Sl Empty)) => ∃ a b x8 x9 th, okB i th = true ∧ th.depth ≤ 2 + 3 * i ∧ ρ = [.val (.list (ns.map PyData.int)), .val (.int k), bagS a b, .val (.tuple (ts.map tD)), .val th, .val (.tuple ((ts2.zip cs2).map rowD)), .val (.tuple ws), x, x8, x9, .un]) ⟨_, _, _, _, _, hthing.1, hthing.2, rfl⟩ ?_ ?_
    · rintro i d ρ hd ⟨a, b, x8, x9, th, hth, htd, rfl⟩
      obtain ⟨hi6, rfl⟩ := rng_get hd
      have hi6 : i < 6 := by simpa using hi6
      refine ⟨_, rfl, ?_⟩
      simp only [List.set_cons_succ, List.set_cons_zero, Int.zero_add]
      rw [wp_seq]
      try simp [wp_set, wp_sret, wp_sretO, wp_expr, wp_for, wp_sif, wp_mif, wp_mand, wp_mor, wp_mnot, wp_mtest, wp_bnd, wp_ret, wp_some, wp_mcons, wp_nx, wp_bk, wp_ct, wp_asg, wp_mlc, wp_molc, wp_mcomp, wp_callV, wp_callO, wp_macons, wpr_maown, anQ_own, wpr_aug, auQ_val, wpr, rdQ_val, rdQ_own, wpr_rdO, wpr_wrOp, wpr_mopO, wpr_mmut, wpr_setI, owQ_own, wp_setO, wp_tup, wp_lst, wp_olst, wp_list, wp_tuple, wp_range1, wp_range2, wp_part, wp_slice, wp_tru, wp_andV, wp_orV, wp_notV, seqQ_rt, seqQ_ro, seqQ_bk, seqQ_ct, gath, scat, scat1, pos, ownAt, clQ_nx, clQ_rt, clQ_ro, lpQ_nx, lpQ_ct, lpQ_bk, lpQ_rt, lpQ_ro, mrg1, q_I0, q_I, q_ixL, q_ixT, q_ixO, q_lenL, q_lenT, q_lenO, q_sum, q_listL, q_listT, q_abs, q_max2, q_min2, q_slL, q_neg, q_append, q_setI, q_cMul, q_cDiv, q_cPos, q_cPow, at0, at1, at2, at3, at4, at5, ix0, ix1, okW, isOwn, wipeR, restR, wp_chain, wp_zip, wp_enum, wp_str, wp_slO, wp_rdON, wp_put, wp_swap, wp_str0, wp_mownS, wp_keys, wp_mdcomp, endQ_nx, endQ_rt, endO_ro, q_isiI, q_isiB, q_isiS, q_isiT, q_isiL, q_isiTL, q_all, q_any, q_ltS, q_addS, q_inS, q_ninS, q_lenS, q_lenD, q_zipT, q_zipL, q_catT, q_catL, q_slT, q_slS, q_tupleL, q_tupleT, q_tupO, q_lstO, q_listNL, q_listNT, q_insert, q_upper, q_nu2I, q_nu2B, q_nu1I, q_nu1B, q_strI, q_strB, q_strS, q_ixA_T, q_ixA_L, q_ixA_S, q_ixS, q_eqII, q_neII, q_eqSS, q_neSS, q_eqBB, q_neBB, q_dgetS, q_dgetI, q_dinS, q_dinI, at6, at7, gT, gsCons, gsNil, gN, keyOfD, someQ_some, someQ_if, someQ_map, q_allM, q_anyM, i_BN, i_BB, i_BI, i_BS, i_BL, i_BT, i_BD, i_IN, i_IB, i_II, i_IS, i_IL, i_IT, i_ID, i_SN, i_SB, i_SI, i_SS, i_SL, i_ST, i_SD, i_TN, i_TB, i_TI, i_TS, i_TL, i_TT, i_TD, i_LN, i_LB, i_LI, i_LS, i_LL, i_LT, i_LD, sizeLine_eq, -List.map_map]
      refine (hcall hth (by omega) (by omega) ?_).1
      rintro _ rfl
      try simp [wp_set, wp_sret, wp_sretO, wp_expr, wp_for, wp_sif, wp_mif, wp_mand, wp_mor, wp_mnot, wp_mtest, wp_bnd, wp_ret, wp_some, wp_mcons, wp_nx, wp_bk, wp_ct, wp_asg, wp_mlc, wp_molc, wp_mcomp, wp_callV, wp_callO, wp_macons, wpr_maown, anQ_own, wpr_aug, auQ_val, wpr, rdQ_val, rdQ_own, wpr_rdO, wpr_wrOp, wpr_mopO, wpr_mmut, wpr_setI, owQ_own, wp_setO, wp_tup, wp_lst, wp_olst, wp_list, wp_tuple, wp_range1, wp_range2, wp_part, wp_slice, wp_tru, wp_andV, wp_orV, wp_notV, seqQ_rt, seqQ_ro, seqQ_bk, seqQ_ct, gath, scat, scat1, pos, ownAt, clQ_nx, clQ_rt, clQ_ro, lpQ_nx, lpQ_ct, lpQ_bk, lpQ_rt, lpQ_ro, mrg1, q_I0, q_I, q_ixL, q_ixT, q_ixO, q_lenL, q_lenT, q_lenO, q_sum, q_listL, q_listT, q_abs, q_max2, q_min2, q_slL, q_neg, q_append, q_setI, q_cMul, q_cDiv, q_cPos, q_cPow, at0, at1, at2, at3, at4, at5, ix0, ix1, okW, isOwn, wipeR, restR, wp_chain, wp_zip, wp_enum, wp_str, wp_slO, wp_rdON, wp_put, wp_swap, wp_str0, wp_mownS, wp_keys, wp_mdcomp, endQ_nx, endQ_rt, endO_ro, q_isiI, q_isiB, q_isiS, q_isiT, q_isiL, q_isiTL, q_all, q_any, q_ltS, q_addS, q_inS, q_ninS, q_lenS, q_lenD, q_zipT, q_zipL, q_catT, q_catL, q_slT, q_slS, q_tupleL, q_tupleT, q_tupO, q_lstO, q_listNL, q_listNT, q_insert, q_upper, q_nu2I, q_nu2B, q_nu1I, q_nu1B, q_strI, q_strB, q_strS, q_ixA_T, q_ixA_L, q_ixA_S, q_ixS, q_eqII, q_neII, q_eqSS, q_neSS, q_eqBB, q_neBB, q_dgetS, q_dgetI, q_dinS, q_dinI, at6, at7, gT, gsCons, gsNil, gN, keyOfD, someQ_some, someQ_if, someQ_map, q_allM, q_anyM, i_BN, i_BB, i_BI, i_BS, i_BL, i_BT, i_BD, i_IN, i_IB, i_II, i_IS, i_IL, i_IT, i_ID, i_SN, i_SB, i_SI, i_SS, i_SL, i_ST, i_SD, i_TN, i_TB, i_TI, i_TS, i_TL, i_TT, i_TD, i_LN, i_LB, i_LI, i_LS, i_LL, i_LT, i_LD, sizeLine_eq, -List.map_map]
      rw [seqQ_nx, wp_seq]
      try simp [wp_set, wp_sret, wp_sretO, wp_expr, wp_for, wp_sif, wp_mif, wp_mand, wp_mor, wp_mnot, wp_mtest, wp_bnd, wp_ret, wp_some, wp_mcons, wp_nx, wp_bk, wp_ct, wp_asg, wp_mlc, wp_molc, wp_mcomp, wp_callV, wp_callO, wp_macons, wpr_maown, anQ_own, wpr_aug, auQ_val, wpr, rdQ_val, rdQ_own, wpr_rdO, wpr_wrOp, wpr_mopO, wpr_mmut, wpr_setI, owQ_own, wp_setO, wp_tup, wp_lst, wp_olst, wp_list, wp_tuple, wp_range1, wp_range2, wp_part, wp_slice, wp_tru, wp_andV, wp_orV, wp_notV, seqQ_rt, seqQ_ro, seqQ_bk, seqQ_ct, gath, scat, scat1, pos, ownAt, clQ_nx, clQ_rt, clQ_ro, lpQ_nx, lpQ_ct, lpQ_bk, lpQ_rt, lpQ_ro, mrg1, q_I0, q_I, q_ixL, q_ixT, q_ixO, q_lenL, q_lenT, q_lenO, q_sum, q_listL, q_listT, q_abs, q_max2, q_min2, q_slL, q_neg, q_append, q_setI, q_cMul, q_cDiv, q_cPos, q_cPow, at0, at1, at2, at3, at4, at5, ix0, ix1, okW, isOwn, wipeR, restR, wp_chain, wp_zip, wp_enum, wp_str, wp_slO, wp_rdON, wp_put, wp_swap, wp_str0, wp_mownS, wp_keys, wp_mdcomp, endQ_nx, endQ_rt, endO_ro, q_isiI, q_isiB, q_isiS, q_isiT, q_isiL, q_isiTL, q_all, q_any, q_ltS, q_addS, q_inS, q_ninS, q_lenS, q_lenD, q_zipT, q_zipL, q_catT, q_catL, q_slT, q_slS, q_tupleL, q_tupleT, q_tupO, q_lstO, q_listNL, q_listNT, q_insert, q_upper, q_nu2I, q_nu2B, q_nu1I, q_nu1B, q_strI, q_strB, q_strS, q_ixA_T, q_ixA_L, q_ixA_S, q_ixS, q_eqII, q_neII, q_eqSS, q_neSS, q_eqBB, q_neBB, q_dgetS, q_dgetI, q_dinS, q_dinI, at6, at7, gT, gsCons, gsNil, gN, keyOfD, someQ_some, someQ_if, someQ_map, q_allM, q_anyM, i_BN, i_BB, i_BI, i_BS, i_BL, i_BT, i_BD, i_IN, i_IB, i_II, i_IS, i_IL, i_IT, i_ID, i_SN, i_SB, i_SI, i_SS, i_SL, i_ST, i_SD, i_TN, i_TB, i_TI, i_TS, i_TL, i_TT, i_TD, i_LN, i_LB, i_LI, i_LS, i_LL, i_LT, i_LD, sizeLine_eq, -List.map_map]
      refine (hcall hth (by omega) (by omega) ?_).2
      rintro _ rfl
      try simp [wp_set, wp_sret, wp_sretO, wp_expr, wp_for, wp_sif, wp_mif, wp_mand, wp_mor, wp_mnot, wp_mtest, wp_bnd, wp_ret, wp_some, wp_mcons, wp_nx, wp_bk, wp_ct, wp_asg, wp_mlc, wp_molc, wp_mcomp, wp_callV, wp_callO, wp_macons, wpr_maown, anQ_own, wpr_aug, auQ_val, wpr, rdQ_val, rdQ_own, wpr_rdO, wpr_wrOp, wpr_mopO, wpr_mmut, wpr_setI, owQ_own, wp_setO, wp_tup, wp_lst, wp_olst, wp_list, wp_tuple, wp_range1, wp_range2, wp_part, wp_slice, wp_tru, wp_andV, wp_orV, wp_notV, seqQ_rt, seqQ_ro, seqQ_bk, seqQ_ct, gath, scat, scat1, pos, ownAt, clQ_nx, clQ_rt, clQ_ro, lpQ_nx, lpQ_ct, lpQ_bk, lpQ_rt, lpQ_ro, mrg1, q_I0, q_I, q_ixL, q_ixT, q_ixO, q_lenL, q_lenT, q_lenO, q_sum, q_listL, q_listT, q_abs, q_max2, q_min2, q_slL, q_neg, q_append, q_setI, q_cMul, q_cDiv, q_cPos, q_cPow, at0, at1, at2, at3, at4, at5, ix0, ix1, okW, isOwn, wipeR, restR, wp_chain, wp_zip, wp_enum, wp_str, wp_slO, wp_rdON, wp_put, wp_swap, wp_str0, wp_mownS, wp_keys, wp_mdcomp, endQ_nx, endQ_rt, endO_ro, q_isiI, q_isiB, q_isiS, q_isiT, q_isiL, q_isiTL, q_all, q_any, q_ltS, q_addS, q_inS, q_ninS, q_lenS, q_lenD, q_zipT, q_zipL, q_catT, q_catL, q_slT, q_slS, q_tupleL, q_tupleT, q_tupO, q_lstO, q_listNL, q_listNT, q_insert, q_upper, q_nu2I, q_nu2B, q_nu1I, q_nu1B, q_strI, q_strB, q_strS, q_ixA_T, q_ixA_L, q_ixA_S, q_ixS, q_eqII, q_neII, q_eqSS, q_neSS, q_eqBB, q_neBB, q_dgetS, q_dgetI, q_dinS, q_dinI, at6, at7, gT, gsCons, gsNil, gN, keyOfD, someQ_some, someQ_if, someQ_map, q_allM, q_anyM, i_BN, i_BB, i_BI, i_BS, i_BL, i_BT, i_BD, i_IN, i_IB, i_II, i_IS, i_IL, i_IT, i_ID, i_SN, i_SB, i_SI, i_SS, i_SL, i_ST, i_SD, i_TN, i_TB, i_TI, i_TS, i_TL, i_TT, i_TD, i_LN, i_LB, i_LI, i_LS, i_LL, i_LT, i_LD, sizeLine_eq, -List.map_map]
      rw [seqQ_nx]
      try simp [wp_set, wp_sret, wp_sretO, wp_expr, wp_for, wp_sif, wp_mif, wp_mand, wp_mor, wp_mnot, wp_mtest, wp_bnd, wp_ret, wp_some, wp_mcons, wp_nx, wp_bk, wp_ct, wp_asg, wp_mlc, wp_molc, wp_mcomp, wp_callV, wp_callO, wp_macons, wpr_maown, anQ_own, wpr_aug, auQ_val, wpr, rdQ_val, rdQ_own, wpr_rdO, wpr_wrOp, wpr_mopO, wpr_mmut, wpr_setI, owQ_own, wp_setO, wp_tup, wp_lst, wp_olst, wp_list, wp_tuple, wp_range1, wp_range2, wp_part, wp_slice, wp_tru, wp_andV, wp_orV, wp_notV, seqQ_rt, seqQ_ro, seqQ_bk, seqQ_ct, gath, scat, scat1, pos, ownAt, clQ_nx, clQ_rt, clQ_ro, lpQ_nx, lpQ_ct, lpQ_bk, lpQ_rt, lpQ_ro, mrg1, q_I0, q_I, q_ixL, q_ixT, q_ixO, q_lenL, q_lenT, q_lenO, q_sum, q_listL, q_listT, q_abs, q_max2, q_min2, q_slL, q_neg, q_append, q_setI, q_cMul, q_cDiv, q_cPos, q_cPow, at0, at1, at2, at3, at4, at5, ix0, ix1, okW, isOwn, wipeR, restR, wp_chain, wp_zip, wp_enum, wp_str, wp_slO, wp_rdON, wp_put, wp_swap, wp_str0, wp_mownS, wp_keys, wp_mdcomp, endQ_nx, endQ_rt, endO_ro, q_isiI, q_isiB, q_isiS, q_isiT, q_isiL, q_isiTL, q_all, q_any, q_ltS, q_addS, q_inS, q_ninS, q_lenS, q_lenD, q_zipT, q_zipL, q_catT, q_catL, q_slT, q_slS, q_tupleL, q_tupleT, q_tupO, q_lstO, q_listNL, q_listNT, q_insert, q_upper, q_nu2I, q_nu2B, q_nu1I, q_nu1B, q_strI, q_strB, q_strS, q_ixA_T, q_ixA_L, q_ixA_S, q_ixS, q_eqII, q_neII, q_eqSS, q_neSS, q_eqBB, q_neBB, q_dgetS, q_dgetI, q_dinS, q_dinI, at6, at7, gT, gsCons, gsNil, gN, keyOfD, someQ_some, someQ_if, someQ_map, q_allM, q_anyM, i_BN, i_BB, i_BI, i_BS, i_BL, i_BT, i_BD, i_IN, i_IB, i_II, i_IS, i_IL, i_IT, i_ID, i_SN, i_SB, i_SI, i_SS, i_SL, i_ST, i_SD, i_TN, i_TB, i_TI, i_TS, i_TL, i_TT, i_TD, i_LN, i_LB, i_LI, i_LS, i_LL, i_LT, i_LD, sizeLine_eq, -List.map_map]
      refine spoilt_step 30 i th a b hth (by omega) (by omega) fun d' a' b' o1 o2 => ?_
      try simp [wp_set, wp_sret, wp_sretO, wp_expr, wp_for, wp_sif, wp_mif, wp_mand, wp_mor, wp_mnot, wp_mtest, wp_bnd, wp_ret, wp_some, wp_mcons, wp_nx, wp_bk, wp_ct, wp_asg, wp_mlc, wp_molc, wp_mcomp, wp_callV, wp_callO, wp_macons, wpr_maown, anQ_own, wpr_aug, auQ_val, wpr, rdQ_val, rdQ_own, wpr_rdO, wpr_wrOp, wpr_mopO, wpr_mmut, wpr_setI, owQ_own, wp_setO, wp_tup, wp_lst, wp_olst, wp_list, wp_tuple, wp_range1, wp_range2, wp_part, wp_slice, wp_tru, wp_andV, wp_orV, wp_notV, seqQ_rt, seqQ_ro, seqQ_bk, seqQ_ct, gath, scat, scat1, pos, ownAt, clQ_nx, clQ_rt, clQ_ro, lpQ_nx, lpQ_ct, lpQ_bk, lpQ_rt, lpQ_ro, mrg1, q_I0, q_I, q_ixL, q_ixT, q_ixO, q_lenL, q_lenT, q_lenO, q_sum, q_listL, q_listT, q_abs, q_max2, q_min2, q_slL, q_neg, q_append, q_setI, q_cMul, q_cDiv, q_cPos, q_cPow, at0, at1, at2, at3, at4, at5, ix0, ix1, okW, isOwn, wipeR, restR, wp_chain, wp_zip, wp_enum, wp_str, wp_slO, wp_rdON, wp_put, wp_swap, wp_str0, wp_mownS, wp_keys, wp_mdcomp, endQ_nx, endQ_rt, endO_ro, q_isiI, q_isiB, q_isiS, q_isiT, q_isiL, q_isiTL, q_all, q_any, q_ltS, q_addS, q_inS, q_ninS, q_lenS, q_lenD, q_zipT, q_zipL, q_catT, q_catL, q_slT, q_slS, q_tupleL, q_tupleT, q_tupO, q_lstO, q_listNL, q_listNT, q_insert, q_upper, q_nu2I, q_nu2B, q_nu1I, q_nu1B, q_strI, q_strB, q_strS, q_ixA_T, q_ixA_L, q_ixA_S, q_ixS, q_eqII, q_neII, q_eqSS, q_neSS, q_eqBB, q_neBB, q_dgetS, q_dgetI, q_dinS, q_dinI, at6, at7, gT, gsCons, gsNil, gN, keyOfD, someQ_some, someQ_if, someQ_map, q_allM, q_anyM, i_BN, i_BB, i_BI, i_BS, i_BL, i_BT, i_BD, i_IN, i_IB, i_II, i_IS, i_IL, i_IT, i_ID, i_SN, i_SB, i_SI, i_SS, i_SL, i_ST, i_SD, i_TN, i_TB, i_TI, i_TS, i_TL, i_TT, i_TD, i_LN, i_LB, i_LI, i_LS, i_LL, i_LT, i_LD, sizeLine_eq, -List.map_map]
      exact ⟨_, _, _, _, _, o1, by omega, ⟨rfl, rfl⟩, rfl, rfl, rfl⟩
    · rintro ρ ⟨a, b, x8, x9, th, hth, htd, rfl⟩
      try simp [wp_set, wp_sret, wp_sretO, wp_expr, wp_for, wp_sif, wp_mif, wp_mand, wp_mor, wp_mnot, wp_mtest, wp_bnd, wp_ret, wp_some, wp_mcons, wp_nx, wp_bk, wp_ct, wp_asg, wp_mlc, wp_molc, wp_mcomp, wp_callV, wp_callO, wp_macons, wpr_maown, anQ_own, wpr_aug, auQ_val, wpr, rdQ_val, rdQ_own, wpr_rdO, wpr_wrOp, wpr_mopO, wpr_mmut, wpr_setI, owQ_own, wp_setO, wp_tup, wp_lst, wp_olst, wp_list, wp_tuple, wp_range1, wp_range2, wp_part, wp_slice, wp_tru, wp_andV, wp_orV, wp_notV, seqQ_rt, seqQ_ro, seqQ_bk, seqQ_ct, gath, scat, scat1, pos, ownAt, clQ_nx, clQ_rt, clQ_ro, lpQ_nx, lpQ_ct, lpQ_bk, lpQ_rt, lpQ_ro, mrg1, q_I0, q_I, q_ixL, q_ixT, q_ixO, q_lenL, q_lenT, q_lenO, q_sum, q_listL, q_listT, q_abs, q_max2, q_min2, q_slL, q_neg, q_append, q_setI, q_cMul, q_cDiv, q_cPos, q_cPow, at0, at1, at2, at3, at4, at5, ix0, ix1, okW, isOwn, wipeR, restR, wp_chain, wp_zip, wp_enum, wp_str, wp_slO, wp_rdON, wp_put, wp_swap, wp_str0, wp_mownS, wp_keys, wp_mdcomp, endQ_nx, endQ_rt, endO_ro, q_isiI, q_isiB, q_isiS, q_isiT, q_isiL, q_isiTL, q_all, q_any, q_ltS, q_addS, q_inS, q_ninS, q_lenS, q_lenD, q_zipT, q_zipL, q_catT, q_catL, q_slT, q_slS, q_tupleL, q_tupleT, q_tupO, q_lstO, q_listNL, q_listNT, q_insert, q_upper, q_nu2I, q_nu2B, q_nu1I, q_nu1B, q_strI, q_strB, q_strS, q_ixA_T, q_ixA_L, q_ixA_S, q_ixS, q_eqII, q_neII, q_eqSS, q_neSS, q_eqBB, q_neBB, q_dgetS, q_dgetI, q_dinS, q_dinI, at6, at7, gT, gsCons, gsNil, gN, keyOfD, someQ_some, someQ_if, someQ_map, q_allM, q_anyM, i_BN, i_BB, i_BI, i_BS, i_BL, i_BT, i_BD, i_IN, i_IB, i_II, i_IS, i_IL, i_IT, i_ID, i_SN, i_SB, i_SI, i_SS, i_SL, i_ST, i_SD, i_TN, i_TB, i_TI, i_TS, i_TL, i_TT, i_TD, i_LN, i_LB, i_LI, i_LS, i_LL, i_LT, i_LD, sizeLine_eq, -List.map_map]
  · rintro ρ ⟨x1, x2, x3, x4, x5, x6, x7, x8, x9, rfl⟩
    simp [wp_set, wp_sret, wp_sretO, wp_expr, wp_for, wp_sif, wp_mif, wp_mand, wp_mor, wp_mnot, wp_mtest, wp_bnd, wp_ret, wp_some, wp_mcons, wp_nx, wp_bk, wp_ct, wp_asg, wp_mlc, wp_molc, wp_mcomp, wp_callV, wp_callO, wp_macons, wpr_maown, anQ_own, wpr_aug, auQ_val, wpr, rdQ_val, rdQ_own, wpr_rdO, wpr_wrOp, wpr_mopO, wpr_mmut, wpr_setI, owQ_own, wp_setO, wp_tup, wp_lst, wp_olst, wp_list, wp_tuple, wp_range1, wp_range2, wp_part, wp_slice, wp_tru, wp_andV, wp_orV, wp_notV, seqQ_rt, seqQ_ro, seqQ_bk, seqQ_ct, gath, scat, scat1, pos, ownAt, clQ_nx, clQ_rt, clQ_ro, lpQ_nx, lpQ_ct, lpQ_bk, lpQ_rt, lpQ_ro, mrg1, q_I0, q_I, q_ixL, q_ixT, q_ixO, q_lenL, q_lenT, q_lenO, q_sum, q_listL, q_listT, q_abs, q_max2, q_min2, q_slL, q_neg, q_append, q_setI, q_cMul, q_cDiv, q_cPos, q_cPow, at0, at1, at2, at3, at4, at5, ix0, ix1, okW, isOwn, wipeR, restR, wp_chain, wp_zip, wp_enum, wp_str, wp_slO, wp_rdON, wp_put, wp_swap, wp_str0, wp_mownS, wp_keys, wp_mdcomp, endQ_nx, endQ_rt, endO_ro, q_isiI, q_isiB, q_isiS, q_isiT, q_isiL, q_isiTL, q_all, q_any, q_ltS, q_addS, q_inS, q_ninS, q_lenS, q_lenD, q_zipT, q_zipL, q_catT, q_catL, q_slT, q_slS, q_tupleL, q_tupleT, q_tupO, q_lstO, q_listNL, q_listNT, q_insert, q_upper, q_nu2I, q_nu2B, q_nu1I, q_nu1B, q_strI, q_strB, q_strS, q_ixA_T, q_ixA_L, q_ixA_S, q_ixS, q_eqII, q_neII, q_eqSS, q_neSS, q_eqBB, q_neBB, q_dgetS, q_dgetI, q_dinS, q_dinI, at6, at7, gT, gsCons, gsNil, gN, keyOfD, someQ_some, someQ_if, someQ_map, q_allM, q_anyM, i_BN, i_BB, i_BI, i_BS, i_BL, i_BT, i_BD, i_IN, i_IB, i_II, i_IS, i_IL, i_IT, i_ID, i_SN, i_SB, i_SI, i_SS, i_SL, i_ST, i_SD, i_TN, i_TB, i_TI, i_TS, i_TL, i_TT, i_TD, i_LN, i_LB, i_LI, i_LS, i_LL, i_LT, i_LD, sizeLine_eq, seqQ_nx]
end K15
set_option Elab.async false
set_option linter.all false
set_option maxRecDepth 100000
set_option maxHeartbeats 4000000
namespace K15
open PySem PySem.Spec PyProof.Rows L2 DL RG
theorem all_mk {l : PySem.W.OpenLaw} {w : World} {K : PySem.W.Frag} {h : Heap} {mg : Str → Option Value} {fa : Addr} (X : K.In h) (G : h.Ns mainGlobals mg) (hfa : mg "law" = some (.ref fa))
    {od0 an0 : Option Addr} {sl0 : Array (Option Value)} {oc0 kV0 dc0 pm0 cd0 ct0 : Value} {f0 : Addr}
    {od1 an1 : Option Addr} {sl1 : Array (Option Value)} {oc1 kV1 dc1 pm1 cd1 ct1 : Value} {f1 : Addr}
    {od2 an2 : Option Addr} {sl2 : Array (Option Value)} {oc2 kV2 dc2 pm2 cd2 ct2 : Value} {f2 : Addr}
    {od3 an3 : Option Addr} {sl3 : Array (Option Value)} {oc3 kV3 dc3 pm3 cd3 ct3 : Value} {f3 : Addr}
    {od4 an4 : Option Addr} {sl4 : Array (Option Value)} {oc4 kV4 dc4 pm4 cd4 ct4 : Value} {f4 : Addr}
    {od5 an5 : Option Addr} {sl5 : Array (Option Value)} {oc5 kV5 dc5 pm5 cd5 ct5 : Value} {f5 : Addr}
    {od6 an6 : Option Addr} {sl6 : Array (Option Value)} {oc6 kV6 dc6 pm6 cd6 ct6 : Value} {f6 : Addr}
    {od7 an7 : Option Addr} {sl7 : Array (Option Value)} {oc7 kV7 dc7 pm7 cd7 ct7 : Value} {f7 : Addr}
    {od8 an8 : Option Addr} {sl8 : Array (Option Value)} {oc8 kV8 dc8 pm8 cd8 ct8 : Value} {f8 : Addr}
    {od9 an9 : Option Addr} {sl9 : Array (Option Value)} {oc9 kV9 dc9 pm9 cd9 ct9 : Value} {f9 : Addr}
    {od10 an10 : Option Addr} {sl10 : Array (Option Value)} {oc10 kV10 dc10 pm10 cd10 ct10 : Value} {f10 : Addr}
    {od11 an11 : Option Addr} {sl11 : Array (Option Value)} {oc11 kV11 dc11 pm11 cd11 ct11 : Value} {f11 : Addr}
    {od12 an12 : Option Addr} {sl12 : Array (Option Value)} {oc12 kV12 dc12 pm12 cd12 ct12 : Value} {f12 : Addr}
    {od13 an13 : Option Addr} {sl13 : Array (Option Value)} {oc13 kV13 dc13 pm13 cd13 ct13 : Value} {f13 : Addr}
    {od14 an14 : Option Addr} {sl14 : Array (Option Value)} {oc14 kV14 dc14 pm14 cd14 ct14 : Value} {f14 : Addr}
    {od15 an15 : Option Addr} {sl15 : Array (Option Value)} {oc15 kV15 dc15 pm15 cd15 ct15 : Value} {f15 : Addr}
    {od16 an16 : Option Addr} {sl16 : Array (Option Value)} {oc16 kV16 dc16 pm16 cd16 ct16 : Value} {f16 : Addr}
    {od17 an17 : Option Addr} {sl17 : Array (Option Value)} {oc17 kV17 dc17 pm17 cd17 ct17 : Value} {f17 : Addr}
    {od18 an18 : Option Addr} {sl18 : Array (Option Value)} {oc18 kV18 dc18 pm18 cd18 ct18 : Value} {f18 : Addr}
    {t_LETTERS : Tok}
    {t_MOST_BASE : Tok}
    {t_MOST_COST : Tok}
    {t_MOST_DELAY : Tok}
    {t_MOST_STORES : Tok}
    (a0 : PySem.W.nsIn K mainGlobals "is_whole" = some (some (.ref f0))) (l0 : K.lookup f0 = some ⟨oc0, od0, .func (PySem.W.fnOf "is_whole" "is_whole" (defArgs s_is_whole) (defBody s_is_whole) (defScope s_is_whole) .none kV0 dc0 pm0 an0 cd0 ct0), sl0⟩) (c0 : PySem.W.codeIn K cd0 "is_whole" = true) (k0 : PySem.W.keepIn K (.ref f0) = true)
    (a1 : PySem.W.nsIn K mainGlobals "is_within" = some (some (.ref f1))) (l1 : K.lookup f1 = some ⟨oc1, od1, .func (PySem.W.fnOf "is_within" "is_within" (defArgs s_is_within) (defBody s_is_within) (defScope s_is_within) .none kV1 dc1 pm1 an1 cd1 ct1), sl1⟩) (c1 : PySem.W.codeIn K cd1 "is_within" = true) (k1 : PySem.W.keepIn K (.ref f1) = true)
    (a2 : PySem.W.nsIn K mainGlobals "is_name" = some (some (.ref f2))) (l2 : K.lookup f2 = some ⟨oc2, od2, .func (PySem.W.fnOf "is_name" "is_name" (defArgs s_is_name) (defBody s_is_name) (defScope s_is_name) .none kV2 dc2 pm2 an2 cd2 ct2), sl2⟩) (c2 : PySem.W.codeIn K cd2 "is_name" = true) (k2 : PySem.W.keepIn K (.ref f2) = true)
    (a3 : PySem.W.nsIn K mainGlobals "is_store" = some (some (.ref f3))) (l3 : K.lookup f3 = some ⟨oc3, od3, .func (PySem.W.fnOf "is_store" "is_store" (defArgs s_is_store) (defBody s_is_store) (defScope s_is_store) .none kV3 dc3 pm3 an3 cd3 ct3), sl3⟩) (c3 : PySem.W.codeIn K cd3 "is_store" = true) (k3 : PySem.W.keepIn K (.ref f3) = true)
    (a4 : PySem.W.nsIn K mainGlobals "way_up" = some (some (.ref f4))) (l4 : K.lookup f4 = some ⟨oc4, od4, .func (PySem.W.fnOf "way_up" "way_up" (defArgs s_way_up) (defBody s_way_up) (defScope s_way_up) .none kV4 dc4 pm4 an4 cd4 ct4), sl4⟩) (c4 : PySem.W.codeIn K cd4 "way_up" = true) (k4 : PySem.W.keepIn K (.ref f4) = true)
    (a5 : PySem.W.nsIn K mainGlobals "is_tree" = some (some (.ref f5))) (l5 : K.lookup f5 = some ⟨oc5, od5, .func (PySem.W.fnOf "is_tree" "is_tree" (defArgs s_is_tree) (defBody s_is_tree) (defScope s_is_tree) .none kV5 dc5 pm5 an5 cd5 ct5), sl5⟩) (c5 : PySem.W.codeIn K cd5 "is_tree" = true) (k5 : PySem.W.keepIn K (.ref f5) = true)
    (a6 : PySem.W.nsIn K mainGlobals "need_tree" = some (some (.ref f6))) (l6 : K.lookup f6 = some ⟨oc6, od6, .func (PySem.W.fnOf "need_tree" "need_tree" (defArgs s_need_tree) (defBody s_need_tree) (defScope s_need_tree) .none kV6 dc6 pm6 an6 cd6 ct6), sl6⟩) (c6 : PySem.W.codeIn K cd6 "need_tree" = true) (k6 : PySem.W.keepIn K (.ref f6) = true)
    (a7 : PySem.W.nsIn K mainGlobals "are_costs" = some (some (.ref f7))) (l7 : K.lookup f7 = some ⟨oc7, od7, .func (PySem.W.fnOf "are_costs" "are_costs" (defArgs s_are_costs) (defBody s_are_costs) (defScope s_are_costs) .none kV7 dc7 pm7 an7 cd7 ct7), sl7⟩) (c7 : PySem.W.codeIn K cd7 "are_costs" = true) (k7 : PySem.W.keepIn K (.ref f7) = true)
    (a8 : PySem.W.nsIn K mainGlobals "is_costs" = some (some (.ref f8))) (l8 : K.lookup f8 = some ⟨oc8, od8, .func (PySem.W.fnOf "is_costs" "is_costs" (defArgs s_is_costs) (defBody s_is_costs) (defScope s_is_costs) .none kV8 dc8 pm8 an8 cd8 ct8), sl8⟩) (c8 : PySem.W.codeIn K cd8 "is_costs" = true) (k8 : PySem.W.keepIn K (.ref f8) = true)
    (a9 : PySem.W.nsIn K mainGlobals "_law_bag" = some (some (.ref f9))) (l9 : K.lookup f9 = some ⟨oc9, od9, .func (PySem.W.fnOf "_law_bag" "_law_bag" (defArgs s__law_bag) (defBody s__law_bag) (defScope s__law_bag) .none kV9 dc9 pm9 an9 cd9 ct9), sl9⟩) (c9 : PySem.W.codeIn K cd9 "_law_bag" = true) (k9 : PySem.W.keepIn K (.ref f9) = true)
    (a10 : PySem.W.nsIn K mainGlobals "_law_take" = some (some (.ref f10))) (l10 : K.lookup f10 = some ⟨oc10, od10, .func (PySem.W.fnOf "_law_take" "_law_take" (defArgs s__law_take) (defBody s__law_take) (defScope s__law_take) .none kV10 dc10 pm10 an10 cd10 ct10), sl10⟩) (c10 : PySem.W.codeIn K cd10 "_law_take" = true) (k10 : PySem.W.keepIn K (.ref f10) = true)
    (a11 : PySem.W.nsIn K mainGlobals "_law_of" = some (some (.ref f11))) (l11 : K.lookup f11 = some ⟨oc11, od11, .func (PySem.W.fnOf "_law_of" "_law_of" (defArgs s__law_of) (defBody s__law_of) (defScope s__law_of) .none kV11 dc11 pm11 an11 cd11 ct11), sl11⟩) (c11 : PySem.W.codeIn K cd11 "_law_of" = true) (k11 : PySem.W.keepIn K (.ref f11) = true)
    (a12 : PySem.W.nsIn K mainGlobals "_law_within" = some (some (.ref f12))) (l12 : K.lookup f12 = some ⟨oc12, od12, .func (PySem.W.fnOf "_law_within" "_law_within" (defArgs s__law_within) (defBody s__law_within) (defScope s__law_within) .none kV12 dc12 pm12 an12 cd12 ct12), sl12⟩) (c12 : PySem.W.codeIn K cd12 "_law_within" = true) (k12 : PySem.W.keepIn K (.ref f12) = true)
    (a13 : PySem.W.nsIn K mainGlobals "_law_odd" = some (some (.ref f13))) (l13 : K.lookup f13 = some ⟨oc13, od13, .func (PySem.W.fnOf "_law_odd" "_law_odd" (defArgs s__law_odd) (defBody s__law_odd) (defScope s__law_odd) .none kV13 dc13 pm13 an13 cd13 ct13), sl13⟩) (c13 : PySem.W.codeIn K cd13 "_law_odd" = true) (k13 : PySem.W.keepIn K (.ref f13) = true)
    (a14 : PySem.W.nsIn K mainGlobals "_law_spoilt" = some (some (.ref f14))) (l14 : K.lookup f14 = some ⟨oc14, od14, .func (PySem.W.fnOf "_law_spoilt" "_law_spoilt" (defArgs s__law_spoilt) (defBody s__law_spoilt) (defScope s__law_spoilt) .none kV14 dc14 pm14 an14 cd14 ct14), sl14⟩) (c14 : PySem.W.codeIn K cd14 "_law_spoilt" = true) (k14 : PySem.W.keepIn K (.ref f14) = true)
    (a15 : PySem.W.nsIn K mainGlobals "_law_tree" = some (some (.ref f15))) (l15 : K.lookup f15 = some ⟨oc15, od15, .func (PySem.W.fnOf "_law_tree" "_law_tree" (defArgs s__law_tree) (defBody s__law_tree) (defScope s__law_tree) .none kV15 dc15 pm15 an15 cd15 ct15), sl15⟩) (c15 : PySem.W.codeIn K cd15 "_law_tree" = true) (k15 : PySem.W.keepIn K (.ref f15) = true)
    (a16 : PySem.W.nsIn K mainGlobals "_law_costs" = some (some (.ref f16))) (l16 : K.lookup f16 = some ⟨oc16, od16, .func (PySem.W.fnOf "_law_costs" "_law_costs" (defArgs s__law_costs) (defBody s__law_costs) (defScope s__law_costs) .none kV16 dc16 pm16 an16 cd16 ct16), sl16⟩) (c16 : PySem.W.codeIn K cd16 "_law_costs" = true) (k16 : PySem.W.keepIn K (.ref f16) = true)
    (a17 : PySem.W.nsIn K mainGlobals "_law_is_costs" = some (some (.ref f17))) (l17 : K.lookup f17 = some ⟨oc17, od17, .func (PySem.W.fnOf "_law_is_costs" "_law_is_costs" (defArgs s__law_is_costs) (defBody s__law_is_costs) (defScope s__law_is_costs) .none kV17 dc17 pm17 an17 cd17 ct17), sl17⟩) (c17 : PySem.W.codeIn K cd17 "_law_is_costs" = true) (k17 : PySem.W.keepIn K (.ref f17) = true)
    (a18 : PySem.W.nsIn K mainGlobals "law" = some (some (.ref f18))) (l18 : K.lookup f18 = some ⟨oc18, od18, .func (PySem.W.fnOf "law" "law" (defArgs s_law) (defBody s_law) (defScope s_law) .none kV18 dc18 pm18 an18 cd18 ct18), sl18⟩) (c18 : PySem.W.codeIn K cd18 "law" = true) (k18 : PySem.W.keepIn K (.ref f18) = true)
    (z_abs : PySem.W.nsIn K mainGlobals "abs" = some none)
    (z_all : PySem.W.nsIn K mainGlobals "all" = some none)
    (z_any : PySem.W.nsIn K mainGlobals "any" = some none)
    (z_bool : PySem.W.nsIn K mainGlobals "bool" = some none)
    (z_int : PySem.W.nsIn K mainGlobals "int" = some none)
    (z_isinstance : PySem.W.nsIn K mainGlobals "isinstance" = some none)
    (z_len : PySem.W.nsIn K mainGlobals "len" = some none)
    (z_list : PySem.W.nsIn K mainGlobals "list" = some none)
    (z_min : PySem.W.nsIn K mainGlobals "min" = some none)
    (z_range : PySem.W.nsIn K mainGlobals "range" = some none)
    (z_sorted : PySem.W.nsIn K mainGlobals "sorted" = some none)
    (z_str : PySem.W.nsIn K mainGlobals "str" = some none)
    (z_tuple : PySem.W.nsIn K mainGlobals "tuple" = some none)
    (z_zip : PySem.W.nsIn K mainGlobals "zip" = some none)
    (z_LETTERS : PySem.W.nsIn K mainGlobals "LETTERS" = some (some (.str "abcdefghijklmnopqrstuvwxyz" t_LETTERS)))
    (z_MOST_BASE : PySem.W.nsIn K mainGlobals "MOST_BASE" = some (some (.int 200 t_MOST_BASE)))
    (z_MOST_COST : PySem.W.nsIn K mainGlobals "MOST_COST" = some (some (.int 100 t_MOST_COST)))
    (z_MOST_DELAY : PySem.W.nsIn K mainGlobals "MOST_DELAY" = some (some (.int 9 t_MOST_DELAY)))
    (z_MOST_STORES : PySem.W.nsIn K mainGlobals "MOST_STORES" = some (some (.int 8 t_MOST_STORES))) :
    ∃ fd : FuncData, (∀ (s : Shared) (v : Value), BindsTo s fd ⟨[v], []⟩ [("script", v)]) ∧ ∀ base : Heap, K.In base → base.Ns mainGlobals mg → FnOk l.prog w K mg base CX0 33 fa fd ["script"] (spF (noG K) 1 g_law) := by
  have e := hfa.symm.trans (PySem.W.mg_of X G a18)
  cases e
  have F0 := fun_mk (st := s_is_whole) l0 c0 k0
  have F1 := fun_mk (st := s_is_within) l1 c1 k1
  have F2 := fun_mk (st := s_is_name) l2 c2 k2
  have F3 := fun_mk (st := s_is_store) l3 c3 k3
  have F4 := fun_mk (st := s_way_up) l4 c4 k4
  have F5 := fun_mk (st := s_is_tree) l5 c5 k5
  have F6 := fun_mk (st := s_need_tree) l6 c6 k6
  have F7 := fun_mk (st := s_are_costs) l7 c7 k7
  have F8 := fun_mk (st := s_is_costs) l8 c8 k8
  have F9 := fun_mk (st := s__law_bag) l9 c9 k9
  have F10 := fun_mk (st := s__law_take) l10 c10 k10
  have F11 := fun_mk (st := s__law_of) l11 c11 k11
  have F12 := fun_mk (st := s__law_within) l12 c12 k12
  have F13 := fun_mk (st := s__law_odd) l13 c13 k13
  have F14 := fun_mk (st := s__law_spoilt) l14 c14 k14
  have F15 := fun_mk (st := s__law_tree) l15 c15 k15
  have F16 := fun_mk (st := s__law_costs) l16 c16 k16
  have F17 := fun_mk (st := s__law_is_costs) l17 c17 k17
  have F18 := fun_mk (st := s_law) l18 c18 k18
  have m_abs := PySem.W.mg_none_of X G z_abs
  have m_all := PySem.W.mg_none_of X G z_all
  have m_any := PySem.W.mg_none_of X G z_any
  have m_bool := PySem.W.mg_none_of X G z_bool
  have m_int := PySem.W.mg_none_of X G z_int
  have m_isinstance := PySem.W.mg_none_of X G z_isinstance
  have m_len := PySem.W.mg_none_of X G z_len
  have m_list := PySem.W.mg_none_of X G z_list
  have m_min := PySem.W.mg_none_of X G z_min
  have m_range := PySem.W.mg_none_of X G z_range
  have m_sorted := PySem.W.mg_none_of X G z_sorted
  have m_str := PySem.W.mg_none_of X G z_str
  have m_tuple := PySem.W.mg_none_of X G z_tuple
  have m_zip := PySem.W.mg_none_of X G z_zip
  have m_LETTERS : GlV mg "LETTERS" (.str "abcdefghijklmnopqrstuvwxyz") := ⟨_, PySem.W.mg_of X G z_LETTERS, ⟨_, rfl⟩⟩
  have m_MOST_BASE : GlV mg "MOST_BASE" (.int 200) := ⟨_, PySem.W.mg_of X G z_MOST_BASE, ⟨_, rfl⟩⟩
  have m_MOST_COST : GlV mg "MOST_COST" (.int 100) := ⟨_, PySem.W.mg_of X G z_MOST_COST, ⟨_, rfl⟩⟩
  have m_MOST_DELAY : GlV mg "MOST_DELAY" (.int 9) := ⟨_, PySem.W.mg_of X G z_MOST_DELAY, ⟨_, rfl⟩⟩
  have m_MOST_STORES : GlV mg "MOST_STORES" (.int 8) := ⟨_, PySem.W.mg_of X G z_MOST_STORES, ⟨_, rfl⟩⟩
  refine ⟨PySem.W.fnOf "law" "law" (defArgs s_law) (defBody s_law) (defScope s_law) .none kV18 dc18 pm18 an18 cd18 ct18, fun s v => .of_eq rfl, fun base _ _ => ?_⟩
  have C_is_whole : CalF l.prog w K mg base 1 "is_whole" ["thing"] (spF (noG K) 1 g_is_whole) := ⟨⟨f0, _, ok_is_whole F0  m_bool m_int m_isinstance, PySem.W.mg_of X G a0, k0, F0.binds (ps := ["thing"]) fun _ _ _ _ _ _ us hl => match us, hl with | [_], _ => rfl⟩⟩
  have C_is_within : CalF l.prog w K mg base 2 "is_within" ["thing", "least", "most"] (spF (noG K) 3 g_is_within) := ⟨⟨f1, _, ok_is_within F1 C_is_whole , PySem.W.mg_of X G a1, k1, F1.binds (ps := ["thing", "least", "most"]) fun _ _ _ _ _ _ us hl => match us, hl with | [_, _, _], _ => rfl⟩⟩
  have C_is_name : CalF l.prog w K mg base 1 "is_name" ["thing"] (spF (noG K) 1 g_is_name) := ⟨⟨f2, _, ok_is_name F2  m_LETTERS m_all m_isinstance m_len m_str, PySem.W.mg_of X G a2, k2, F2.binds (ps := ["thing"]) fun _ _ _ _ _ _ us hl => match us, hl with | [_], _ => rfl⟩⟩
  have C_is_store : CalF l.prog w K mg base 3 "is_store" ["thing"] (spF (noG K) 1 g_is_store) := ⟨⟨f3, _, ok_is_store F3 C_is_name C_is_within m_MOST_BASE m_MOST_DELAY m_bool m_isinstance m_len m_str m_tuple, PySem.W.mg_of X G a3, k3, F3.binds (ps := ["thing"]) fun _ _ _ _ _ _ us hl => match us, hl with | [_], _ => rfl⟩⟩
  have C_way_up : CalF l.prog w K mg base 1 "way_up" ["above", "name"] (spF (noG K) 2 g_way_up) := ⟨⟨f4, _, ok_way_up F4  m_len, PySem.W.mg_of X G a4, k4, F4.binds (ps := ["above", "name"]) fun _ _ _ _ _ _ us hl => match us, hl with | [_, _], _ => rfl⟩⟩
  have C_is_tree : CalF l.prog w K mg base 4 "is_tree" ["thing"] (spF (noG K) 1 g_is_tree) := ⟨⟨f5, _, ok_is_tree F5 C_is_store C_way_up m_MOST_STORES m_all m_any m_isinstance m_len m_tuple m_zip, PySem.W.mg_of X G a5, k5, F5.binds (ps := ["thing"]) fun _ _ _ _ _ _ us hl => match us, hl with | [_], _ => rfl⟩⟩
  have C_need_tree : CalF l.prog w K mg base 5 "need_tree" ["thing"] (spF (noG K) 1 g_need_tree) := ⟨⟨f6, _, ok_need_tree F6 C_is_tree , PySem.W.mg_of X G a6, k6, F6.binds (ps := ["thing"]) fun _ _ _ _ _ _ us hl => match us, hl with | [_], _ => rfl⟩⟩
  have C_are_costs : CalF l.prog w K mg base 3 "are_costs" ["tree", "thing"] (spF (noG K) 2 g_are_costs) := ⟨⟨f7, _, ok_are_costs F7 C_is_within m_MOST_COST m_all m_isinstance m_len m_str m_tuple m_zip, PySem.W.mg_of X G a7, k7, F7.binds (ps := ["tree", "thing"]) fun _ _ _ _ _ _ us hl => match us, hl with | [_, _], _ => rfl⟩⟩
  have C_is_costs : CalF l.prog w K mg base 6 "is_costs" ["tree", "thing"] (spF (noG K) 2 g_is_costs) := ⟨⟨f8, _, ok_is_costs F8 C_are_costs C_need_tree , PySem.W.mg_of X G a8, k8, F8.binds (ps := ["tree", "thing"]) fun _ _ _ _ _ _ us hl => match us, hl with | [_, _], _ => rfl⟩⟩
  have C__law_bag : CalF l.prog w K mg base 1 "_law_bag" ["script", "k"] (spF (noG K) 2 g__law_bag) := ⟨⟨f9, _, ok__law_bag F9  m_abs m_len, PySem.W.mg_of X G a9, k9, F9.binds (ps := ["script", "k"]) fun _ _ _ _ _ _ us hl => match us, hl with | [_, _], _ => rfl⟩⟩
  have C__law_take : CalF l.prog w K mg base 1 "_law_take" ["bag", "many"] (spF (noG K) 2 g__law_take) := ⟨⟨f10, _, ok__law_take F10  , PySem.W.mg_of X G a10, k10, F10.binds (ps := ["bag", "many"]) fun _ _ _ _ _ _ us hl => match us, hl with | [_, _], _ => rfl⟩⟩
  have C__law_of : CalF l.prog w K mg base 2 "_law_of" ["bag", "some"] (spF (noG K) 2 g__law_of) := ⟨⟨f11, _, ok__law_of F11 C__law_take m_len, PySem.W.mg_of X G a11, k11, F11.binds (ps := ["bag", "some"]) fun _ _ _ _ _ _ us hl => match us, hl with | [_, _], _ => rfl⟩⟩
  have C__law_within : CalF l.prog w K mg base 1 "_law_within" ["thing", "least", "most"] (spF (noG K) 3 g__law_within) := ⟨⟨f12, _, ok__law_within F12  m_bool m_int m_isinstance, PySem.W.mg_of X G a12, k12, F12.binds (ps := ["thing", "least", "most"]) fun _ _ _ _ _ _ us hl => match us, hl with | [_, _, _], _ => rfl⟩⟩
  have C__law_odd : CalF l.prog w K mg base 2 "_law_odd" ["bag"] (spF (noG K) 1 g__law_odd) := ⟨⟨f13, _, ok__law_odd F13 C__law_take m_len, PySem.W.mg_of X G a13, k13, F13.binds (ps := ["bag"]) fun _ _ _ _ _ _ us hl => match us, hl with | [_], _ => rfl⟩⟩
  have CC__law_spoilt : ∀ n : Nat, CalF l.prog w K mg base (n + 2) "_law_spoilt" ["bag", "thing"] (spF (noG K) 2 (g__law_spoilt n)) := by
    intro n
    induction n with
    | zero => exact ⟨⟨f14, _, ok0__law_spoilt F14, PySem.W.mg_of X G a14, k14, F14.binds (ps := ["bag", "thing"]) fun _ _ _ _ _ _ us hl => match us, hl with | [_, _], _ => rfl⟩⟩
    | succ n ih => exact ⟨⟨f14, _, ok__law_spoilt F14 C__law_odd ih C__law_take m_int m_isinstance m_len m_list m_str m_tuple, PySem.W.mg_of X G a14, k14, F14.binds (ps := ["bag", "thing"]) fun _ _ _ _ _ _ us hl => match us, hl with | [_, _], _ => rfl⟩⟩
  have C__law_spoilt := CC__law_spoilt 30
  have C__law_tree : CalF l.prog w K mg base 3 "_law_tree" ["bag", "kind"] (spF (noG K) 2 g__law_tree) := ⟨⟨f15, _, ok__law_tree F15 C__law_of C__law_take m_len m_range m_sorted m_tuple, PySem.W.mg_of X G a15, k15, F15.binds (ps := ["bag", "kind"]) fun _ _ _ _ _ _ us hl => match us, hl with | [_, _], _ => rfl⟩⟩
  have C__law_costs : CalF l.prog w K mg base 2 "_law_costs" ["bag", "tree"] (spF (noG K) 2 g__law_costs) := ⟨⟨f16, _, ok__law_costs F16 C__law_take m_tuple, PySem.W.mg_of X G a16, k16, F16.binds (ps := ["bag", "tree"]) fun _ _ _ _ _ _ us hl => match us, hl with | [_, _], _ => rfl⟩⟩
  have C__law_is_costs : CalF l.prog w K mg base 2 "_law_is_costs" ["tree", "thing"] (spF (noG K) 2 g__law_is_costs) := ⟨⟨f17, _, ok__law_is_costs F17 C__law_within m_isinstance m_len m_tuple m_zip, PySem.W.mg_of X G a17, k17, F17.binds (ps := ["tree", "thing"]) fun _ _ _ _ _ _ us hl => match us, hl with | [_, _], _ => rfl⟩⟩
  exact ok_law F18 C__law_bag C__law_costs C__law_is_costs C__law_odd C__law_spoilt C__law_take C__law_tree C_is_costs m_bool m_isinstance m_len m_min m_range m_tuple
end K15
open PySem PySem.W PyProof.Rows
set_option maxHeartbeats 0 in
theorem PySem.Challenge.cw_rungstock_k15_costs_told_holds : PySem.Challenge.rw_rungstock_k15_costs_told.Holds := by
  w_on; o_law; k_head; (case hw => w_witness2)
  k_fill
  refine L2.walk_of (l := PySem.Challenge.rw_rungstock_k15_costs_told) (n := 63) (k := 33) (x := "script") (CX := fun _ => L2.CX0) (sp := fun w => DL.spF (DL.noG _) 1 K15.g_law) rfl (by decide) rfl ⟨rfl, by decide, by decide⟩ (fun w h Y => PySem.W.kIn_of Y) ?F (fun _ _ a ns hl _ hS => DL.law_start K15.law_true hl hS) (fun _ _ _ _ _ h => h)
  case F =>
    intro w mg fa h KX G hmg
    refine' K15.all_mk KX G hmg ?a0 ?l0 ?c0 ?k0 ?a1 ?l1 ?c1 ?k1 ?a2 ?l2 ?c2 ?k2 ?a3 ?l3 ?c3 ?k3 ?a4 ?l4 ?c4 ?k4 ?a5 ?l5 ?c5 ?k5 ?a6 ?l6 ?c6 ?k6 ?a7 ?l7 ?c7 ?k7 ?a8 ?l8 ?c8 ?k8 ?a9 ?l9 ?c9 ?k9 ?a10 ?l10 ?c10 ?k10 ?a11 ?l11 ?c11 ?k11 ?a12 ?l12 ?c12 ?k12 ?a13 ?l13 ?c13 ?k13 ?a14 ?l14 ?c14 ?k14 ?a15 ?l15 ?c15 ?k15 ?a16 ?l16 ?c16 ?k16 ?a17 ?l17 ?c17 ?k17 ?a18 ?l18 ?c18 ?k18 ?z_abs ?z_all ?z_any ?z_bool ?z_int ?z_isinstance ?z_len ?z_list ?z_min ?z_range ?z_sorted ?z_str ?z_tuple ?z_zip ?z_LETTERS ?z_MOST_BASE ?z_MOST_COST ?z_MOST_DELAY ?z_MOST_STORES
    (case a0 => k_is); (case l0 => k_is); (case c0 => k_is); (case k0 => k_is); (case a1 => k_is); (case l1 => k_is); (case c1 => k_is); (case k1 => k_is); (case a2 => k_is); (case l2 => k_is); (case c2 => k_is); (case k2 => k_is); (case a3 => k_is); (case l3 => k_is); (case c3 => k_is); (case k3 => k_is); (case a4 => k_is); (case l4 => k_is); (case c4 => k_is); (case k4 => k_is); (case a5 => k_is); (case l5 => k_is); (case c5 => k_is); (case k5 => k_is); (case a6 => k_is); (case l6 => k_is); (case c6 => k_is); (case k6 => k_is); (case a7 => k_is); (case l7 => k_is); (case c7 => k_is); (case k7 => k_is); (case a8 => k_is); (case l8 => k_is); (case c8 => k_is); (case k8 => k_is); (case a9 => k_is); (case l9 => k_is); (case c9 => k_is); (case k9 => k_is); (case a10 => k_is); (case l10 => k_is); (case c10 => k_is); (case k10 => k_is); (case a11 => k_is); (case l11 => k_is); (case c11 => k_is); (case k11 => k_is); (case a12 => k_is); (case l12 => k_is); (case c12 => k_is); (case k12 => k_is); (case a13 => k_is); (case l13 => k_is); (case c13 => k_is); (case k13 => k_is); (case a14 => k_is); (case l14 => k_is); (case c14 => k_is); (case k14 => k_is); (case a15 => k_is); (case l15 => k_is); (case c15 => k_is); (case k15 => k_is); (case a16 => k_is); (case l16 => k_is); (case c16 => k_is); (case k16 => k_is); (case a17 => k_is); (case l17 => k_is); (case c17 => k_is); (case k17 => k_is); (case a18 => k_is); (case l18 => k_is); (case c18 => k_is); (case k18 => k_is); (case z_abs => k_is); (case z_all => k_is); (case z_any => k_is); (case z_bool => k_is); (case z_int => k_is); (case z_isinstance => k_is); (case z_len => k_is); (case z_list => k_is); (case z_min => k_is); (case z_range => k_is); (case z_sorted => k_is); (case z_str => k_is); (case z_tuple => k_is); (case z_zip => k_is); (case z_LETTERS => k_is); (case z_MOST_BASE => k_is); (case z_MOST_COST => k_is); (case z_MOST_DELAY => k_is); (case z_MOST_STORES => k_is)
