import PyProof.Rows.All
import Wide.All
import OpenK.AllK
import Wide.FinOn
import HandS.ForMost
import HandS.Wide
import PySem.Challenge.RW_rungstock_k12_windows_of_asks
set_option Elab.async false
set_option linter.all false
set_option maxRecDepth 100000
set_option maxHeartbeats 1000000
/-! DL: a layer of data over HandS: the slots of a def as pure data (PyData), lists and dicts that are owned by a slot,
 things of a kind of one's own (ghosts); each construct's reading is «the mirror (a partial function of the slots) tells the answer». -/
namespace DL
open PySem PySem.Spec PyProof.Rows L2

abbrev D := PyData
section
variable {K : PySem.W.Frag} {F F' H H' : Hp}
theorem sqt_mono {a : Addr} {xs : List V} (e : Same F F') (h : SqT K F a xs) : SqT K F' a xs := by
  rcases h with (h | ⟨o, h⟩) | h
  · exact .inl (.inl (e _ _ h))
  · exact .inl (.inr ⟨o, e _ _ h⟩)
  · exact .inr h
mutual
theorem dp_mono (e : Same F F') : ∀ (d : D) (v : V), Dp K F v d → Dp K F' v d
  | .none, _, h => by cases h; exact .non
  | .bool b, _, h => by cases h; exact .bl b
  | .int i, _, h => by cases h; exact .int i
  | .str x, _, h => by cases h; exact .str x
  | .list ds, _, h => by
    cases h with
    | lst hs ha => exact .lst (e.seq hs) (dpa_mono e ds _ ha)
  | .tuple ds, _, h => by
    cases h with
    | tup hs ha => exact .tup (sqt_mono e hs) (dpa_mono e ds _ ha)
  | .dict _, _, h => by cases h
theorem dpa_mono (e : Same F F') : ∀ (ds : List D) (vs : List V), DpAll K F vs ds → DpAll K F' vs ds
  | [], _, h => by cases h; exact .nil
  | d :: ds, _, h => by
    cases h with
    | cons h1 h2 => exact .cons (dp_mono e d _ h1) (dpa_mono e ds _ h2)
end
theorem _root_.L2.Dp.mono {v : V} {d : D} (h : Dp K F v d) (e : Same F F') : Dp K F' v d := dp_mono e d v h
theorem _root_.L2.DpAll.mono {vs : List V} {ds : List D} (h : DpAll K F vs ds) (e : Same F F') : DpAll K F' vs ds := dpa_mono e ds vs h
theorem _root_.L2.DpAll.length : ∀ {vs : List V} {ds : List D}, DpAll K F vs ds → vs.length = ds.length
  | _, _, .nil => rfl
  | _, _, .cons _ t => congrArg (· + 1) (L2.DpAll.length t)
theorem _root_.L2.DpAll.get : ∀ {vs : List V} {ds : List D} {i : Nat} {d : D}, DpAll K F vs ds → ds[i]? = some d → ∃ v, vs[i]? = some v ∧ Dp K F v d
  | _, _, _, _, .nil, e => by simp at e
  | _, _, 0, _, .cons r _, e => by simp at e; subst e; exact ⟨_, rfl, r⟩
  | _, _, i + 1, d, .cons _ t, e => by
    obtain ⟨v, h1, h2⟩ := L2.DpAll.get (i := i) (d := d) t (by simpa using e)
    exact ⟨v, by simpa using h1, h2⟩
theorem _root_.L2.DpAll.getV : ∀ {vs : List V} {ds : List D} {i : Nat} {v : V}, DpAll K F vs ds → vs[i]? = some v → ∃ d, ds[i]? = some d ∧ Dp K F v d
  | _, _, _, _, .nil, e => by simp at e
  | _, _, 0, _, .cons r _, e => by simp at e; subst e; exact ⟨_, rfl, r⟩
  | _, _, i + 1, d, .cons _ t, e => by
    obtain ⟨v, h1, h2⟩ := L2.DpAll.getV (i := i) (v := d) t (by simpa using e)
    exact ⟨v, by simpa using h1, h2⟩
theorem _root_.L2.DpAll.append : ∀ {vs ws : List V} {ds es : List D}, DpAll K F vs ds → DpAll K F ws es → DpAll K F (vs ++ ws) (ds ++ es)
  | _, _, _, _, .nil, s => s
  | _, _, _, _, .cons r t, s => .cons r (L2.DpAll.append t s)
theorem _root_.L2.DpAll.take : ∀ {vs : List V} {ds : List D} (n : Nat), DpAll K F vs ds → DpAll K F (vs.take n) (ds.take n)
  | _, _, 0, _ => .nil
  | _, _, _ + 1, .nil => .nil
  | _, _, n + 1, .cons r t => .cons r (L2.DpAll.take n t)
theorem _root_.L2.DpAll.drop : ∀ {vs : List V} {ds : List D} (n : Nat), DpAll K F vs ds → DpAll K F (vs.drop n) (ds.drop n)
  | _, _, 0, r => r
  | _, _, _ + 1, .nil => .nil
  | _, _, n + 1, .cons _ t => L2.DpAll.drop n t
theorem _root_.L2.DpAll.set {v : V} {d : D} (r : Dp K F v d) : ∀ {vs : List V} {ds : List D} (i : Nat), DpAll K F vs ds → DpAll K F (vs.set i v) (ds.set i d)
  | _, _, _, .nil => .nil
  | _, _, 0, .cons _ t => .cons r t
  | _, _, i + 1, .cons q t => .cons q (L2.DpAll.set r i t)
theorem dpa_ints : ∀ (ns : List Int), DpAll K F (ns.map V.int) (ns.map PyData.int)
  | [] => .nil
  | n :: r => .cons (.int n) (dpa_ints r)
theorem dpa_ints_inv : ∀ {ns : List Int} {vs : List V}, DpAll K F vs (ns.map PyData.int) → vs = ns.map V.int
  | [], _, h => by cases h; rfl
  | n :: r, _, h => by
    cases h with
    | cons h1 h2 =>
      cases h1
      rw [dpa_ints_inv h2]
      rfl
end

/-! ### slots -/
/-- a thing that a slot owns: a list of data, a dict of data by keys, a ghost -/
inductive Ow (G : Type) where
  | seq (ds : List D) | dct (kvs : List (Key × D)) | gho (g : G)
inductive Sl (G : Type) where
  | un | val (d : D) | own (o : Ow G)

inductive KDp (K : PySem.W.Frag) (F : Hp) : List (Key × V) → List (Key × D) → Prop
  | nil : KDp K F [] []
  | cons {k : Key} {v : V} {d : D} {vs : List (Key × V)} {ds : List (Key × D)} : Dp K F v d → KDp K F vs ds → KDp K F ((k, v) :: vs) ((k, d) :: ds)
theorem KDp.mono {K : PySem.W.Frag} {F F' : Hp} (e : Same F F') : ∀ {vs : List (Key × V)} {ds : List (Key × D)}, KDp K F vs ds → KDp K F' vs ds
  | _, _, .nil => .nil
  | _, _, .cons h t => .cons (Dp.mono h e) (KDp.mono e t)

/-- what a ghost is in the heap: F what stands for good, P its own addresses -/
structure GS (K : PySem.W.Frag) (G : Type) where
  rep : Hp → Hp → (Addr → Prop) → V → G → Prop
  mono : ∀ {F H : Hp} {P : Addr → Prop} {v : V} {g : G} {F' H' : Hp} {P' : Addr → Prop}, rep F H P v g → Same F F' → (∀ b o, P b → H b = some o → H' b = some o) → (∀ b, P b → P' b) → rep F' H' P' v g
def noG (K : PySem.W.Frag) : GS K Empty where
  rep := fun _ _ _ _ _ => False
  mono := fun h _ _ _ => h

variable {G : Type} {K : PySem.W.Frag}
def OwOk (S : GS K G) (F H : Hp) (P : Addr → Prop) (v : V) : Ow G → Prop
  | .seq ds => ∃ a xs, v = .ref a ∧ P a ∧ H a = some (.lst xs) ∧ DpAll K F xs ds
  | .dct kvs => ∃ a vs, v = .ref a ∧ P a ∧ H a = some (.dK vs) ∧ KDp K F vs kvs
  | .gho g => S.rep F H P v g
theorem OwOk.mono {S : GS K G} {F H F' H' : Hp} {P P' : Addr → Prop} {v : V} : ∀ {o : Ow G}, OwOk S F H P v o → Same F F' → (∀ b x, P b → H b = some x → H' b = some x) → (∀ b, P b → P' b) → OwOk S F' H' P' v o
  | .seq _, ⟨a, xs, e, p, h, r⟩, ef, eh, ep => ⟨a, xs, e, ep a p, eh a _ p h, r.mono ef⟩
  | .dct _, ⟨a, xs, e, p, h, r⟩, ef, eh, ep => ⟨a, xs, e, ep a p, eh a _ p h, r.mono ef⟩
  | .gho _, h, ef, eh, ep => S.mono h ef eh ep
def SlOk (S : GS K G) (F H : Hp) (P : Addr → Prop) (x : Option V) : Sl G → Prop
  | .un => True
  | .val d => ∃ v, x = some v ∧ Dp K F v d
  | .own o => ∃ v, x = some v ∧ OwOk S F H P v o
theorem SlOk.mono {S : GS K G} {F H F' H' : Hp} {P P' : Addr → Prop} {x : Option V} : ∀ {s : Sl G}, SlOk S F H P x s → Same F F' → (∀ b x, P b → H b = some x → H' b = some x) → (∀ b, P b → P' b) → SlOk S F' H' P' x s
  | .un, _, _, _, _ => trivial
  | .val _, ⟨v, e, r⟩, ef, _, _ => ⟨v, e, r.mono ef⟩
  | .own _, ⟨v, e, r⟩, ef, eh, ep => ⟨v, e, r.mono ef eh ep⟩

abbrev Om := Addr → Option Nat
/-- the slots' data ρ in σ, H: F stands for good, ω tells whose each owned address is; pv: the arguments, which an owned parameter stays -/
structure RE (S : GS K G) (pv : List V) (F H : Hp) (ω : Om) (σ : L2.St) (ρ : List (Sl G)) : Prop where
  len : σ.length = ρ.length
  fh : Same F H
  wf : ∀ b i, ω b = some i → F b = none ∧ H b ≠ none
  slot : ∀ i s, ρ[i]? = some s → ∃ x, σ[i]? = some x ∧ SlOk S F H (fun b => ω b = some i) x s
  fix : ∀ (i : Nat) v o, pv[i]? = some v → ρ[i]? = some (.own o) → σ[i]? = some (some v)
/-- how the heaps may go on -/
structure Ev (F H : Hp) (ω : Om) (F' H' : Hp) (ω' : Om) : Prop where
  ff : Same F F'
  fn : ∀ b o, F' b = some o → F b = some o ∨ H b = none ∨ ω b ≠ none
  hh : ∀ b o, H b = some o → ω b = none → H' b = some o
  wn : ∀ b, ω' b ≠ none → ω b ≠ none ∨ H b = none
  dom : ∀ b, H b ≠ none → H' b ≠ none
theorem Ev.refl {F H : Hp} {ω : Om} : Ev F H ω F H ω := ⟨Same.refl F, fun _ _ h => .inl h, fun _ _ h _ => h, fun _ h => .inl h, fun _ h => h⟩
theorem Ev.trans {F H F1 H1 F2 H2 : Hp} {ω ω1 ω2 : Om} (a : Ev F H ω F1 H1 ω1) (b : Ev F1 H1 ω1 F2 H2 ω2) : Ev F H ω F2 H2 ω2 where
  ff := a.ff.trans b.ff
  fn := fun c o h => by
    rcases b.fn c o h with h | h | h
    · exact a.fn c o h
    · refine .inr (.inl ?_)
      cases e : H c with
      | none => rfl
      | some u => exact absurd h (a.dom c (by rw [e]; simp))
    · rcases a.wn c h with h | h
      · exact .inr (.inr h)
      · exact .inr (.inl h)
  hh := fun c o h w => by
    refine b.hh c o (a.hh c o h w) ?_
    cases e : ω1 c with
    | none => rfl
    | some u =>
      rcases a.wn c (by rw [e]; simp) with h1 | h1
      · exact absurd w h1
      · rw [h1] at h; cases h
  wn := fun c h => by
    rcases b.wn c h with h | h
    · exact a.wn c h
    · refine .inr ?_
      cases e : H c with
      | none => rfl
      | some u => exact absurd h (a.dom c (by rw [e]; simp))
  dom := fun c h => b.dom c (a.dom c h)
/-- new things alone, none of them owned -/
structure Al (F H F' H' : Hp) : Prop where
  ff : Same F F'
  fn : ∀ b o, F' b = some o → F b = some o ∨ H b = none
  hh : Same H H'
  fh : Same F' H'
theorem ne_none_of {H H' : Hp} (h : Same H H') {b : Addr} (n : H b ≠ none) : H' b ≠ none := by
  cases e : H b with
  | none => exact absurd e n
  | some o => rw [h b o e]; simp
theorem Al.refl {F H : Hp} (h : Same F H) : Al F H F H := ⟨Same.refl F, fun _ _ h => .inl h, Same.refl H, h⟩
theorem Al.ev {F H F' H' : Hp} {ω : Om} (a : Al F H F' H') : Ev F H ω F' H' ω :=
  ⟨a.ff, fun b o h => (a.fn b o h).imp id .inl, fun b o h _ => a.hh b o h, fun _ h => .inl h, fun _ h => ne_none_of a.hh h⟩
theorem same_new {H : Hp} {p : Addr} {o : HO} (h : H p = none) : Same H (upd H p o) := fun b x e => by
  rw [upd_ne (ne_of_none e h)]
  exact e
theorem same_upd2 {F H : Hp} {p : Addr} {o : HO} (h : Same F H) : Same (upd F p o) (upd H p o) := fun b x e => by
  by_cases hb : b = p
  · subst hb
    rw [upd_same] at e ⊢
    exact e
  · rw [upd_ne hb] at e ⊢
    exact h b x e
theorem Al.new {F H : Hp} {p : Addr} {o : HO} (h : Same F H) (hp : H p = none) : Al F H (upd F p o) (upd H p o) where
  ff := same_new (h.free hp)
  fn := fun b x e => by
    by_cases hb : b = p
    · subst hb
      exact .inr hp
    · rw [upd_ne hb] at e
      exact .inl e
  hh := same_new hp
  fh := same_upd2 h
theorem Al.trans {F H F1 H1 F2 H2 : Hp} (a : Al F H F1 H1) (b : Al F1 H1 F2 H2) : Al F H F2 H2 where
  ff := a.ff.trans b.ff
  fn := fun c o h => by
    rcases b.fn c o h with h | h
    · exact a.fn c o h
    · exact .inr (a.hh.free h)
  hh := a.hh.trans b.hh
  fh := b.fh
section
variable {S : GS K G} {pv : List V} {F H F' H' : Hp} {ω : Om} {σ : L2.St} {ρ : List (Sl G)}
theorem RE.al (r : RE S pv F H ω σ ρ) (a : Al F H F' H') : RE S pv F' H' ω σ ρ where
  len := r.len
  fh := a.fh
  wf := fun b i e => by
    obtain ⟨h1, h2⟩ := r.wf b i e
    refine ⟨?_, ne_none_of a.hh h2⟩
    cases q : F' b with
    | none => rfl
    | some o =>
      rcases a.fn b o q with z | z
      · rw [h1] at z; cases z
      · exact absurd z h2
  slot := fun i s e => by
    obtain ⟨x, h1, h2⟩ := r.slot i s e
    exact ⟨x, h1, h2.mono a.ff (fun b o _ h => a.hh b o h) fun _ h => h⟩
  fix := r.fix
theorem RE.lt (r : RE S pv F H ω σ ρ) {i : Nat} {s : Sl G} (h : ρ[i]? = some s) : i < σ.length := by
  obtain ⟨h1, _⟩ := List.getElem?_eq_some_iff.mp h
  rw [r.len]
  exact h1
/-- a slot takes a datum -/
theorem RE.setV (r : RE S pv F H ω σ ρ) {i : Nat} {v : V} {d : D} (h : Dp K F v d) : RE S pv F H ω (σ.set i (some v)) (ρ.set i (.val d)) where
  len := by rw [List.length_set, List.length_set]; exact r.len
  fh := r.fh
  wf := r.wf
  slot := fun j s e => by
    by_cases hj : i = j
    · subst hj
      have hl : i < ρ.length := by
        obtain ⟨h1, _⟩ := List.getElem?_eq_some_iff.mp e
        rw [List.length_set] at h1
        exact h1
      rw [List.getElem?_set_self hl] at e
      cases e
      exact ⟨some v, List.getElem?_set_self (by rw [r.len]; exact hl), v, rfl, h⟩
    · rw [List.getElem?_set_ne hj] at e ⊢
      exact r.slot j s e
  fix := fun j v' o h1 e => by
    by_cases hj : i = j
    · subst hj
      have hl : i < ρ.length := by
        obtain ⟨h1, _⟩ := List.getElem?_eq_some_iff.mp e
        rw [List.length_set] at h1
        exact h1
      rw [List.getElem?_set_self hl] at e
      cases e
    · rw [List.getElem?_set_ne hj] at e ⊢
      exact r.fix j v' o h1 e
/-- a slot takes what is owned and waits (its mark: the number of slots) -/
theorem RE.setO (r : RE S pv F H ω σ ρ) {i : Nat} {v : V} {o : Ow G} (hp : pv[i]? = none) (h : OwOk S F H (fun b => ω b = some σ.length) v o) :
    RE S pv F H (fun b => if ω b = some σ.length then some i else ω b) (σ.set i (some v)) (ρ.set i (.own o)) where
  len := by rw [List.length_set, List.length_set]; exact r.len
  fh := r.fh
  wf := fun b j e => by
    by_cases hb : ω b = some σ.length
    · exact r.wf b _ hb
    · rw [if_neg hb] at e
      exact r.wf b _ e
  slot := fun j s e => by
    by_cases hj : i = j
    · subst hj
      have hl : i < ρ.length := by
        obtain ⟨h1, _⟩ := List.getElem?_eq_some_iff.mp e
        rw [List.length_set] at h1
        exact h1
      rw [List.getElem?_set_self hl] at e
      cases e
      refine ⟨some v, List.getElem?_set_self (by rw [r.len]; exact hl), v, rfl, h.mono (Same.refl F) (fun _ _ _ h => h) fun b hb => ?_⟩
      show (if ω b = some σ.length then some i else ω b) = some i
      rw [if_pos hb]
    · rw [List.getElem?_set_ne hj] at e ⊢
      obtain ⟨x, h1, h2⟩ := r.slot j s e
      refine ⟨x, h1, h2.mono (Same.refl F) (fun _ _ _ h => h) fun b hb => ?_⟩
      have hl := r.lt e
      show (if ω b = some σ.length then some i else ω b) = some j
      rw [if_neg (by rw [hb]; intro z; cases z; exact absurd hl (Nat.lt_irrefl _))]
      exact hb
  fix := fun j v' o h1 e => by
    by_cases hj : i = j
    · subst hj
      rw [hp] at h1
      cases h1
    · rw [List.getElem?_set_ne hj] at e ⊢
      exact r.fix j v' o h1 e
theorem Ev.setO {n i : Nat} : Ev F H ω F H (fun b => if ω b = some n then some i else ω b) :=
  ⟨Same.refl F, fun _ _ h => .inl h, fun _ _ h _ => h, fun b h => by
    by_cases hb : ω b = some n
    · exact .inl (by rw [hb]; simp)
    · exact .inl (by rw [if_neg hb] at h; exact h), fun _ h => h⟩
/-- a slot is forgotten -/
theorem RE.drop (r : RE S pv F H ω σ ρ) (i : Nat) (x : Option V) : RE S pv F H ω (σ.set i x) (ρ.set i .un) where
  len := by rw [List.length_set, List.length_set]; exact r.len
  fh := r.fh
  wf := r.wf
  slot := fun j s e => by
    by_cases hj : i = j
    · subst hj
      have hl : i < ρ.length := by
        obtain ⟨h1, _⟩ := List.getElem?_eq_some_iff.mp e
        rw [List.length_set] at h1
        exact h1
      rw [List.getElem?_set_self hl] at e
      cases e
      exact ⟨x, List.getElem?_set_self (by rw [r.len]; exact hl), trivial⟩
    · rw [List.getElem?_set_ne hj] at e ⊢
      exact r.slot j s e
  fix := fun j v' o h1 e => by
    by_cases hj : i = j
    · subst hj
      have hl : i < ρ.length := by
        obtain ⟨h1, _⟩ := List.getElem?_eq_some_iff.mp e
        rw [List.length_set] at h1
        exact h1
      rw [List.getElem?_set_self hl] at e
      cases e
    · rw [List.getElem?_set_ne hj] at e ⊢
      exact r.fix j v' o h1 e
/-- what a slot owns is written at one place -/
theorem RE.wr (r : RE S pv F H ω σ ρ) {i : Nat} {v : V} {o1 o2 : Ow G} {a : Addr} {u : HO} (h1 : ρ[i]? = some (.own o1)) (hv : σ[i]? = some (some v)) (ha : ω a = some i)
    (h2 : OwOk S F (upd H a u) (fun b => ω b = some i) v o2) : RE S pv F (upd H a u) ω σ (ρ.set i (.own o2)) ∧ Ev F H ω F (upd H a u) ω := by
  obtain ⟨fa, na⟩ := r.wf a i ha
  refine ⟨⟨by rw [List.length_set]; exact r.len, fun b o e => ?_, fun b j e => ?_, fun j s e => ?_, fun j v' o h3 e => ?_⟩, Same.refl F, fun _ _ h => .inl h, fun b o h w => ?_, fun _ h => .inl h, fun b h => ?_⟩
  · have hb : b ≠ a := fun z => by rw [z, fa] at e; cases e
    rw [upd_ne hb]
    exact r.fh b o e
  · obtain ⟨q1, q2⟩ := r.wf b j e
    refine ⟨q1, ?_⟩
    by_cases hb : b = a
    · subst hb; rw [upd_same]; simp
    · rw [upd_ne hb]; exact q2
  · by_cases hj : i = j
    · subst hj
      have hl : i < ρ.length := (List.getElem?_eq_some_iff.mp h1).1
      rw [List.getElem?_set_self hl] at e
      cases e
      exact ⟨some v, hv, v, rfl, h2⟩
    · rw [List.getElem?_set_ne hj] at e
      obtain ⟨x, q1, q2⟩ := r.slot j s e
      refine ⟨x, q1, q2.mono (Same.refl F) (fun b o hb h => ?_) fun _ h => h⟩
      have hba : b ≠ a := fun z => by
        rw [z] at hb
        rw [ha] at hb
        cases hb
        exact hj rfl
      rw [upd_ne hba]
      exact h
  · by_cases hj : i = j
    · subst hj
      rw [hv, ← r.fix i v' o1 h3 h1, hv]
    · rw [List.getElem?_set_ne hj] at e
      exact r.fix j v' o h3 e
  · have hb : b ≠ a := fun z => by rw [z, ha] at w; cases w
    rw [upd_ne hb]
    exact h
  · by_cases hb : b = a
    · subst hb; rw [upd_same]; simp
    · rw [upd_ne hb]; exact h
/-- a list that a slot owns stands from now on for good -/
theorem RE.frz (r : RE S pv F H ω σ ρ) {i : Nat} {ds : List D} {a : Addr} {xs : List V} (ha : ω a = some i) (hH : H a = some (.lst xs)) (hs : DpAll K F xs ds) (hv : σ[i]? = some (some (.ref a))) :
    RE S pv (upd F a (.lst xs)) H (fun b => if b = a then none else ω b) σ (ρ.set i (.val (.list ds))) ∧ Ev F H ω (upd F a (.lst xs)) H (fun b => if b = a then none else ω b) ∧ Dp K (upd F a (.lst xs)) (.ref a) (.list ds) := by
  obtain ⟨fa, na⟩ := r.wf a i ha
  have ff : Same F (upd F a (.lst xs)) := same_new fa
  have dp : Dp K (upd F a (.lst xs)) (.ref a) (.list ds) := .lst (.of upd_same) (hs.mono ff)
  refine ⟨⟨by rw [List.length_set]; exact r.len, fun b o e => ?_, fun b j e => ?_, fun j s e => ?_, fun j v' o h3 e => ?_⟩, ⟨ff, fun b o h => ?_, fun _ _ h _ => h, fun b h => ?_, fun _ h => h⟩, dp⟩
  · by_cases hb : b = a
    · subst hb; rw [upd_same] at e; cases e; exact hH
    · rw [upd_ne hb] at e; exact r.fh b o e
  · by_cases hb : b = a
    · rw [if_pos hb] at e; cases e
    · rw [if_neg hb] at e
      rw [upd_ne hb]
      exact r.wf b j e
  · by_cases hj : i = j
    · subst hj
      have hl : i < ρ.length := by
        obtain ⟨h1, _⟩ := List.getElem?_eq_some_iff.mp e
        rw [List.length_set] at h1
        exact h1
      rw [List.getElem?_set_self hl] at e
      cases e
      exact ⟨_, hv, _, rfl, dp⟩
    · rw [List.getElem?_set_ne hj] at e
      obtain ⟨x, q1, q2⟩ := r.slot j s e
      refine ⟨x, q1, q2.mono ff (fun _ _ _ h => h) fun b hb => ?_⟩
      have hba : b ≠ a := fun z => by
        rw [z] at hb
        rw [ha] at hb
        cases hb
        exact hj rfl
      show (if b = a then none else ω b) = some j
      rw [if_neg hba]
      exact hb
  · by_cases hj : i = j
    · subst hj
      have hl : i < ρ.length := by
        obtain ⟨h1, _⟩ := List.getElem?_eq_some_iff.mp e
        rw [List.length_set] at h1
        exact h1
      rw [List.getElem?_set_self hl] at e
      cases e
    · rw [List.getElem?_set_ne hj] at e
      exact r.fix j v' o h3 e
  · by_cases hb : b = a
    · subst hb; exact .inr (.inr (by rw [ha]; simp))
    · rw [upd_ne hb] at h; exact .inl h
  · by_cases hb : b = a
    · rw [if_pos hb] at h; exact absurd rfl h
    · rw [if_neg hb] at h; exact .inl h
end
end DL
set_option Elab.async false
set_option linter.all false
set_option maxRecDepth 100000
set_option maxHeartbeats 1000000
namespace DL
open PySem PySem.Spec PyProof.Rows L2
variable {G : Type}

/-! ### mirrors -/
abbrev M (G α : Type) := List (Sl G) → Option (α × List (Sl G))
section
variable {α β : Type}
def mret (a : α) : M G α := fun ρ => some (a, ρ)
def mbnd (f : M G α) (k : α → M G β) : M G β := fun ρ => match f ρ with
  | none => none
  | some (a, ρ') => k a ρ'
def mlft (o : Option α) : M G α := fun ρ => match o with
  | none => none
  | some a => some (a, ρ)
end
def rd (i : Nat) : M G D := fun ρ => match ρ[i]? with
  | some (.val d) => some (d, ρ)
  | some (.own (.seq ds)) => some (.list ds, ρ.set i (.val (.list ds)))
  | _ => none

variable {K : PySem.W.Frag}
section
variable {α β γ δ : Type} (S : GS K G) (pv : List V)
def XF (R : Hp → Hp → (Addr → Prop) → β → α → Prop) (F : Hp) (f : M G α) (σ : L2.St) (H : Hp) (Q : β → Hp → Prop) : Prop :=
  ∃ ω ρ, RE S pv F H ω σ ρ ∧ ∃ a ρ', f ρ = some (a, ρ') ∧ ∀ F' H' ω' b, Ev F H ω F' H' ω' → RE S pv F' H' ω' σ ρ' → R F' H' (fun c => ω' c = some σ.length) b a → Q b H'
def RV (R : Hp → β → α → Prop) : Hp → Hp → (Addr → Prop) → β → α → Prop := fun F _ _ b a => R F b a
def tX (R : Hp → Hp → (Addr → Prop) → β → α → Prop) (f : M G α) : L2.St → Hp → (β → Hp → Prop) → Prop := fun σ H Q => ∃ F, XF S pv R F f σ H Q
def tD (f : M G D) : TE := tX S pv (RV (Dp K)) f
def tT (f : M G Bool) : TT := tX S pv (RV fun _ b a => b = a) f
def tA (f : M G (List D)) : TA := tX S pv (RV (DpAll K)) f
def tO (f : M G (Ow G)) : TE := tX S pv (fun F H P v o => OwOk S F H P v o) f
variable {S pv}
variable {F H : Hp} {σ : L2.St}
theorem XF.step {R2 : Hp → Hp → (Addr → Prop) → γ → δ → Prop} {R1 : Hp → β → α → Prop} {f : M G α} {k : α → M G δ} {Q : γ → Hp → Prop} {Q1 : β → Hp → Prop} (h : XF S pv R2 F (mbnd f k) σ H Q)
    (c : ∀ a b F1 H1, Same F F1 → R1 F1 b a → XF S pv R2 F1 (k a) σ H1 Q → Q1 b H1) : XF S pv (RV R1) F f σ H Q1 := by
  obtain ⟨ω, ρ, re, a2, ρ2, e, q⟩ := h
  unfold mbnd at e
  cases e1 : f ρ with
  | none => rw [e1] at e; cases e
  | some p =>
    obtain ⟨a, ρ1⟩ := p
    rw [e1] at e
    refine ⟨ω, ρ, re, a, ρ1, e1, fun F1 H1 ω1 b ev re1 r1 => ?_⟩
    exact c a b F1 H1 ev.ff r1 ⟨ω1, ρ1, re1, a2, ρ2, e, fun F2 H2 ω2 b2 ev2 re2 r2 => q F2 H2 ω2 b2 (ev.trans ev2) re2 r2⟩
theorem XF.last {R : Hp → β → α → Prop} {o : Option α} {Q : β → Hp → Prop} (h : XF S pv (RV R) F (mlft o) σ H Q) : ∃ a, o = some a ∧ Same F H ∧ ∀ F' H' b, Al F H F' H' → R F' b a → Q b H' := by
  obtain ⟨ω, ρ, re, a, ρ', e, q⟩ := h
  unfold mlft at e
  cases o with
  | none => cases e
  | some a2 =>
    cases e
    exact ⟨a, rfl, re.fh, fun F' H' b al r => q F' H' ω b al.ev (re.al al) r⟩
theorem XF.ret {R : Hp → β → α → Prop} {a : α} {Q : β → Hp → Prop} (h : XF S pv (RV R) F (mret a) σ H Q) : Same F H ∧ ∀ F' H' b, Al F H F' H' → R F' b a → Q b H' := by
  obtain ⟨ω, ρ, re, a, ρ', e, q⟩ := h
  cases e
  exact ⟨re.fh, fun F' H' b al r => q F' H' ω b al.ev (re.al al) r⟩
theorem XF.ret1 {R : Hp → β → α → Prop} {a : α} {Q : β → Hp → Prop} {b : β} (h : XF S pv (RV R) F (mret a) σ H Q) (r : R F b a) : Q b H :=
  (XF.ret h).2 F H b (Al.refl (XF.ret h).1) r
end

section
variable {X : Cx}
theorem pe_weak {e : Expr} {t t' : TE} (h : PE X e t) (w : ∀ σ H Q, t' σ H Q → t σ H Q) : PE X e t' := ⟨fun pins s σ H Q I q => h.run pins s σ H Q I (w σ H Q q)⟩
theorem pt_weak {e : Expr} {t t' : TT} (h : PT X e t) (w : ∀ σ H Q, t' σ H Q → t σ H Q) : PT X e t' := ⟨fun pins s σ H Q I q => h.run pins s σ H Q I (w σ H Q q)⟩
theorem pw_weak {e : Expr} {t t' : TT} (h : PW X e t) (w : ∀ σ H Q, t' σ H Q → t σ H Q) : PW X e t' := ⟨fun wh pins s σ H Q I q => h.run wh pins s σ H Q I (w σ H Q q)⟩
theorem pa_weak {es : List Expr} {t t' : TA} (h : PA X es t) (w : ∀ σ H Q, t' σ H Q → t σ H Q) : PA X es t' := ⟨fun p pins s σ H Q I q => h.run p pins s σ H Q I (w σ H Q q)⟩
theorem ps_weak {st : Stmt} {t t' : TS} (h : PS X st t) (w : ∀ En σ H, t' En σ H → t En σ H) : PS X st t' := ⟨fun pins s σ H En I q => h.run pins s σ H En I (w En σ H q)⟩
theorem pss_weak {st : List Stmt} {t t' : TS} (h : PSs X st t) (w : ∀ En σ H, t' En σ H → t En σ H) : PSs X st t' := ⟨fun pins s σ H En I q => h.run pins s σ H En I (w En σ H q)⟩
end

section
variable {X : Cx} {S : GS X.K G} {pv : List V} {e a b : Expr} {fa fb : M G D} {pos : Pos}
/-! ### expressions -/
theorem dv_c {v : V} {d : D} (h : PE X e (tC v)) (r : ∀ F, Dp X.K F v d) : PE X e (tD S pv (mret d)) := pe_weak h fun σ H Q ⟨F, q⟩ => q.ret1 (r F)
theorem dv_int {i j pos} : PE X (.Constant (.int i) j pos) (tD S pv (mret (.int i))) := dv_c pe_int fun _ => .int i
theorem dv_bl {b j pos} : PE X (.Constant (.bool b) j pos) (tD S pv (mret (.bool b))) := dv_c pe_bl fun _ => .bl b
theorem dv_non {j pos} : PE X (.Constant .none j pos) (tD S pv (mret .none)) := dv_c pe_non fun _ => .non
theorem dv_str {x j pos} : PE X (.Constant (.str x) j pos) (tD S pv (mret (.str x))) := dv_c pe_str fun _ => .str x
theorem dv_var {i : Nat} (h : PE X e (tVar i)) : PE X e (tD S pv (rd i)) := pe_weak h fun σ H Q ⟨F, q⟩ => by
  obtain ⟨ω, ρ, re, a, ρ', e, q⟩ := q
  unfold rd at e
  split at e
  · rename_i d hd
    cases e
    obtain ⟨x, h1, v, rfl, h2⟩ := re.slot i _ hd
    exact ⟨v, h1, q F H ω v .refl re h2⟩
  · rename_i ds hd
    cases e
    obtain ⟨x, h1, v, rfl, a, xs, rfl, ha, hH, hs⟩ := re.slot i _ hd
    obtain ⟨re2, ev, dp⟩ := re.frz ha hH hs h1
    exact ⟨_, h1, q _ _ _ _ ev re2 dp⟩
  · cases e
/-- an operation of two values: by the values' data -/
def DOp (K : PySem.W.Frag) (r : R2) (g : D → D → Option D) : Prop :=
  ∀ F H x y dx dy d (Q : VK), Same F H → Dp K F x dx → Dp K F y dy → g dx dy = some d → (∀ F' H' v, Al F H F' H' → Dp K F' v d → Q v H') → r x y H Q
theorem dv_op {r : R2} {g : D → D → Option D} (h : PE X e (tOp r (tD S pv fa) (tD S pv fb))) (hd : DOp X.K r g) : PE X e (tD S pv (mbnd fa fun x => mbnd fb fun y => mlft (g x y))) :=
  pe_weak h fun σ H Q ⟨F, q⟩ => ⟨F, q.step fun x v F1 H1 s1 r1 q1 => ⟨F1, q1.step fun y u F2 H2 s2 r2 q2 => by
    obtain ⟨d, e, sf, q3⟩ := q2.last
    exact hd F2 H2 v u x y d Q sf (r1.mono s2) r2 e fun F' H' v al r => q3 F' H' v al r⟩⟩
def DUn (K : PySem.W.Frag) (r : V → Hp → VK → Prop) (g : D → Option D) : Prop :=
  ∀ F H x dx d (Q : VK), Same F H → Dp K F x dx → g dx = some d → (∀ F' H' v, Al F H F' H' → Dp K F' v d → Q v H') → r x H Q
theorem dv_un {r : V → Hp → VK → Prop} {g : D → Option D} (h : PE X e (tUn r (tD S pv fa))) (hd : DUn X.K r g) : PE X e (tD S pv (mbnd fa fun x => mlft (g x))) :=
  pe_weak h fun σ H Q ⟨F, q⟩ => ⟨F, q.step fun x v F1 H1 s1 r1 q1 => by
    obtain ⟨d, e, sf, q3⟩ := q1.last
    exact hd F1 H1 v x d Q sf r1 e fun F' H' v al r => q3 F' H' v al r⟩
/-- a call of a built-in -/
def DCall (K : PySem.W.Frag) (r : List V → Hp → VK → Prop) (g : List D → Option D) : Prop :=
  ∀ F H vs ds d (Q : VK), Same F H → DpAll K F vs ds → g ds = some d → (∀ F' H' v, Al F H F' H' → Dp K F' v d → Q v H') → r vs H Q
theorem dv_call {r : List V → Hp → VK → Prop} {g : List D → Option D} {fs : M G (List D)} (h : PE X e (tCB r (tA S pv fs))) (hd : DCall X.K r g) : PE X e (tD S pv (mbnd fs fun x => mlft (g x))) :=
  pe_weak h fun σ H Q ⟨F, q⟩ => ⟨F, q.step fun x v F1 H1 s1 r1 q1 => by
    obtain ⟨d, e, sf, q3⟩ := q1.last
    exact hd F1 H1 v x d Q sf r1 e fun F' H' v al r => q3 F' H' v al r⟩
/-! arguments -/
theorem da_nil : PA X [] (tA S pv (mret [])) := pa_weak pa_nil fun σ H Q ⟨F, q⟩ => q.ret1 .nil
def mcons (fa : M G D) (fs : M G (List D)) : M G (List D) := mbnd fa fun x => mbnd fs fun xs => mret (x :: xs)
theorem da_cons {es : List Expr} {fs : M G (List D)} (ha : PE X e (tD S pv fa)) (hr : PA X es (tA S pv fs)) (hs : starEach (e :: es) X.env = (false, eval e X.env) :: starEach es X.env := by rfl) :
    PA X (e :: es) (tA S pv (mcons fa fs)) :=
  pa_weak (pa_cons ha hr hs) fun σ H Q ⟨F, q⟩ => ⟨F, q.step fun x v F1 H1 s1 r1 q1 => ⟨F1, q1.step fun y u F2 H2 s2 r2 q2 => q2.ret1 (.cons (r1.mono s2) r2)⟩⟩
/-! tuples, lists -/
def mtup (fs : M G (List D)) : M G D := mbnd fs fun ds => mlft (if ds.length ≤ sizeLine then some (.tuple ds) else none)
def mlst (fs : M G (List D)) : M G D := mbnd fs fun ds => mlft (if ds.length ≤ sizeLine then some (.list ds) else none)
theorem dv_tup {fs : M G (List D)} (h : PE X e (tTup (tA S pv fs))) : PE X e (tD S pv (mtup fs)) :=
  pe_weak h fun σ H Q ⟨F, q⟩ => ⟨F, q.step fun x v F1 H1 s1 r1 q1 => by
    obtain ⟨d, e, sf, q3⟩ := q1.last
    by_cases hl : x.length ≤ sizeLine
    · rw [if_pos hl] at e
      cases e
      refine ⟨by rw [r1.length]; exact hl, fun p hp => q3 _ _ _ (Al.new sf hp) (.tup (.of upd_same) (r1.mono (same_new (sf.free hp))))⟩
    · rw [if_neg hl] at e
      cases e⟩
theorem dv_lst {fs : M G (List D)} (h : PE X e (tLst (tA S pv fs))) : PE X e (tD S pv (mlst fs)) :=
  pe_weak h fun σ H Q ⟨F, q⟩ => ⟨F, q.step fun x v F1 H1 s1 r1 q1 => by
    obtain ⟨d, e, sf, q3⟩ := q1.last
    by_cases hl : x.length ≤ sizeLine
    · rw [if_pos hl] at e
      cases e
      refine ⟨by rw [r1.length]; exact hl, fun p hp => q3 _ _ _ (Al.new sf hp) (.lst (.of upd_same) (r1.mono (same_new (sf.free hp))))⟩
    · rw [if_neg hl] at e
      cases e⟩
/-- a list that its slot will own -/
def molst (fs : M G (List D)) : M G (Ow G) := mbnd fs fun ds => mlft (if ds.length ≤ sizeLine then some (.seq ds) else none)
/-- something new is owned and waits -/
theorem RE.newO {F H : Hp} {ω : Om} {σ : L2.St} {ρ : List (Sl G)} {p : Addr} {u : HO} (r : RE S pv F H ω σ ρ) (hp : H p = none) (n : Nat) (hn : σ.length ≤ n) :
    RE S pv F (upd H p u) (fun b => if b = p then some n else ω b) σ ρ ∧ Ev F H ω F (upd H p u) (fun b => if b = p then some n else ω b) := by
  refine ⟨⟨r.len, r.fh.trans (same_new hp), fun b i e => ?_, fun i s e => ?_, r.fix⟩, Same.refl F, fun _ _ h => .inl h, fun b o h _ => same_new hp b o h, fun b h => ?_, fun b h => ne_none_of (same_new hp) h⟩
  · by_cases hb : b = p
    · subst hb
      exact ⟨r.fh.free hp, by rw [upd_same]; simp⟩
    · rw [if_neg hb] at e
      rw [upd_ne hb]
      exact r.wf b i e
  · obtain ⟨x, h1, h2⟩ := r.slot i s e
    refine ⟨x, h1, h2.mono (Same.refl F) (fun b o _ h => same_new hp b o h) fun b hb => ?_⟩
    show (if b = p then some n else ω b) = some i
    rw [if_neg (fun z => ?_)]
    · exact hb
    · rw [z] at hb
      exact absurd hp (r.wf p i hb).2
  · by_cases hb : b = p
    · subst hb; exact .inr hp
    · rw [if_neg hb] at h; exact .inl h
theorem do_lst {fs : M G (List D)} (h : PE X e (tLst (tA S pv fs))) : PE X e (tO S pv (molst fs)) :=
  pe_weak h fun σ H Q ⟨F, q⟩ => ⟨F, q.step fun x v F1 H1 s1 r1 q1 => by
    obtain ⟨ω, ρ, re, a, ρ', e, q3⟩ := q1
    unfold mlft at e
    by_cases hl : x.length ≤ sizeLine
    · rw [if_pos hl] at e
      cases e
      refine ⟨by rw [r1.length]; exact hl, fun p hp => ?_⟩
      obtain ⟨re2, ev⟩ := re.newO (u := .lst v) hp σ.length (Nat.le_refl _)
      refine q3 _ _ _ _ ev re2 ⟨p, v, rfl, ?_, upd_same, r1⟩
      show (if p = p then some σ.length else ω p) = some σ.length
      rw [if_pos rfl]
    · rw [if_neg hl] at e
      cases e⟩
/-! and, or, not, if .. else -/
def mtest (f : M G D) : M G Bool := mbnd f fun d => mlft (match d with | .bool b => some b | _ => none)
theorem mtest_step {f : M G D} {F : Hp} {σ : L2.St} {H : Hp} {Q : Bool → Hp → Prop} (q : XF S pv (RV fun _ b a => b = a) F (mtest f) σ H Q) : XF S pv (RV (Dp X.K)) F f σ H fun x H1 => ∃ c, x = .bl c ∧ Q c H1 :=
  q.step fun x v F1 H1 s1 r1 q1 => by
    obtain ⟨d, e, sf, q3⟩ := q1.last
    cases x with
    | bool b =>
      cases e
      cases r1
      exact ⟨_, rfl, q3 F1 H1 _ (Al.refl sf) rfl⟩
    | _ => cases e
theorem dt_B {f : M G D} (h : PT X e (tB (tD S pv f))) : PT X e (tT S pv (mtest f)) := pt_weak h fun σ H Q ⟨F, q⟩ => ⟨F, mtest_step q⟩
theorem dt_T {f : M G D} (h : PT X e (tTest (tD S pv f))) : PT X e (tT S pv (mtest f)) := pt_weak h fun σ H Q ⟨F, q⟩ => ⟨F, mtest_step q⟩
/-- a comparison as a test -/
theorem dt_op {r : R2} {g : D → D → Option D} (h : PT X e (tTest (tOp r (tD S pv fa) (tD S pv fb)))) (hd : DOp X.K r g) : PT X e (tT S pv (mtest (mbnd fa fun x => mbnd fb fun y => mlft (g x y)))) :=
  pt_weak h fun σ H Q ⟨F, q⟩ => by
    have q' := mtest_step q
    exact ⟨F, q'.step fun x v F1 H1 s1 r1 q1 => ⟨F1, q1.step fun y u F2 H2 s2 r2 q2 => by
      obtain ⟨d, e, sf, q3⟩ := q2.last
      exact hd F2 H2 v u x y d _ sf (r1.mono s2) r2 e fun F' H' v al r => q3 F' H' v al r⟩⟩
def mand (f g : M G Bool) : M G Bool := mbnd f fun c => if c = true then g else mret false
def mor (f g : M G Bool) : M G Bool := mbnd f fun c => if c = true then mret true else g
def mnot (f : M G Bool) : M G Bool := mbnd f fun c => mret (!c)
theorem dw_and1 {f : M G Bool} (ha : PT X a (tT S pv f)) : PW X (.BoolOp .And [a] pos) (tT S pv f) := pw_and1 ha
theorem dw_or1 {f : M G Bool} (ha : PT X a (tT S pv f)) : PW X (.BoolOp .Or [a] pos) (tT S pv f) := pw_or1 ha
theorem dw_and {rest : List Expr} {f g : M G Bool} (ha : PT X a (tT S pv f)) (hb : PW X (.BoolOp .And (b :: rest) pos) (tT S pv g)) : PW X (.BoolOp .And (a :: b :: rest) pos) (tT S pv (mand f g)) :=
  pw_weak (pw_and ha hb) fun σ H Q ⟨F, q⟩ => ⟨F, q.step fun x v F1 H1 s1 r1 q1 => by
    cases r1
    cases x with
    | true => exact iteT ⟨F1, q1⟩
    | false => exact iteF (q1.ret1 rfl)⟩
theorem dw_or {rest : List Expr} {f g : M G Bool} (ha : PT X a (tT S pv f)) (hb : PW X (.BoolOp .Or (b :: rest) pos) (tT S pv g)) : PW X (.BoolOp .Or (a :: b :: rest) pos) (tT S pv (mor f g)) :=
  pw_weak (pw_or ha hb) fun σ H Q ⟨F, q⟩ => ⟨F, q.step fun x v F1 H1 s1 r1 q1 => by
    cases r1
    cases x with
    | true => exact iteT (q1.ret1 rfl)
    | false => exact iteF ⟨F1, q1⟩⟩
theorem dt_not {f : M G Bool} (ha : PT X a (tT S pv f)) : PT X (.UnaryOp .Not a pos) (tT S pv (mnot f)) :=
  pt_weak (pt_not ha) fun σ H Q ⟨F, q⟩ => ⟨F, q.step fun x v F1 H1 s1 r1 q1 => by
    cases r1
    exact q1.ret1 rfl⟩
def mif {α : Type} (c : M G Bool) (f g : M G α) : M G α := mbnd c fun b => if b = true then f else g
theorem dv_if {c : Expr} {fc : M G Bool} (hc : PT X c (tT S pv fc)) (ha : PE X a (tD S pv fa)) (hb : PE X b (tD S pv fb)) : PE X (.IfExp c a b pos) (tD S pv (mif fc fa fb)) :=
  pe_weak (pe_ifExp hc ha hb) fun σ H Q ⟨F, q⟩ => ⟨F, q.step fun x v F1 H1 s1 r1 q1 => by
    cases r1
    cases x with
    | true => exact iteT ⟨F1, q1⟩
    | false => exact iteF ⟨F1, q1⟩⟩
def mandV (f g : M G D) : M G D := mbnd f fun d => match d with | .bool true => g | .bool false => mret (.bool false) | _ => fun _ => none
def morV (f g : M G D) : M G D := mbnd f fun d => match d with | .bool false => g | .bool true => mret (.bool true) | _ => fun _ => none
def mnotV (f : M G D) : M G D := mbnd f fun d => match d with | .bool b => mret (.bool !b) | _ => fun _ => none
theorem XF.fail {α β : Type} {R : Hp → Hp → (Addr → Prop) → β → α → Prop} {F H : Hp} {σ : L2.St} {Q : β → Hp → Prop} {p : Prop} (h : XF S pv R F (fun _ => none) σ H Q) : p := by
  obtain ⟨ω, ρ, re, a, ρ', e, q⟩ := h
  cases e
theorem dv_and {rest : List Expr} (ha : PE X a (tD S pv fa)) (hb : PE X (.BoolOp .And (b :: rest) pos) (tD S pv fb)) : PE X (.BoolOp .And (a :: b :: rest) pos) (tD S pv (mandV fa fb)) :=
  pe_weak (pe_and ha hb) fun σ H Q ⟨F, q⟩ => ⟨F, q.step fun x v F1 H1 s1 r1 q1 => by
    cases x with
    | bool c =>
      cases r1
      cases c with
      | true => exact ⟨_, rfl, iteT ⟨F1, q1⟩⟩
      | false => exact ⟨_, rfl, iteF (q1.ret1 (.bl false))⟩
    | _ => exact XF.fail q1⟩
theorem dv_or {rest : List Expr} (ha : PE X a (tD S pv fa)) (hb : PE X (.BoolOp .Or (b :: rest) pos) (tD S pv fb)) : PE X (.BoolOp .Or (a :: b :: rest) pos) (tD S pv (morV fa fb)) :=
  pe_weak (pe_or ha hb) fun σ H Q ⟨F, q⟩ => ⟨F, q.step fun x v F1 H1 s1 r1 q1 => by
    cases x with
    | bool c =>
      cases r1
      cases c with
      | true => exact ⟨_, rfl, iteT (q1.ret1 (.bl true))⟩
      | false => exact ⟨_, rfl, iteF ⟨F1, q1⟩⟩
    | _ => exact XF.fail q1⟩
theorem dv_one {op} (h : PE X a (tD S pv fa)) : PE X (.BoolOp op [a] pos) (tD S pv fa) := pe_one h
theorem dv_not (ha : PE X a (tD S pv fa)) : PE X (.UnaryOp .Not a pos) (tD S pv (mnotV fa)) :=
  pe_weak (pe_not ha) fun σ H Q ⟨F, q⟩ => ⟨F, q.step fun x v F1 H1 s1 r1 q1 => by
    cases x with
    | bool c =>
      cases r1
      exact ⟨_, rfl, q1.ret1 (.bl _)⟩
    | _ => exact XF.fail q1⟩
/-- by truth -/
def dtru : D → Option Bool
  | .none => some false
  | .bool b => some b
  | .int i => some (i != 0)
  | .str y => if y.length ≤ sizeLine then some ((y.length : Int) != 0) else none
  | .list ds => some (!ds.isEmpty)
  | .tuple ds => some (!ds.isEmpty)
  | .dict _ => none
theorem tru_dp {F H : Hp} {v : V} {d : D} {b : Bool} (s : Same F H) (r : Dp X.K F v d) (e : dtru d = some b) : TruV X.K v H b := by
  cases r with
  | non => cases e; exact rfl
  | bl c => cases e; exact rfl
  | int i => cases e; exact rfl
  | str x =>
    simp only [dtru] at e
    by_cases hl : x.length ≤ sizeLine
    · rw [if_pos hl] at e
      cases e
      exact ⟨hl, rfl⟩
    · rw [if_neg hl] at e
      cases e
  | lst hs ha =>
    cases e
    exact .inl ⟨_, s.seq hs, by cases ha <;> rfl⟩
  | tup hs ha =>
    cases e
    exact .inr (.inl ⟨_, sqt_mono s hs, by cases ha <;> rfl⟩)
def mtru (f : M G D) : M G Bool := mbnd f fun d => mlft (dtru d)
theorem dt_tru (ha : PE X e (tD S pv fa)) (he : ∀ whole, isTrue e X.env whole = (do let v ← whole; standAt e.pos; holding [v] (truthy v)) := by intro _; rfl) : PT X e (tT S pv (mtru fa)) :=
  pt_weak (pt_truth ha he) fun σ H Q ⟨F, q⟩ => ⟨F, q.step fun x v F1 H1 s1 r1 q1 => by
    obtain ⟨d, e, sf, q3⟩ := q1.last
    exact ⟨d, tru_dp sf r1 e, q3 F1 H1 d (Al.refl sf) rfl⟩⟩
end
end DL
set_option Elab.async false
set_option linter.all false
set_option maxRecDepth 100000
set_option maxHeartbeats 1000000
namespace DL
open PySem PySem.Spec PyProof.Rows L2
variable {G : Type}

/-! ### statements -/
inductive Out (G : Type) where
  | nx | bk | ct | rt (d : D) | ro (o : Ow G)
abbrev SM (G : Type) := M G (Out G)
section
variable {K : PySem.W.Frag} (S : GS K G) (pv : List V)
def Post (En : Ends) (F H : Hp) (ω : Om) (σ : L2.St) : Out G → Prop
  | .nx => En.nx σ H
  | .bk => En.bk σ H
  | .ct => En.ct σ H
  | .rt d => ∀ v, Dp K F v d → En.rt v H
  | .ro o => ∀ v, OwOk S F H (fun b => ω b = some σ.length) v o → En.rt v H
def SF (F : Hp) (f : SM G) (En : Ends) (σ : L2.St) (H : Hp) : Prop :=
  ∃ ω ρ, RE S pv F H ω σ ρ ∧ ∃ out ρ', f ρ = some (out, ρ') ∧ ∀ F' H' ω' σ', Ev F H ω F' H' ω' → RE S pv F' H' ω' σ' ρ' → σ'.length = σ.length → Post S En F' H' ω' σ' out
def tS (f : SM G) : TS := fun En σ H => ∃ F, SF S pv F f En σ H
def sseq (f g : SM G) : SM G := fun ρ => match f ρ with
  | some (.nx, ρ') => g ρ'
  | r => r
def sset (i : Nat) (f : M G D) : SM G := mbnd f fun d => fun ρ => some (.nx, ρ.set i (.val d))
def ssetO (np i : Nat) (f : M G (Ow G)) : SM G := mbnd f fun o => fun ρ => if np ≤ i then some (.nx, ρ.set i (.own o)) else none
def sret (f : M G D) : SM G := mbnd f fun d => mret (.rt d)
def sretO (f : M G (Ow G)) : SM G := mbnd f fun o => mret (.ro o)
def sexpr (f : M G D) : SM G := mbnd f fun _ => mret .nx
def sif (c : M G Bool) (f g : SM G) : SM G := mbnd c fun b => if b = true then f else g
def snx : SM G := mret .nx
def sbk : SM G := mret .bk
def sct : SM G := mret .ct
def snever : SM G := fun _ => none
end

section
variable {X : Cx} {S : GS X.K G} {pv : List V} {e a b : Expr} {st : Stmt} {rest : List Stmt} {pos : Pos}
theorem SF.post {f : SM G} {En En2 : Ends} {σ : L2.St} {H F : Hp} (h : SF S pv F f En σ H) (hc : ∀ (F' H' : Hp) (ω' : Om) (σ' : L2.St) (out : Out G), Post S En F' H' ω' σ' out → Post S En2 F' H' ω' σ' out) : SF S pv F f En2 σ H := by
  obtain ⟨ω, ρ, re, out, ρ', e, q⟩ := h
  exact ⟨ω, ρ, re, out, ρ', e, fun F' H' ω' σ' ev re' hl => hc _ _ _ _ _ (q F' H' ω' σ' ev re' hl)⟩
theorem dss_nil : PSs X [] (tS S pv snx) := pss_weak pss_nil fun En σ H ⟨F, ω, ρ, re, out, ρ', e, q⟩ => by
  cases e
  exact q F H ω σ .refl re rfl
theorem dss_cons {f g : SM G} (h1 : PS X st (tS S pv f)) (h2 : PSs X rest (tS S pv g)) : PSs X (st :: rest) (tS S pv (sseq f g)) :=
  pss_weak (pss_cons h1 h2) fun En σ H ⟨F, ω, ρ, re, out, ρ', e, q⟩ => by
    unfold sseq at e
    refine ⟨F, ω, ρ, re, ?_⟩
    cases e1 : f ρ with
    | none => rw [e1] at e; cases e
    | some p =>
      obtain ⟨o1, ρ1⟩ := p
      rw [e1] at e
      refine ⟨o1, ρ1, rfl, fun F1 H1 ω1 σ1 ev1 re1 hl1 => ?_⟩
      cases o1 with
      | nx => exact ⟨F1, ω1, ρ1, re1, out, ρ', e, fun F2 H2 ω2 σ2 ev2 re2 hl2 => q F2 H2 ω2 σ2 (ev1.trans ev2) re2 (hl2.trans hl1)⟩
      | bk => cases e; exact q F1 H1 ω1 σ1 ev1 re1 hl1
      | ct => cases e; exact q F1 H1 ω1 σ1 ev1 re1 hl1
      | rt d => cases e; exact q F1 H1 ω1 σ1 ev1 re1 hl1
      | ro o => cases e; exact q F1 H1 ω1 σ1 ev1 re1 hl1
theorem dss_one {f : SM G} (h1 : PS X st (tS S pv f)) : PSs X [st] (tS S pv f) := pss_one h1
theorem XF.elim {α β : Type} {R : Hp → Hp → (Addr → Prop) → β → α → Prop} {F H : Hp} {σ : L2.St} {Q : β → Hp → Prop} {f : M G α} (ω : Om) (ρ : List (Sl G)) (re : RE S pv F H ω σ ρ) (a : α) (ρ' : List (Sl G)) (e : f ρ = some (a, ρ'))
    (q : ∀ F' H' ω' b, Ev F H ω F' H' ω' → RE S pv F' H' ω' σ ρ' → R F' H' (fun c => ω' c = some σ.length) b a → Q b H') : XF S pv R F f σ H Q := ⟨ω, ρ, re, a, ρ', e, q⟩
theorem mbnd_some {α β : Type} {f : M G α} {k : α → M G β} {ρ : List (Sl G)} {r : β × List (Sl G)} (e : mbnd f k ρ = some r) : ∃ a ρ1, f ρ = some (a, ρ1) ∧ k a ρ1 = some r := by
  unfold mbnd at e
  cases e1 : f ρ with
  | none => rw [e1] at e; cases e
  | some p => rw [e1] at e; exact ⟨p.1, p.2, rfl, e⟩
theorem ds_set {i : Nat} {f : M G D} (h : PS X st (tAsg (tD S pv f) (gName i))) : PS X st (tS S pv (sset i f)) :=
  ps_weak h fun En σ H ⟨F, ω, ρ, re, out, ρ', e, q⟩ => by
    obtain ⟨d, ρ1, e1, e2⟩ := mbnd_some e
    cases e2
    exact ⟨F, ω, ρ, re, d, ρ1, e1, fun F1 H1 ω1 v ev1 re1 r1 => q F1 H1 ω1 _ ev1 (re1.setV r1) (List.length_set ..)⟩
theorem ds_setO {i np : Nat} {f : M G (Ow G)} (h : PS X st (tAsg (tO S pv f) (gName i))) (hp : pv.length = np) : PS X st (tS S pv (ssetO np i f)) :=
  ps_weak h fun En σ H ⟨F, ω, ρ, re, out, ρ', e, q⟩ => by
    obtain ⟨o, ρ1, e1, e2⟩ := mbnd_some e
    by_cases hi : np ≤ i
    · rw [if_pos hi] at e2
      cases e2
      exact ⟨F, ω, ρ, re, o, ρ1, e1, fun F1 H1 ω1 v ev1 re1 r1 => q F1 H1 _ _ (ev1.trans Ev.setO) (re1.setO (List.getElem?_eq_none (by omega)) r1) (List.length_set ..)⟩
    · rw [if_neg hi] at e2
      cases e2
theorem ds_ret {f : M G D} (h : PS X st (tRet (tD S pv f))) : PS X st (tS S pv (sret f)) :=
  ps_weak h fun En σ H ⟨F, ω, ρ, re, out, ρ', e, q⟩ => by
    obtain ⟨d, ρ1, e1, e2⟩ := mbnd_some e
    cases e2
    exact ⟨F, ω, ρ, re, d, _, e1, fun F1 H1 ω1 v ev1 re1 r1 => q F1 H1 ω1 σ ev1 re1 rfl v r1⟩
theorem ds_retO {f : M G (Ow G)} (h : PS X st (tRet (tO S pv f))) : PS X st (tS S pv (sretO f)) :=
  ps_weak h fun En σ H ⟨F, ω, ρ, re, out, ρ', e, q⟩ => by
    obtain ⟨d, ρ1, e1, e2⟩ := mbnd_some e
    cases e2
    exact ⟨F, ω, ρ, re, d, _, e1, fun F1 H1 ω1 v ev1 re1 r1 => q F1 H1 ω1 σ ev1 re1 rfl v r1⟩
theorem ds_retN {pos} : PS X (.Return none pos) (tS S pv (mret (.rt .none))) :=
  ps_weak ps_retN fun En σ H ⟨F, ω, ρ, re, out, ρ', e, q⟩ => by
    cases e
    exact q F H ω σ .refl re rfl .non .non
theorem ds_expr {f : M G D} (h : PS X st (tDrop (tD S pv f))) : PS X st (tS S pv (sexpr f)) :=
  ps_weak h fun En σ H ⟨F, ω, ρ, re, out, ρ', e, q⟩ => by
    obtain ⟨d, ρ1, e1, e2⟩ := mbnd_some e
    cases e2
    exact ⟨F, ω, ρ, re, d, _, e1, fun F1 H1 ω1 v ev1 re1 r1 => q F1 H1 ω1 σ ev1 re1 rfl⟩
theorem ds_if {c : Expr} {bs es : List Stmt} {fc : M G Bool} {f g : SM G} (hc : PT X c (tT S pv fc)) (ha : PSs X bs (tS S pv f)) (hb : PSs X es (tS S pv g)) : PS X (.If c bs es pos) (tS S pv (sif fc f g)) :=
  ps_weak (ps_if hc ha hb) fun En σ H ⟨F, ω, ρ, re, out, ρ', e, q⟩ => by
    obtain ⟨d, ρ1, e1, e2⟩ := mbnd_some e
    refine ⟨F, ω, ρ, re, d, ρ1, e1, fun F1 H1 ω1 v ev1 re1 r1 => ?_⟩
    cases r1
    cases d with
    | true => exact iteT ⟨F1, ω1, ρ1, re1, out, ρ', e2, fun F2 H2 ω2 σ2 ev2 re2 hl2 => q F2 H2 ω2 σ2 (ev1.trans ev2) re2 hl2⟩
    | false => exact iteF ⟨F1, ω1, ρ1, re1, out, ρ', e2, fun F2 H2 ω2 σ2 ev2 re2 hl2 => q F2 H2 ω2 σ2 (ev1.trans ev2) re2 hl2⟩
theorem ds_pass {pos} : PS X (.Pass pos) (tS S pv snx) := ps_weak ps_pass fun En σ H ⟨F, ω, ρ, re, out, ρ', e, q⟩ => by
  cases e
  exact q F H ω σ .refl re rfl
theorem ds_doc {x j pos pos'} : PS X (.Expr (.Constant (.str x) j pos) pos') (tS S pv snx) := ps_weak ps_doc fun En σ H ⟨F, ω, ρ, re, out, ρ', e, q⟩ => by
  cases e
  exact q F H ω σ .refl re rfl
theorem ds_break {pos} : PS X (.Break pos) (tS S pv sbk) := ps_weak ps_break fun En σ H ⟨F, ω, ρ, re, out, ρ', e, q⟩ => by
  cases e
  exact q F H ω σ .refl re rfl
theorem ds_continue {pos} : PS X (.Continue pos) (tS S pv sct) := ps_weak ps_continue fun En σ H ⟨F, ω, ρ, re, out, ρ', e, q⟩ => by
  cases e
  exact q F H ω σ .refl re rfl
theorem ds_never : PS X st (tS S pv snever) := ps_weak ps_never fun En σ H ⟨F, ω, ρ, re, out, ρ', e, q⟩ => by cases e
theorem dss_never {sts : List Stmt} : PSs X sts (tS S pv snever) := pss_weak pss_never fun En σ H ⟨F, ω, ρ, re, out, ρ', e, q⟩ => by cases e
/-- x += e -/
def DIp (K : PySem.W.Frag) (ti : TIp) (g : D → D → Option D) : Prop :=
  ∀ F H x y dx dy d (Q : VK), Same F H → Dp K F x dx → Dp K F y dy → g dx dy = some d → (∀ F' H' v, Al F H F' H' → Dp K F' v d → Q v H') → ti x y H Q
def saug (i : Nat) (f : M G D) (g : D → D → Option D) : SM G := fun ρ => match ρ[i]? with
  | some (.val x) => mbnd f (fun y => mbnd (mlft (g x y)) fun d => fun ρ => some (.nx, ρ.set i (.val d))) ρ
  | _ => none
theorem ds_aug {i : Nat} {f : M G D} {ti : TIp} {g : D → D → Option D} (h : PS X st (tAug i (tD S pv f) ti)) (hd : DIp X.K ti g) : PS X st (tS S pv (saug i f g)) :=
  ps_weak h fun En σ H ⟨F, ω, ρ, re, out, ρ', e, q⟩ => by
    unfold saug at e
    split at e
    · rename_i x hx
      obtain ⟨y, ρ1, e1, e2⟩ := mbnd_some e
      obtain ⟨d, ρ2, e3, e4⟩ := mbnd_some e2
      obtain ⟨xo, h1, v, rfl, r⟩ := re.slot i _ hx
      refine ⟨v, h1, F, ω, ρ, re, y, ρ1, e1, fun F1 H1 ω1 u ev1 re1 r1 => ?_⟩
      unfold mlft at e3
      cases eg : g x y with
      | none => rw [eg] at e3; cases e3
      | some d' =>
        rw [eg] at e3
        cases e3
        cases e4
        exact hd F1 H1 v u x y d _ re1.fh (r.mono ev1.ff) r1 eg fun F2 H2 z al r2 => q F2 H2 ω1 _ (ev1.trans al.ev) ((re1.al al).setV r2) (List.length_set ..)
    · cases e
end

/-! ### targets -/
section
variable {K : PySem.W.Frag} (S : GS K G) (pv : List V)
/-- a target: how the slots turn; is: which may be stored -/
def DTg (g : TG) (is : List Nat) (tg : D → List (Sl G) → Option (List (Sl G))) : Prop :=
  ∀ F H ω σ ρ v d ρ1 (Q : L2.St → Hp → Prop), RE S pv F H ω σ ρ → Dp K F v d → tg d ρ = some ρ1 →
    (∀ σ1, RE S pv F H ω σ1 ρ1 → σ1.length = σ.length → (∀ k, k ∉ is → σ1[k]? = σ[k]?) → Q σ1 H) → g v σ H Q
def DTgs (g : TGs) (is : List Nat) (tg : List D → List (Sl G) → Option (List (Sl G))) : Prop :=
  ∀ F H ω σ ρ vs ds ρ1 (Q : L2.St → Hp → Prop), RE S pv F H ω σ ρ → DpAll K F vs ds → tg ds ρ = some ρ1 →
    (∀ σ1, RE S pv F H ω σ1 ρ1 → σ1.length = σ.length → (∀ k, k ∉ is → σ1[k]? = σ[k]?) → Q σ1 H) → g vs σ H Q
def gN (i : Nat) : D → List (Sl G) → Option (List (Sl G)) := fun d ρ => some (ρ.set i (.val d))
def gsNil : List D → List (Sl G) → Option (List (Sl G)) := fun ds ρ => match ds with | [] => some ρ | _ => none
def gsCons (t : D → List (Sl G) → Option (List (Sl G))) (u : List D → List (Sl G) → Option (List (Sl G))) : List D → List (Sl G) → Option (List (Sl G)) :=
  fun ds ρ => match ds with | [] => none | d :: r => match t d ρ with | none => none | some ρ1 => u r ρ1
def gT (n : Nat) (u : List D → List (Sl G) → Option (List (Sl G))) : D → List (Sl G) → Option (List (Sl G)) :=
  fun d ρ => match d with | .tuple ds => if ds.length = n then u ds ρ else none | _ => none
variable {S pv}
theorem dg_name (i : Nat) : DTg S pv (gName i) [i] (gN i) := fun F H ω σ ρ v d ρ1 Q re r e q => by
  cases e
  exact q _ (re.setV r) (List.length_set ..) fun k hk => List.getElem?_set_ne (fun z => hk (by rw [z]; exact List.mem_singleton_self _))
theorem dgs_nil : DTgs S pv gNil [] gsNil := fun F H ω σ ρ vs ds ρ1 Q re r e q => by
  cases r with
  | nil => cases e; exact ⟨rfl, q σ re rfl fun _ _ => rfl⟩
  | cons _ _ => cases e
theorem dgs_cons {g : TG} {gs : TGs} {is js : List Nat} {t u} (h1 : DTg S pv g is t) (h2 : DTgs S pv gs js u) : DTgs S pv (gCons g gs) (is ++ js) (gsCons t u) := fun F H ω σ ρ vs ds ρ1 Q re r e q => by
  cases r with
  | nil => cases e
  | cons r1 r2 =>
    rename_i v vs d ds
    unfold gsCons at e
    cases e1 : t d ρ with
    | none => simp only [e1] at e; cases e
    | some ρ2 =>
      simp only [e1] at e
      exact ⟨v, vs, rfl, h1 F H ω σ ρ v d ρ2 _ re r1 e1 fun σ1 re1 hl1 hk1 => h2 F H ω σ1 ρ2 vs ds ρ1 _ re1 r2 e fun σ2 re2 hl2 hk2 => q σ2 re2 (hl2.trans hl1) fun k hk => (hk2 k fun z => hk (List.mem_append_right _ z)).trans (hk1 k fun z => hk (List.mem_append_left _ z))⟩
theorem dg_tup {n : Nat} {gs : TGs} {is : List Nat} {u} (h : DTgs S pv gs is u) : DTg S pv (gTup K n gs) is (gT n u) := fun F H ω σ ρ v d ρ1 Q re r e q => by
  cases r with
  | tup hs ha =>
    rename_i a xs ds
    unfold gT at e
    by_cases hl : ds.length = n
    · simp only [hl, if_true] at e
      exact ⟨a, xs, rfl, sqt_mono re.fh hs, ha.length.trans hl, h F H ω σ ρ xs ds ρ1 Q re ha e q⟩
    · simp only [hl, if_false] at e
      cases e
  | _ => cases e
end
section
variable {X : Cx} {S : GS X.K G} {pv : List V} {st : Stmt}
/-- a, b = e -/
def sasg (f : M G D) (tg : D → List (Sl G) → Option (List (Sl G))) : SM G := mbnd f fun d => fun ρ => match tg d ρ with | none => none | some ρ1 => some (.nx, ρ1)
theorem ds_asg {f : M G D} {g : TG} {is : List Nat} {tg} (h : PS X st (tAsg (tD S pv f) g)) (hg : DTg S pv g is tg) : PS X st (tS S pv (sasg f tg)) :=
  ps_weak h fun En σ H ⟨F, ω, ρ, re, out, ρ', e, q⟩ => by
    obtain ⟨d, ρ1, e1, e2⟩ := mbnd_some e
    refine ⟨F, ω, ρ, re, d, ρ1, e1, fun F1 H1 ω1 v ev1 re1 r1 => ?_⟩
    cases e3 : tg d ρ1 with
    | none => simp only [e3] at e2; cases e2
    | some ρ2 =>
      simp only [e3] at e2
      cases e2
      exact hg F1 H1 ω1 σ ρ1 v d _ _ re1 r1 e3 fun σ2 re2 hl2 _ => q F1 H1 ω1 σ2 ev1 re2 hl2
end

/-! ### what is walked -/
structure Wk (K : PySem.W.Frag) (F : Hp) (J : It) (ds : List D) : Prop where
  go : ∀ i F1 H, Same F F1 → Same F1 H → i < ds.length → J.go i H
  stop : ∀ F1 H, Same F F1 → Same F1 H → J.stop ds.length H
  yld : ∀ i F1 H x H', Same F F1 → Same F1 H → i < ds.length → J.yld i H x H' → ∃ F' d, ds[i]? = some d ∧ Al F1 H F' H' ∧ Dp K F' x d
section
variable {K : PySem.W.Frag} (S : GS K G) (pv : List V)
def tI (f : M G (List D)) : TI := tX S pv (RV (Wk K)) f
def loopM (tg : D → List (Sl G) → Option (List (Sl G))) (body : SM G) : List D → SM G
  | [] => fun ρ => some (.nx, ρ)
  | d :: ds => fun ρ => match tg d ρ with
    | none => none
    | some ρ1 => match body ρ1 with
      | some (.nx, ρ2) => loopM tg body ds ρ2
      | some (.ct, ρ2) => loopM tg body ds ρ2
      | some (.bk, ρ2) => some (.nx, ρ2)
      | some (.rt d, ρ2) => some (.rt d, ρ2)
      | some (.ro o, ρ2) => some (.ro o, ρ2)
      | none => none
def sfor (it : M G (List D)) (tg : D → List (Sl G) → Option (List (Sl G))) (body : SM G) : SM G := mbnd it fun ds => loopM tg body ds
end
section
variable {X : Cx} {S : GS X.K G} {pv : List V} {st : Stmt} {tgE e : Expr}
theorem pi_weak {wi wi' : TI} (h : PI X tgE e wi) (w : ∀ σ H R, wi' σ H R → wi σ H R) : PI X tgE e wi' := ⟨fun pins s σ H R I q => h.run pins s σ H R I (w σ H R q)⟩
def mlist (f : M G D) : M G (List D) := mbnd f fun d => mlft (match d with | .list ds => some ds | _ => none)
def mtuple (f : M G D) : M G (List D) := mbnd f fun d => mlft (match d with | .tuple ds => some ds | _ => none)
theorem get_lt {ds : List D} {i : Nat} (h : i < ds.length) : ds[i]? = some ds[i] := List.getElem?_eq_getElem h
theorem di_list {f : M G D} (h : PI X tgE e (iList X.K (tD S pv f))) : PI X tgE e (tI S pv (mlist f)) :=
  pi_weak h fun σ H R ⟨F, q⟩ => ⟨F, q.step fun d v F1 H1 s1 r1 q1 => by
    obtain ⟨ds, e, sf, q3⟩ := q1.last
    cases r1 with
    | lst hs ha =>
      rename_i a xs ds'
      cases e
      refine ⟨a, rfl, ⟨xs, sf.seq hs⟩, q3 F1 H1 _ (Al.refl sf) ⟨fun i F2 H2 s2 s3 hi => ?_, fun F2 H2 s2 s3 => ?_, fun i F2 H2 x H' s2 s3 hi y => ?_⟩⟩
      · obtain ⟨v, h1, h2⟩ := ha.get (get_lt hi)
        exact ⟨xs, v, s3.seq (s2.seq hs), h1⟩
      · exact ⟨xs, s3.seq (s2.seq hs), by rw [ha.length]; exact Nat.le_refl _⟩
      · obtain ⟨rfl, y⟩ := y
        obtain ⟨v, h1, h2⟩ := ha.get (get_lt hi)
        have e := (y xs (s3.seq (s2.seq hs))).symm.trans h1
        cases e
        exact ⟨F2, _, get_lt hi, Al.refl s3, h2.mono s2⟩
    | _ => cases e⟩
theorem di_tup {f : M G D} (h : PI X tgE e (iTup X.K (tD S pv f))) : PI X tgE e (tI S pv (mtuple f)) :=
  pi_weak h fun σ H R ⟨F, q⟩ => ⟨F, q.step fun d v F1 H1 s1 r1 q1 => by
    obtain ⟨ds, e, sf, q3⟩ := q1.last
    cases r1 with
    | tup hs ha =>
      rename_i a xs ds'
      cases e
      refine ⟨a, rfl, ⟨xs, sqt_mono sf hs⟩, q3 F1 H1 _ (Al.refl sf) ⟨fun i F2 H2 s2 s3 hi => ?_, fun F2 H2 s2 s3 => ?_, fun i F2 H2 x H' s2 s3 hi y => ?_⟩⟩
      · obtain ⟨v, h1, h2⟩ := ha.get (get_lt hi)
        exact ⟨xs, v, sqt_mono s3 (sqt_mono s2 hs), h1⟩
      · exact ⟨xs, sqt_mono s3 (sqt_mono s2 hs), by rw [ha.length]; exact Nat.le_refl _⟩
      · obtain ⟨rfl, y⟩ := y
        obtain ⟨v, h1, h2⟩ := ha.get (get_lt hi)
        have e := (y xs (sqt_mono s3 (sqt_mono s2 hs))).symm.trans h1
        cases e
        exact ⟨F2, _, get_lt hi, Al.refl s3, h2.mono s2⟩
    | _ => cases e⟩
def rngD (lo : Int) (n : Nat) : List D := (List.range n).map fun (i : Nat) => PyData.int (lo + (i : Int))
theorem wk_range {F : Hp} (lo : Int) (n : Nat) : Wk X.K F (Itr lo n) (rngD lo n) := by
  have hl : (rngD lo n).length = n := by unfold rngD; rw [List.length_map, List.length_range]
  refine ⟨fun i F1 H _ _ hi => by rw [hl] at hi; exact hi, fun F1 H _ _ => by rw [hl]; exact Nat.le_refl _, fun i F1 H x H' _ s2 hi y => ?_⟩
  obtain ⟨rfl, rfl⟩ := y
  rw [hl] at hi
  refine ⟨F1, .int (lo + i), ?_, Al.refl s2, .int _⟩
  unfold rngD
  rw [List.getElem?_map, List.getElem?_range hi]
  rfl
def mrange1 (f : M G (List D)) : M G (List D) := mbnd f fun ds => mlft (match ds with | [.int j] => if -(2 ^ 62) ≤ j ∧ j < 2 ^ 62 then some (rngD 0 j.toNat) else none | _ => none)
def mrange2 (f : M G (List D)) : M G (List D) := mbnd f fun ds => mlft (match ds with | [.int i, .int j] => if -(2 ^ 62) ≤ i ∧ i < 2 ^ 62 ∧ -(2 ^ 62) ≤ j ∧ j < 2 ^ 62 then some (rngD i (j - i).toNat) else none | _ => none)
theorem di_range1 {f : M G (List D)} (h : PI X tgE e (iRng1 (tA S pv f))) : PI X tgE e (tI S pv (mrange1 f)) :=
  pi_weak h fun σ H R ⟨F, q⟩ => ⟨F, q.step fun d v F1 H1 s1 r1 q1 => by
    obtain ⟨ds, e, sf, q3⟩ := q1.last
    split at e
    · rename_i j
      by_cases hj : -(2 ^ 62) ≤ j ∧ j < 2 ^ 62
      · rw [if_pos hj] at e
        cases e
        cases r1 with
        | cons r1 r2 =>
          cases r1
          cases r2
          exact ⟨j, rfl, hj.1, hj.2, q3 F1 H1 _ (Al.refl sf) (wk_range 0 _)⟩
      · rw [if_neg hj] at e
        cases e
    · cases e⟩
theorem di_range2 {f : M G (List D)} (h : PI X tgE e (iRng2 (tA S pv f))) : PI X tgE e (tI S pv (mrange2 f)) :=
  pi_weak h fun σ H R ⟨F, q⟩ => ⟨F, q.step fun d v F1 H1 s1 r1 q1 => by
    obtain ⟨ds, e, sf, q3⟩ := q1.last
    split at e
    · rename_i i j
      by_cases hj : -(2 ^ 62) ≤ i ∧ i < 2 ^ 62 ∧ -(2 ^ 62) ≤ j ∧ j < 2 ^ 62
      · rw [if_pos hj] at e
        cases e
        cases r1 with
        | cons r1 r2 =>
          cases r1
          cases r2 with
          | cons r2 r3 =>
            cases r2
            cases r3
            exact ⟨i, j, rfl, hj, q3 F1 H1 _ (Al.refl sf) (wk_range i _)⟩
      · rw [if_neg hj] at e
        cases e
    · cases e⟩
/-- for -/
theorem ds_for {it : M G (List D)} {g : TG} {is : List Nat} {tg} {body : SM G} (h : PS X st (tFor (tI S pv it) g (tS S pv body))) (hg : DTg S pv g is tg) : PS X st (tS S pv (sfor it tg body)) :=
  ps_weak h fun En σ H ⟨F, ω, ρ, re, out, ρ', e, q⟩ => by
    obtain ⟨ds, ρ1, e1, e2⟩ := mbnd_some e
    refine ⟨F, ω, ρ, re, ds, ρ1, e1, fun F1 H1 ω1 J ev1 re1 wk => ?_⟩
    refine ⟨fun i m σ2 H2 => m = ds.length - i ∧ i ≤ ds.length ∧ ∃ F2 ω2 ρ2, Ev F1 H1 ω1 F2 H2 ω2 ∧ RE S pv F2 H2 ω2 σ2 ρ2 ∧ σ2.length = σ.length ∧ loopM tg body (ds.drop i) ρ2 = some (out, ρ'), ⟨ds.length, by simp, Nat.zero_le _, F1, ω1, ρ1, .refl, re1, rfl, e2⟩, ?_⟩
    rintro i m σ2 H2 ⟨rfl, hi, F2, ω2, ρ2, ev2, re2, hl2, el⟩
    by_cases hlt : i < ds.length
    · refine .inr ⟨wk.go i F2 H2 ev2.ff re2.fh hlt, fun σ3 H3 => ∃ F3 ω3 ρ3, Ev F1 H1 ω1 F3 H3 ω3 ∧ RE S pv F3 H3 ω3 σ3 ρ3 ∧ σ3.length = σ.length ∧ loopM tg body (ds.drop (i + 1)) ρ3 = some (out, ρ'), fun σ3 H3 hN => ⟨ds.length - (i + 1), by omega, rfl, hlt, hN⟩, fun x H3 hy => ?_⟩
      obtain ⟨F3, d, hd, al, dp⟩ := wk.yld i F2 H2 x H3 ev2.ff re2.fh hlt hy
      have hdr : ds.drop i = d :: ds.drop (i + 1) := by
        rw [List.drop_eq_getElem_cons hlt]
        rw [List.getElem?_eq_getElem hlt] at hd
        cases hd
        rfl
      rw [hdr] at el
      unfold loopM at el
      cases et : tg d ρ2 with
      | none => simp only [et] at el; cases el
      | some ρ3 =>
        simp only [et] at el
        refine hg F3 H3 ω2 σ2 ρ2 x d ρ3 _ (re2.al al) dp et fun σ3 re3 hl3 _ => ?_
        have ev3 := ev2.trans (al.ev (ω := ω2))
        cases eb : body ρ3 with
        | none => simp only [eb] at el; cases el
        | some p =>
          obtain ⟨o4, ρ4⟩ := p
          refine ⟨F3, ω2, ρ3, re3, o4, ρ4, eb, fun F4 H4 ω4 σ4 ev4 re4 hl4 => ?_⟩
          simp only [eb] at el
          have hl : σ4.length = σ.length := hl4.trans (hl3.trans hl2)
          cases o4 with
          | nx => exact ⟨F4, ω4, ρ4, ev3.trans ev4, re4, hl, el⟩
          | ct => exact ⟨F4, ω4, ρ4, ev3.trans ev4, re4, hl, el⟩
          | bk => cases el; exact q F4 H4 ω4 σ4 (ev1.trans (ev3.trans ev4)) re4 hl
          | rt d => cases el; exact q F4 H4 ω4 σ4 (ev1.trans (ev3.trans ev4)) re4 hl
          | ro o => cases el; exact q F4 H4 ω4 σ4 (ev1.trans (ev3.trans ev4)) re4 hl
    · have e : i = ds.length := by omega
      subst e
      rw [List.drop_length] at el
      cases el
      exact .inl ⟨wk.stop F2 H2 ev2.ff re2.fh, q F2 H2 ω2 σ2 (ev1.trans ev2) re2 hl2⟩
/-- while: n turns at most -/
def whileM (c : M G Bool) (body : SM G) : Nat → SM G
  | 0 => fun _ => none
  | n + 1 => fun ρ => match c ρ with
    | none => none
    | some (false, ρ1) => some (.nx, ρ1)
    | some (true, ρ1) => match body ρ1 with
      | some (.nx, ρ2) => whileM c body n ρ2
      | some (.ct, ρ2) => whileM c body n ρ2
      | some (.bk, ρ2) => some (.nx, ρ2)
      | some (.rt d, ρ2) => some (.rt d, ρ2)
      | some (.ro o, ρ2) => some (.ro o, ρ2)
      | none => none
theorem ds_while {n : List (Sl G) → Nat} {c : M G Bool} {body : SM G} (h : PS X st (tWhile (tT S pv c) (tS S pv body))) : PS X st (tS S pv (fun ρ => whileM c body (n ρ) ρ)) :=
  ps_weak h fun En σ H ⟨F, ω, ρ, re, out, ρ', e, q⟩ => by
    refine ⟨fun m σ2 H2 => ∃ F2 ω2 ρ2, Ev F H ω F2 H2 ω2 ∧ RE S pv F2 H2 ω2 σ2 ρ2 ∧ σ2.length = σ.length ∧ whileM c body m ρ2 = some (out, ρ'), ⟨n ρ, F, ω, ρ, .refl, re, rfl, e⟩, ?_⟩
    rintro m σ2 H2 ⟨F2, ω2, ρ2, ev2, re2, hl2, el⟩
    cases m with
    | zero => cases el
    | succ m =>
      unfold whileM at el
      cases ec : c ρ2 with
      | none => simp only [ec] at el; cases el
      | some p =>
        obtain ⟨b, ρ3⟩ := p
        refine ⟨F2, ω2, ρ2, re2, b, ρ3, ec, fun F3 H3 ω3 b' ev3 re3 r3 => ?_⟩
        cases r3
        simp only [ec] at el
        cases b with
        | false =>
          cases el
          exact iteF (q F3 H3 ω3 σ2 (ev2.trans ev3) re3 hl2)
        | true =>
          refine iteT ⟨fun σ4 H4 => ∃ F4 ω4 ρ4, Ev F H ω F4 H4 ω4 ∧ RE S pv F4 H4 ω4 σ4 ρ4 ∧ σ4.length = σ.length ∧ whileM c body m ρ4 = some (out, ρ'), fun σ4 H4 hN => ⟨m, Nat.lt_succ_self m, hN⟩, ?_⟩
          cases eb : body ρ3 with
          | none => simp only [eb] at el; cases el
          | some p =>
            obtain ⟨o4, ρ4⟩ := p
            refine ⟨F3, ω3, ρ3, re3, o4, ρ4, eb, fun F4 H4 ω4 σ4 ev4 re4 hl4 => ?_⟩
            simp only [eb] at el
            have hl : σ4.length = σ.length := hl4.trans hl2
            cases o4 with
            | nx => exact ⟨F4, ω4, ρ4, ev2.trans (ev3.trans ev4), re4, hl, el⟩
            | ct => exact ⟨F4, ω4, ρ4, ev2.trans (ev3.trans ev4), re4, hl, el⟩
            | bk => cases el; exact q F4 H4 ω4 σ4 (ev2.trans (ev3.trans ev4)) re4 hl
            | rt d => cases el; exact q F4 H4 ω4 σ4 (ev2.trans (ev3.trans ev4)) re4 hl
            | ro o => cases el; exact q F4 H4 ω4 σ4 (ev2.trans (ev3.trans ev4)) re4 hl
def swhile (n : List (Sl G) → Nat) (c : M G Bool) (body : SM G) : SM G := fun ρ => whileM c body (n ρ) ρ
end
end DL
set_option Elab.async false
set_option linter.all false
set_option maxRecDepth 100000
set_option maxHeartbeats 1000000
namespace DL
open PySem PySem.Spec PyProof.Rows L2
variable {G : Type}

/-! ### a def's promise -/
inductive Res (G : Type) where
  | val (d : D) | own (o : Ow G)
abbrev FM (G : Type) := List (Sl G) → Option (Res G × List (Sl G))
def mrg1 : Sl G → Sl G → Sl G
  | .own _, .own o => .own o
  | .own _, _ => .un
  | s, _ => s
def close (N : Nat) (m : SM G) : FM G := fun ρ => match m (ρ ++ List.replicate (N - ρ.length) .un) with
  | some (.nx, ρ2) => some (.val .none, List.zipWith mrg1 ρ ρ2)
  | some (.rt d, ρ2) => some (.val d, List.zipWith mrg1 ρ ρ2)
  | some (.ro o, ρ2) => some (.own o, List.zipWith mrg1 ρ ρ2)
  | _ => none
section
variable {K : PySem.W.Frag} (S : GS K G)
def ResOk (F H : Hp) (P : Addr → Prop) (v : V) : Res G → Prop
  | .val d => Dp K F v d
  | .own o => OwOk S F H P v o
def spF (n : Nat) (g : FM G) : Sp := fun vs H Q _ => vs.length = n ∧ ∃ F ω ρ, RE S vs F H ω (vs.map some) ρ ∧ ∃ r ρ', g ρ = some (r, ρ') ∧
  ∀ F' H' ω' v, Ev F H ω F' H' ω' → RE S vs F' H' ω' (vs.map some) ρ' → ResOk S F' H' (fun b => ω' b = some n) v r → Q v H'
theorem spF_len {n : Nat} {g : FM G} {ps : List Str} (hp : ps.length = n) : ∀ vs H Q E, spF S n g vs H Q E → vs.length = ps.length := fun vs H Q E h => h.1.trans hp.symm
variable {S}
theorem body_ok {n : Nat} {g : FM G} {m : SM G} {N : List Str} {vs : List V} {H : Hp} {Q : VK} {E : XK} (h : spF S n g vs H Q E) (hN : n ≤ N.length) (hg : ∀ ρ r, ρ.length = n → g ρ = some r → close N.length m ρ = some r) :
    tS S vs m { nx := fun _ H' => Q .non H', rt := Q } (L2.start N vs) H := by
  obtain ⟨hl, F, ω, ρ, re, r, ρ', e, q⟩ := h
  have hρ : ρ.length = n := by rw [← re.len, List.length_map]; exact hl
  have e2 := hg ρ _ hρ e
  unfold close at e2
  rw [hρ] at e2
  have re0 : RE S vs F H ω (L2.start N vs) (ρ ++ List.replicate (N.length - n) .un) := by
    refine ⟨?_, re.fh, re.wf, fun i s es => ?_, fun i v o h1 h2 => ?_⟩
    · unfold L2.start
      simp only [List.length_append, List.length_map, List.length_replicate]
      omega
    · by_cases hi : i < n
      · rw [List.getElem?_append_left (by omega)] at es
        obtain ⟨x, h1, h2⟩ := re.slot i s es
        refine ⟨x, ?_, h2⟩
        unfold L2.start
        rw [List.getElem?_append_left (by rw [List.length_map]; omega)]
        exact h1
      · rw [List.getElem?_append_right (by omega)] at es
        rw [List.getElem?_replicate] at es
        split at es
        · rename_i hr
          cases es
          refine ⟨none, ?_, trivial⟩
          unfold L2.start
          rw [List.getElem?_append_right (by rw [List.length_map]; omega), List.getElem?_replicate, if_pos (by rw [List.length_map]; omega)]
        · cases es
    · unfold L2.start
      obtain ⟨hv, _⟩ := List.getElem?_eq_some_iff.mp h1
      rw [List.getElem?_append_left (by rw [List.length_map]; exact hv), List.getElem?_map, h1]
      rfl
  refine ⟨F, ω, _, re0, ?_⟩
  cases em : m (ρ ++ List.replicate (N.length - n) .un) with
  | none => rw [em] at e2; cases e2
  | some p =>
    obtain ⟨out, ρ2⟩ := p
    rw [em] at e2
    refine ⟨out, ρ2, rfl, fun F1 H1 ω1 σ1 ev re1 hl1 => ?_⟩
    have hs1 : σ1.length = N.length := by
      rw [hl1]
      unfold L2.start
      simp only [List.length_append, List.length_map, List.length_replicate]
      omega
    have key : ∀ (v : V) (rr : Res G), (ResOk S F1 H1 (fun b => ω1 b = some N.length) v rr) → rr = r → List.zipWith mrg1 ρ ρ2 = ρ' → Q v H1 := by
      intro v rr hr e1 e3
      subst e1 e3
      have hevw : ∀ b, (match ω1 b with | some j => if j = N.length then some n else if j < n then some j else none | none => none : Option Nat) ≠ none → ω1 b ≠ none := by
        intro b hb z
        rw [z] at hb
        exact hb rfl
      refine q F1 H1 (fun b => match ω1 b with | some j => if j = N.length then some n else if j < n then some j else none | none => none) v
        ⟨ev.ff, ev.fn, ev.hh, fun b hb => ev.wn b (hevw b hb), ev.dom⟩ ⟨?_, re1.fh, fun b i hb => ?_, fun i s es => ?_, fun i v' o h1 h2 => ?_⟩ ?_
      · rw [List.length_map, List.length_zipWith, hρ, ← re1.len, hs1]
        omega
      · cases hw : ω1 b with
        | none => simp only [hw] at hb; cases hb
        | some j => exact re1.wf b j hw
      · rw [List.getElem?_zipWith] at es
        cases e0 : ρ[i]? with
        | none => rw [e0] at es; cases es
        | some s0 =>
          rw [e0] at es
          cases e4 : ρ2[i]? with
          | none => rw [e4] at es; cases es
          | some s2 =>
            rw [e4] at es
            have es' : mrg1 s0 s2 = s := Option.some.inj es
            obtain ⟨x, h1, h2⟩ := re.slot i s0 e0
            have hi : i < n := by
              have := (List.getElem?_eq_some_iff.mp e0).1
              omega
            refine ⟨x, h1, ?_⟩
            cases s0 with
            | un => subst es'; exact trivial
            | val d => subst es'; obtain ⟨v0, e5, dp⟩ := h2; exact ⟨v0, e5, dp.mono ev.ff⟩
            | own o0 =>
              cases s2 with
              | own o =>
                subst es'
                obtain ⟨y, h3, v2, rfl, h4⟩ := re1.slot i _ e4
                obtain ⟨v0, rfl, _⟩ := h2
                rw [List.getElem?_map] at h1
                cases hv : vs[i]? with
                | none => rw [hv] at h1; cases h1
                | some v3 =>
                  rw [hv] at h1
                  cases h1
                  have h5 := re1.fix i _ o hv e4
                  rw [h3] at h5
                  cases h5
                  refine ⟨_, rfl, h4.mono (Same.refl _) (fun _ _ _ z => z) fun b hb => ?_⟩
                  show (match ω1 b with | some j => if j = N.length then some n else if j < n then some j else none | none => none) = some i
                  rw [hb]
                  show (if i = N.length then some n else if i < n then some i else none) = some i
                  rw [if_neg (by omega), if_pos hi]
              | un => subst es'; exact trivial
              | val _ => subst es'; exact trivial
      · rw [List.getElem?_map, h1]
        rfl
      · cases rr with
        | val d => exact hr
        | own o =>
          refine OwOk.mono (o := o) hr (Same.refl _) (fun _ _ _ z => z) fun b hb => ?_
          show (match ω1 b with | some j => if j = N.length then some n else if j < n then some j else none | none => none) = some n
          rw [hb]
          show (if N.length = N.length then some n else _) = some n
          rw [if_pos rfl]
    cases out with
    | nx => cases e2; exact key .non (.val .none) .non rfl rfl
    | rt d => cases e2; exact fun v dp => key v (.val d) dp rfl rfl
    | ro o =>
      cases e2
      refine fun v dp => key v (.own o) ?_ rfl rfl
      rw [hs1] at dp
      exact dp
    | bk => cases e2
    | ct => cases e2
end
end DL
set_option Elab.async false
set_option linter.all false
set_option maxRecDepth 100000
set_option maxHeartbeats 1000000
namespace DL
open PySem PySem.Spec PyProof.Rows L2
variable {G : Type}

/-! ### calls of defs -/
/-- an argument: a datum, or what a slot owns -/
abbrev Ag := Sum D Nat
inductive ArgsOk (K : PySem.W.Frag) (σ : L2.St) (F : Hp) : List V → List Ag → Prop
  | nil : ArgsOk K σ F [] []
  | val {v : V} {d : D} {vs : List V} {as : List Ag} : Dp K F v d → ArgsOk K σ F vs as → ArgsOk K σ F (v :: vs) (.inl d :: as)
  | own {v : V} {i : Nat} {vs : List V} {as : List Ag} : σ[i]? = some (some v) → ArgsOk K σ F vs as → ArgsOk K σ F (v :: vs) (.inr i :: as)
section
variable {K : PySem.W.Frag} {σ : L2.St} {F F' : Hp}
theorem ArgsOk.mono (e : Same F F') : ∀ {vs : List V} {as : List Ag}, ArgsOk K σ F vs as → ArgsOk K σ F' vs as
  | _, _, .nil => .nil
  | _, _, .val h t => .val (h.mono e) (t.mono e)
  | _, _, .own h t => .own h (t.mono e)
theorem ArgsOk.length : ∀ {vs : List V} {as : List Ag}, ArgsOk K σ F vs as → vs.length = as.length
  | _, _, .nil => rfl
  | _, _, .val _ t => congrArg (· + 1) t.length
  | _, _, .own _ t => congrArg (· + 1) t.length
theorem ArgsOk.get : ∀ {vs : List V} {as : List Ag} {j : Nat} {a : Ag}, ArgsOk K σ F vs as → as[j]? = some a → ∃ v, vs[j]? = some v ∧ (match a with | .inl d => Dp K F v d | .inr i => σ[i]? = some (some v))
  | _, _, _, _, .nil, e => by simp at e
  | _, _, 0, _, .val h _, e => by simp at e; subst e; exact ⟨_, rfl, h⟩
  | _, _, 0, _, .own h _, e => by simp at e; subst e; exact ⟨_, rfl, h⟩
  | _, _, j + 1, a, .val _ t, e => by
    obtain ⟨v, h1, h2⟩ := ArgsOk.get (j := j) (a := a) t (by simpa using e)
    exact ⟨v, by simpa using h1, h2⟩
  | _, _, j + 1, a, .own _ t, e => by
    obtain ⟨v, h1, h2⟩ := ArgsOk.get (j := j) (a := a) t (by simpa using e)
    exact ⟨v, by simpa using h1, h2⟩
end
def pos : List Ag → Nat → Option Nat
  | [], _ => none
  | .inr i :: as, k => if i = k then some 0 else (pos as k).map (· + 1)
  | .inl _ :: as, k => (pos as k).map (· + 1)
theorem pos_get : ∀ {as : List Ag} {k j : Nat}, pos as k = some j → as[j]? = some (.inr k)
  | [], _, _, h => by cases h
  | .inr i :: as, k, j, h => by
    unfold pos at h
    by_cases hi : i = k
    · rw [if_pos hi] at h
      cases h
      rw [hi]
      rfl
    · rw [if_neg hi] at h
      cases hp : pos as k with
      | none => rw [hp] at h; cases h
      | some j' =>
        rw [hp] at h
        cases h
        simpa using pos_get hp
  | .inl d :: as, k, j, h => by
    unfold pos at h
    cases hp : pos as k with
    | none => rw [hp] at h; cases h
    | some j' =>
      rw [hp] at h
      cases h
      simpa using pos_get hp
def ownAt (ρ : List (Sl G)) (i : Nat) : Sl G := match ρ[i]? with
  | some (.own o) => .own o
  | _ => .un
def gath (full : List Ag) (ρ : List (Sl G)) : Nat → List Ag → List (Sl G)
  | _, [] => []
  | j, .inl d :: r => .val d :: gath full ρ (j + 1) r
  | j, .inr i :: r => (if pos full i = some j then ownAt ρ i else .un) :: gath full ρ (j + 1) r
theorem gath_len (full : List Ag) (ρ : List (Sl G)) : ∀ (j : Nat) (as : List Ag), (gath full ρ j as).length = as.length
  | _, [] => rfl
  | j, .inl d :: r => congrArg (· + 1) (gath_len full ρ (j + 1) r)
  | j, .inr i :: r => congrArg (· + 1) (gath_len full ρ (j + 1) r)
theorem gath_get (full : List Ag) (ρ : List (Sl G)) : ∀ (as : List Ag) (j k : Nat) (s : Sl G), (gath full ρ j as)[k]? = some s →
    (∃ d, as[k]? = some (.inl d) ∧ s = .val d) ∨ ∃ i, as[k]? = some (.inr i) ∧ s = (if pos full i = some (j + k) then ownAt ρ i else .un)
  | [], _, _, _, h => by simp [gath] at h
  | .inl d :: r, j, 0, s, h => by simp [gath] at h; exact .inl ⟨d, rfl, h.symm⟩
  | .inr i :: r, j, 0, s, h => by simp [gath] at h; exact .inr ⟨i, rfl, h.symm⟩
  | .inl d :: r, j, k + 1, s, h => by
    have := gath_get full ρ r (j + 1) k s (by simpa [gath] using h)
    rw [show j + 1 + k = j + (k + 1) by omega] at this
    simpa using this
  | .inr i :: r, j, k + 1, s, h => by
    have := gath_get full ρ r (j + 1) k s (by simpa [gath] using h)
    rw [show j + 1 + k = j + (k + 1) by omega] at this
    simpa using this
def scat1 (ρc : List (Sl G)) (j : Nat) : Sl G → Sl G
  | .own _ => ownAt ρc j
  | _ => .un
def scat (as : List Ag) (ρc : List (Sl G)) : Nat → List (Sl G) → List (Sl G)
  | _, [] => []
  | k, s :: r => (match pos as k with | some j => scat1 ρc j s | none => s) :: scat as ρc (k + 1) r
theorem scat_len (as : List Ag) (ρc : List (Sl G)) : ∀ (k : Nat) (ρ : List (Sl G)), (scat as ρc k ρ).length = ρ.length
  | _, [] => rfl
  | k, s :: r => congrArg (· + 1) (scat_len as ρc (k + 1) r)
theorem scat_get (as : List Ag) (ρc : List (Sl G)) : ∀ (ρ : List (Sl G)) (k i : Nat) (s : Sl G), (scat as ρc k ρ)[i]? = some s →
    ∃ s0, ρ[i]? = some s0 ∧ s = (match pos as (k + i) with | some j => scat1 ρc j s0 | none => s0)
  | [], _, _, _, h => by simp [scat] at h
  | s0 :: r, k, 0, s, h => by simp [scat] at h; exact ⟨s0, rfl, h.symm⟩
  | s0 :: r, k, i + 1, s, h => by
    have := scat_get as ρc r (k + 1) i s (by simpa [scat] using h)
    rw [show k + 1 + i = k + (i + 1) by omega] at this
    simpa using this
def mcall (fs : M G (List Ag)) (g : FM G) : M G (Res G) := fun ρ => match fs ρ with
  | none => none
  | some (as, ρ1) => match g (gath as ρ1 0 as) with
    | none => none
    | some (r, ρc) => some (r, scat as ρc 0 ρ1)
def mcallV (fs : M G (List Ag)) (g : FM G) : M G D := fun ρ => match mcall fs g ρ with
  | some (.val d, ρ') => some (d, ρ')
  | _ => none
def mcallO (fs : M G (List Ag)) (g : FM G) : M G (Ow G) := fun ρ => match mcall fs g ρ with
  | some (.own o, ρ') => some (o, ρ')
  | _ => none
section
variable {K : PySem.W.Frag} (S : GS K G) (pv : List V)
def tAr (f : M G (List Ag)) : TA := fun σ H Q => ∃ F, XF S pv (RV fun F vs as => ArgsOk K σ F vs as) F f σ H Q
variable {S pv}
theorem ownAt_own {ρ : List (Sl G)} {i : Nat} {o : Ow G} (h : ownAt ρ i = .own o) : ρ[i]? = some (.own o) := by
  unfold ownAt at h
  split at h
  · rename_i o' h'
    cases h
    exact h'
  · cases h
theorem ownAt_ne {ρ : List (Sl G)} {i : Nat} {d : D} (h : ownAt ρ i = .val d) : False := by
  unfold ownAt at h
  split at h <;> cases h
theorem call_core {n : Nat} {g : FM G} {fs : M G (List Ag)} {F H : Hp} {σ : L2.St} {E : XK} {Q : VK} {R : Hp → Hp → (Addr → Prop) → V → Res G → Prop}
    (hR : ∀ F H P v r, ResOk S F H P v r → R F H P v r) (hn : n < 10000000)
    (h : XF S pv R F (mcall fs g) σ H Q) (hl : ∀ as ρ ρ1, fs ρ = some (as, ρ1) → as.length = n) : XF S pv (RV fun F vs as => ArgsOk K σ F vs as) F fs σ H fun vs H1 => spF S n g (vs ++ []) H1 Q E := by
  obtain ⟨ω, ρ, re, r, ρ', e, q⟩ := h
  unfold mcall at e
  cases e1 : fs ρ with
  | none => rw [e1] at e; cases e
  | some p =>
    obtain ⟨as, ρ1⟩ := p
    have hlen := hl as ρ ρ1 e1
    rw [e1] at e
    refine ⟨ω, ρ, re, as, ρ1, e1, fun F1 H1 ω1 vs ev1 re1 ok => ?_⟩
    dsimp only at e
    cases e2 : g (gath as ρ1 0 as) with
    | none => rw [e2] at e; cases e
    | some p =>
      obtain ⟨r', ρc⟩ := p
      rw [e2] at e
      cases e
      rw [List.append_nil]
      have ok : ArgsOk K σ F1 vs as := ok
      refine ⟨ok.length.trans hlen, F1, fun b => (ω1 b).bind (pos as), gath as ρ1 0 as, ⟨?_, re1.fh, fun b j hb => ?_, fun j s es => ?_, fun j v o h1 h2 => ?_⟩, r, ρc, e2, fun F2 H2 ωc v ev2 re2 rok => ?_⟩
      · rw [List.length_map, gath_len, ok.length]
      · cases hw : ω1 b with
        | none => rw [hw] at hb; cases hb
        | some i => exact re1.wf b i hw
      · rcases gath_get as ρ1 as 0 j s es with ⟨d, ha, rfl⟩ | ⟨i, ha, hs⟩
        · obtain ⟨v, h1, h2⟩ := ok.get ha
          exact ⟨some v, by rw [List.getElem?_map, h1]; rfl, v, rfl, h2⟩
        · obtain ⟨v, h1, h2⟩ := ok.get ha
          refine ⟨some v, by rw [List.getElem?_map, h1]; rfl, ?_⟩
          rw [Nat.zero_add] at hs
          by_cases hp : pos as i = some j
          · rw [if_pos hp] at hs
            cases s with
            | un => trivial
            | val d => exact (ownAt_ne hs.symm).elim
            | own o =>
              obtain ⟨x, q1, v2, rfl, q2⟩ := re1.slot i _ (ownAt_own hs.symm)
              have q3 : (some (some v2) : Option (Option V)) = some (some v) := q1.symm.trans h2
              cases q3
              refine ⟨v, rfl, q2.mono (Same.refl _) (fun _ _ _ z => z) fun b hb => ?_⟩
              show (ω1 b).bind (pos as) = some j
              rw [hb]
              exact hp
          · rw [if_neg hp] at hs
            subst hs
            trivial
      · rw [List.getElem?_map, h1]
        rfl
      · have hoc : ∀ b, ω1 b = none → (ω1 b).bind (pos as) = none := fun b hb => by rw [hb]; rfl
        let ω2 : Om := fun b => match ωc b with
          | some j => if j = n then some σ.length else (match as[j]? with | some (.inr i) => some i | _ => none)
          | none => if (ω1 b).bind (pos as) = none then ω1 b else none
        have nol : ∀ j, j < n → j ≠ n := fun j h => Nat.ne_of_lt h
        have ev3 : Ev F1 H1 ω1 F2 H2 ω2 := ⟨ev2.ff, fun b o hb => ?_, fun b o hb hw => ev2.hh b o hb (hoc b hw), fun b hb => ?_, ev2.dom⟩
        · refine q F2 H2 ω2 v (ev1.trans ev3) ⟨?_, re2.fh, fun b i hb => ?_, fun i s es => ?_, fun i v o h1 h2 => ?_⟩ (hR _ _ _ _ _ ?_)
          · rw [scat_len]
            exact re1.len
          · have hb : (match ωc b with | some j => if j = n then some σ.length else (match as[j]? with | some (.inr i) => some i | _ => none) | none => if (ω1 b).bind (pos as) = none then ω1 b else none) = some i := hb
            cases hw : ωc b with
            | some j => exact re2.wf b j hw
            | none =>
              rw [hw] at hb
              by_cases hz : (ω1 b).bind (pos as) = none
              · rw [if_pos hz] at hb
                obtain ⟨z1, z2⟩ := re1.wf b i hb
                refine ⟨?_, ev2.dom b z2⟩
                cases hf : F2 b with
                | none => rfl
                | some o =>
                  rcases ev2.fn b o hf with z | z | z
                  · rw [z1] at z; cases z
                  · exact absurd z z2
                  · exact absurd hz z
              · rw [if_neg hz] at hb
                cases hb
          · obtain ⟨s0, h1, h2⟩ := scat_get as ρc ρ1 0 i s es
            rw [Nat.zero_add] at h2
            obtain ⟨x, h3, h4⟩ := re1.slot i s0 h1
            refine ⟨x, h3, ?_⟩
            cases hp : pos as i with
            | none =>
              rw [hp] at h2
              subst h2
              have hbn : ∀ b, ω1 b = some i → (ω1 b).bind (pos as) = none := fun b hb => by rw [hb]; exact hp
              refine h4.mono ev2.ff (fun b o hb hH => ev2.hh b o hH (hbn b hb)) fun b hb => ?_
              show (match ωc b with | some j => if j = n then some σ.length else (match as[j]? with | some (.inr i) => some i | _ => none) | none => if (ω1 b).bind (pos as) = none then ω1 b else none) = some i
              cases hw : ωc b with
              | none =>
                dsimp only
                rw [if_pos (hbn b hb)]
                exact hb
              | some j =>
                rcases ev2.wn b (by rw [hw]; simp) with z | z
                · exact absurd (hbn b hb) z
                · exact absurd z (re1.wf b i hb).2
            | some j =>
              rw [hp] at h2
              dsimp only at h2
              cases s0 with
              | un => subst h2; trivial
              | val d => subst h2; trivial
              | own o0 =>
                have h2 : s = ownAt ρc j := h2
                cases s with
                | un => trivial
                | val d => exact (ownAt_ne h2.symm).elim
                | own o =>
                  have h5 := ownAt_own h2.symm
                  obtain ⟨y, h6, v2, rfl, h7⟩ := re2.slot j _ h5
                  have ha := pos_get hp
                  obtain ⟨v3, h8, h9⟩ := ok.get ha
                  rw [List.getElem?_map, h8] at h6
                  cases h6
                  have h9 : σ[i]? = some (some v2) := h9
                  have h10 : (some x : Option (Option V)) = some (some v2) := h3.symm.trans h9
                  cases h10
                  refine ⟨_, rfl, h7.mono (Same.refl _) (fun _ _ _ z => z) fun b hb => ?_⟩
                  show (match ωc b with | some j => if j = n then some σ.length else (match as[j]? with | some (.inr i) => some i | _ => none) | none => if (ω1 b).bind (pos as) = none then ω1 b else none) = some i
                  rw [hb]
                  dsimp only
                  have hj : j < n := by
                    have := (List.getElem?_eq_some_iff.mp ha).1
                    omega
                  rw [if_neg (nol j hj), ha]
          · obtain ⟨s0, h3, h4⟩ := scat_get as ρc ρ1 0 i _ h2
            rw [Nat.zero_add] at h4
            cases hp : pos as i with
            | none =>
              rw [hp] at h4
              dsimp only at h4
              subst h4
              exact re1.fix i v o h1 h3
            | some j =>
              rw [hp] at h4
              cases s0 with
              | own o0 => exact re1.fix i v o0 h1 h3
              | un => cases h4
              | val _ => cases h4
          · cases r with
            | val d => exact rok
            | own o =>
              refine OwOk.mono (o := o) rok (Same.refl _) (fun _ _ _ z => z) fun b hb => ?_
              show (match ωc b with | some j => if j = n then some σ.length else (match as[j]? with | some (.inr i) => some i | _ => none) | none => if (ω1 b).bind (pos as) = none then ω1 b else none) = some σ.length
              rw [hb]
              dsimp only
              rw [if_pos rfl]
        · rcases ev2.fn b o hb with z | z | z
          · exact .inl z
          · exact .inr (.inl z)
          · refine .inr (.inr fun z2 => z (hoc b z2))
        · have hb : (match ωc b with | some j => if j = n then some σ.length else (match as[j]? with | some (.inr i) => some i | _ => none) | none => if (ω1 b).bind (pos as) = none then ω1 b else none) ≠ none := hb
          cases hw : ωc b with
          | some j =>
            rcases ev2.wn b (by rw [hw]; simp) with z | z
            · exact .inl fun z2 => z (hoc b z2)
            · exact .inr z
          | none =>
            rw [hw] at hb
            refine .inl fun z => hb ?_
            dsimp only
            rw [if_pos (hoc b z)]
            exact z
end
section
variable {X : Cx} {S : GS X.K G} {pv : List V} {e a b : Expr} {st : Stmt} {n : Nat} {g : FM G} {fs : M G (List Ag)} {E : XK}
theorem dv_callF (h : PE X e (tCall (spF S n g) [] E (tAr S pv fs))) (hl : ∀ as ρ ρ1, fs ρ = some (as, ρ1) → as.length = n) (hn : n < 10000000 := by decide) : PE X e (tD S pv (mcallV fs g)) :=
  pe_weak h fun σ H Q ⟨F, ω, ρ, re, d, ρ', e, q⟩ => ⟨F, call_core (R := fun F H P v r => ResOk S F H P v r) (fun _ _ _ _ _ z => z) hn (by
    unfold mcallV at e
    cases ec : mcall fs g ρ with
    | none => rw [ec] at e; cases e
    | some p =>
      obtain ⟨r, ρ2⟩ := p
      rw [ec] at e
      cases r with
      | own o => cases e
      | val d' => cases e; exact ⟨ω, ρ, re, .val d, ρ', ec, q⟩) hl⟩
theorem do_callF (h : PE X e (tCall (spF S n g) [] E (tAr S pv fs))) (hl : ∀ as ρ ρ1, fs ρ = some (as, ρ1) → as.length = n) (hn : n < 10000000 := by decide) : PE X e (tO S pv (mcallO fs g)) :=
  pe_weak h fun σ H Q ⟨F, ω, ρ, re, d, ρ', e, q⟩ => ⟨F, call_core (R := fun F H P v r => ResOk S F H P v r) (fun _ _ _ _ _ z => z) hn (by
    unfold mcallO at e
    cases ec : mcall fs g ρ with
    | none => rw [ec] at e; cases e
    | some p =>
      obtain ⟨r, ρ2⟩ := p
      rw [ec] at e
      cases r with
      | val o => cases e
      | own d' => cases e; exact ⟨ω, ρ, re, .own d, ρ', ec, q⟩) hl⟩
/-! arguments of a def -/
def macons (f : M G D) (fs : M G (List Ag)) : M G (List Ag) := mbnd f fun d => mbnd fs fun as => mret (.inl d :: as)
def maown (i : Nat) (fs : M G (List Ag)) : M G (List Ag) := fun ρ => match ρ[i]? with
  | some (.own _) => mbnd fs (fun as => mret (.inr i :: as)) ρ
  | _ => none
theorem dr_nil : PA X [] (tAr S pv (mret [])) := pa_weak pa_nil fun σ H Q ⟨F, q⟩ => q.ret1 .nil
theorem dr_val {es : List Expr} {f : M G D} (ha : PE X e (tD S pv f)) (hr : PA X es (tAr S pv fs)) (hs : starEach (e :: es) X.env = (false, eval e X.env) :: starEach es X.env := by rfl) :
    PA X (e :: es) (tAr S pv (macons f fs)) :=
  pa_weak (pa_cons ha hr hs) fun σ H Q ⟨F, q⟩ => ⟨F, q.step fun x v F1 H1 s1 r1 q1 => ⟨F1, q1.step fun y u F2 H2 s2 r2 q2 => q2.ret1 (.val (r1.mono s2) r2)⟩⟩
theorem dr_own {es : List Expr} {i : Nat} (ha : PE X e (tVar i)) (hr : PA X es (tAr S pv fs)) (hs : starEach (e :: es) X.env = (false, eval e X.env) :: starEach es X.env := by rfl) :
    PA X (e :: es) (tAr S pv (maown i fs)) :=
  pa_weak (pa_cons ha hr hs) fun σ H Q ⟨F, ω, ρ, re, as, ρ', e, q⟩ => by
    unfold maown at e
    split at e
    · rename_i o ho
      obtain ⟨x, h1, v, rfl, h2⟩ := re.slot i _ ho
      refine ⟨v, h1, F, XF.step (R2 := RV fun F vs as => ArgsOk X.K σ F vs as) (k := fun as => mret (.inr i :: as)) ⟨ω, ρ, re, as, ρ', e, q⟩ fun as' vs F1 H1 s1 r1 q1 => ?_⟩
      exact q1.ret1 (.own h1 r1)
    · cases e
theorem al_nil : ∀ as (ρ ρ1 : List (Sl G)), mret ([] : List Ag) ρ = some (as, ρ1) → as.length = 0 := fun as ρ ρ1 h => by cases h; rfl
theorem al_val {f : M G D} {m : Nat} (h : ∀ as ρ ρ1, fs ρ = some (as, ρ1) → as.length = m) : ∀ as ρ ρ1, macons f fs ρ = some (as, ρ1) → as.length = m + 1 := fun as ρ ρ1 e => by
  obtain ⟨d, ρ2, e1, e2⟩ := mbnd_some e
  obtain ⟨as', ρ3, e3, e4⟩ := mbnd_some e2
  cases e4
  exact congrArg (· + 1) (h _ _ _ e3)
theorem al_own {i m : Nat} (h : ∀ as ρ ρ1, fs ρ = some (as, ρ1) → as.length = m) : ∀ as ρ ρ1, maown i fs ρ = some (as, ρ1) → as.length = m + 1 := fun as ρ ρ1 e => by
  unfold maown at e
  split at e
  · obtain ⟨as', ρ3, e3, e4⟩ := mbnd_some e
    cases e4
    exact congrArg (· + 1) (h _ _ _ e3)
  · cases e
end
end DL
set_option Elab.async false
set_option linter.all false
set_option maxRecDepth 100000
set_option maxHeartbeats 1000000
namespace DL
open PySem PySem.Spec PyProof.Rows L2
variable {G : Type}

/-! ### operations by data -/
section
variable {K : PySem.W.Frag}
def gI0 (g : Int → Int → D) : D → D → Option D := fun x y => match x, y with | .int i, .int j => some (g i j) | _, _ => none
theorem dop_I0 {f : Int → Int → V} {g : Int → Int → D} (h : ∀ F i j, Dp K F (f i j) (g i j)) : DOp K (rI0 f) (gI0 g) := fun F H x y dx dy d Q sf hx hy e q => by
  cases hx with
  | int i =>
    cases hy with
    | int j => cases e; exact ⟨i, j, rfl, rfl, q F H _ (Al.refl sf) (h F i j)⟩
    | _ => cases e
  | _ => cases hy <;> cases e
def gI (C : Int → Int → Bool) (g : Int → Int → D) : D → D → Option D := fun x y => match x, y with | .int i, .int j => if C i j = true then some (g i j) else none | _, _ => none
theorem dop_I {C : Int → Int → Prop} {c : Int → Int → Bool} {f : Int → Int → V} {g : Int → Int → D} (hc : ∀ i j, c i j = true → C i j) (h : ∀ F i j, Dp K F (f i j) (g i j)) : DOp K (rI C f) (gI c g) := fun F H x y dx dy d Q sf hx hy e q => by
  cases hx with
  | int i =>
    cases hy with
    | int j =>
      unfold gI at e
      by_cases hh : c i j = true
      · simp only [hh, if_true] at e
        cases e
        exact ⟨i, j, rfl, rfl, hc i j hh, q F H _ (Al.refl sf) (h F i j)⟩
      · simp only [hh, if_false] at e
        cases e
    | _ => cases e
  | _ => cases hy <;> cases e
abbrev gAdd : D → D → Option D := gI0 fun i j => .int (i + j)
abbrev gSub : D → D → Option D := gI0 fun i j => .int (i - j)
abbrev gLt : D → D → Option D := gI0 fun i j => .bool (decide (i < j))
abbrev gLe : D → D → Option D := gI0 fun i j => .bool (decide (i ≤ j))
abbrev gGt : D → D → Option D := gI0 fun i j => .bool (decide (j < i))
abbrev gGe : D → D → Option D := gI0 fun i j => .bool (decide (j ≤ i))
theorem d_add : DOp K (rI0 fun i j => .int (i + j)) gAdd := dop_I0 fun _ _ _ => .int _
theorem d_sub : DOp K (rI0 fun i j => .int (i - j)) gSub := dop_I0 fun _ _ _ => .int _
theorem d_lt : DOp K (rI0 fun i j => .bl (decide (i < j))) gLt := dop_I0 fun _ _ _ => .bl _
theorem d_le : DOp K (rI0 fun i j => .bl (decide (i ≤ j))) gLe := dop_I0 fun _ _ _ => .bl _
theorem d_gt : DOp K (rI0 fun i j => .bl (decide (j < i))) gGt := dop_I0 fun _ _ _ => .bl _
theorem d_ge : DOp K (rI0 fun i j => .bl (decide (j ≤ i))) gGe := dop_I0 fun _ _ _ => .bl _
def cMul (i j : Int) : Bool := decide ((-(2 ^ 64) < i ∧ i < 2 ^ 64) ∨ (-(2 ^ 64) < j ∧ j < 2 ^ 64))
def cDiv (i j : Int) : Bool := decide (0 < j ∧ j < 1073741824)
def cPos (i j : Int) : Bool := decide (0 < j)
def cPow (i j : Int) : Bool := decide (0 ≤ j ∧ j ≤ 1000000 ∧ i.natAbs < 2 ^ 64)
abbrev gMul : D → D → Option D := gI cMul fun i j => .int (i * j)
abbrev gDiv : D → D → Option D := gI cDiv fun i j => .int (i / j)
abbrev gMod : D → D → Option D := gI cPos fun i j => .int (i % j)
abbrev gPow : D → D → Option D := gI cPow fun i j => .int (i ^ j.toNat)
theorem d_mul : DOp K (rI CMul fun i j => .int (i * j)) gMul := dop_I (fun i j h => (of_decide_eq_true h : (-(2 ^ 64) < i ∧ i < 2 ^ 64) ∨ (-(2 ^ 64) < j ∧ j < 2 ^ 64))) fun _ _ _ => .int _
theorem d_div : DOp K (rI CDiv fun i j => .int (i / j)) gDiv := dop_I (fun i j h => (of_decide_eq_true h : 0 < j ∧ j < 1073741824)) fun _ _ _ => .int _
theorem d_mod : DOp K (rI (fun _ j => 0 < j) fun i j => .int (i % j)) gMod := dop_I (fun _ _ h => of_decide_eq_true h) fun _ _ _ => .int _
theorem d_pow : DOp K (rI CPow fun i j => .int (i ^ j.toNat)) gPow := dop_I (fun i j h => (of_decide_eq_true h : 0 ≤ j ∧ j ≤ 1000000 ∧ i.natAbs < 2 ^ 64)) fun _ _ _ => .int _
def gNeg : D → Option D := fun x => match x with | .int i => some (.int (-i)) | _ => none
theorem d_neg : DUn K (rU fun i => .int (-i)) gNeg := fun F H x dx d Q sf hx e q => by
  cases hx with
  | int i => cases e; exact ⟨i, rfl, q F H _ (Al.refl sf) (.int _)⟩
  | _ => cases e
/-! == and != of data -/
def gEqD : D → D → Option D := fun x y => if SeqAt.shaped x = true ∧ SeqAt.shaped y = true then some (.bool (PyData.eqv x y)) else none
def gNeD : D → D → Option D := fun x y => if SeqAt.shaped x = true ∧ SeqAt.shaped y = true then some (.bool (!PyData.eqv x y)) else none
theorem d_eqD : DOp K (rEqD K) gEqD := fun F H x y dx dy d Q sf hx hy e q => by
  unfold gEqD at e
  by_cases h : SeqAt.shaped dx = true ∧ SeqAt.shaped dy = true
  · rw [if_pos h] at e
    cases e
    exact ⟨dx, dy, hx.mono sf, hy.mono sf, h.1, h.2, q F H _ (Al.refl sf) (.bl _)⟩
  · rw [if_neg h] at e
    cases e
theorem d_neD : DOp K (rNeD K) gNeD := fun F H x y dx dy d Q sf hx hy e q => by
  unfold gNeD at e
  by_cases h : SeqAt.shaped dx = true ∧ SeqAt.shaped dy = true
  · rw [if_pos h] at e
    cases e
    exact ⟨dx, dy, hx.mono sf, hy.mono sf, h.1, h.2, q F H _ (Al.refl sf) (.bl _)⟩
  · rw [if_neg h] at e
    cases e
/-! items -/
def gIxL : D → D → Option D := fun x y => match x, y with | .list ds, .int i => atI ds i | _, _ => none
def gIxT : D → D → Option D := fun x y => match x, y with | .tuple ds, .int i => atI ds i | _, _ => none
theorem atI_dp {F : Hp} {xs : List V} {ds : List D} {i : Int} {d : D} (h : DpAll K F xs ds) (e : atI ds i = some d) : ∃ v, atI xs i = some v ∧ Dp K F v d := by
  unfold atI at e ⊢
  rw [h.length]
  cases hn : ixN ds.length i with
  | none => rw [hn] at e; cases e
  | some j =>
    rw [hn] at e
    obtain ⟨v, h1, h2⟩ := h.get (i := j) (d := d) e
    exact ⟨v, h1, h2⟩
theorem d_ixL : DOp K (rIxL K) gIxL := fun F H x y dx dy d Q sf hx hy e q => by
  cases hx with
  | lst hs ha =>
    cases hy with
    | int i =>
      obtain ⟨v, h1, h2⟩ := atI_dp ha e
      exact ⟨_, _, i, v, rfl, rfl, sf.seq hs, h1, q F H v (Al.refl sf) h2⟩
    | _ => cases e
  | _ => cases hy <;> cases e
theorem d_ixT : DOp K (rIxT K) gIxT := fun F H x y dx dy d Q sf hx hy e q => by
  cases hx with
  | tup hs ha =>
    cases hy with
    | int i =>
      obtain ⟨v, h1, h2⟩ := atI_dp ha e
      exact ⟨_, _, i, v, rfl, rfl, sqt_mono sf hs, h1, q F H v (Al.refl sf) h2⟩
    | _ => cases e
  | _ => cases hy <;> cases e
/-! built-ins -/
def gAbs : List D → Option D := fun xs => match xs with | [.int i] => some (.int (if i < 0 then -i else i)) | _ => none
def gMax2 : List D → Option D := fun xs => match xs with | [.int i, .int j] => some (.int (if j > i then j else i)) | _ => none
def gMin2 : List D → Option D := fun xs => match xs with | [.int i, .int j] => some (.int (if j < i then j else i)) | _ => none
theorem dpa1 {F : Hp} {vs : List V} {d : D} (h : DpAll K F vs [d]) : ∃ v, vs = [v] ∧ Dp K F v d := by
  cases h with
  | cons h1 h2 => cases h2; exact ⟨_, rfl, h1⟩
theorem dpa2 {F : Hp} {vs : List V} {d e : D} (h : DpAll K F vs [d, e]) : ∃ v w, vs = [v, w] ∧ Dp K F v d ∧ Dp K F w e := by
  cases h with
  | cons h1 h2 => obtain ⟨w, rfl, h3⟩ := dpa1 h2; exact ⟨_, _, rfl, h1, h3⟩
theorem d_abs : DCall K (fun xs H Q => ∃ i, xs = [.int i] ∧ Q (.int (if i < 0 then -i else i)) H) gAbs := fun F H vs ds d Q sf hv e q => by
  unfold gAbs at e
  split at e
  · cases e
    obtain ⟨v, rfl, h⟩ := dpa1 hv
    cases h
    exact ⟨_, rfl, q F H _ (Al.refl sf) (.int _)⟩
  · cases e
theorem d_max2 : DCall K (fun xs H Q => ∃ i j, xs = [.int i, .int j] ∧ Q (.int (if j > i then j else i)) H) gMax2 := fun F H vs ds d Q sf hv e q => by
  unfold gMax2 at e
  split at e
  · cases e
    obtain ⟨v, w, rfl, h1, h2⟩ := dpa2 hv
    cases h1
    cases h2
    exact ⟨_, _, rfl, q F H _ (Al.refl sf) (.int _)⟩
  · cases e
theorem d_min2 : DCall K (fun xs H Q => ∃ i j, xs = [.int i, .int j] ∧ Q (.int (if j < i then j else i)) H) gMin2 := fun F H vs ds d Q sf hv e q => by
  unfold gMin2 at e
  split at e
  · cases e
    obtain ⟨v, w, rfl, h1, h2⟩ := dpa2 hv
    cases h1
    cases h2
    exact ⟨_, _, rfl, q F H _ (Al.refl sf) (.int _)⟩
  · cases e
def gLen : List D → Option D := fun xs => match xs with
  | [.list ds] => some (.int ds.length)
  | [.tuple ds] => some (.int ds.length)
  | [.str y] => if y.length ≤ sizeLine then some (.int y.length) else none
  | _ => none
theorem d_len : DCall K (fun xs H Q => ∃ x n, xs = [x] ∧ LenV K x H n ∧ Q (.int n) H) gLen := fun F H vs ds d Q sf hv e q => by
  unfold gLen at e
  split at e
  · cases e
    obtain ⟨v, rfl, h⟩ := dpa1 hv
    cases h with
    | lst hs ha => exact ⟨_, _, rfl, .inl ⟨_, sf.seq hs, rfl⟩, q F H _ (Al.refl sf) (by rw [ha.length]; exact .int _)⟩
  · cases e
    obtain ⟨v, rfl, h⟩ := dpa1 hv
    cases h with
    | tup hs ha => exact ⟨_, _, rfl, .inr ⟨_, sqt_mono sf hs, rfl⟩, q F H _ (Al.refl sf) (by rw [ha.length]; exact .int _)⟩
  · split at e
    · rename_i hl
      cases e
      obtain ⟨v, rfl, h⟩ := dpa1 hv
      cases h
      exact ⟨_, _, rfl, ⟨hl, rfl⟩, q F H _ (Al.refl sf) (.int _)⟩
    · cases e
  · cases e
def intsOf : List D → Option (List Int)
  | [] => some []
  | .int i :: r => (intsOf r).map (i :: ·)
  | _ :: _ => none
theorem intsOf_eq : ∀ {ds : List D} {ns : List Int}, intsOf ds = some ns → ds = ns.map PyData.int
  | [], _, h => by cases h; rfl
  | .int i :: r, ns, h => by
    unfold intsOf at h
    cases hr : intsOf r with
    | none => rw [hr] at h; cases h
    | some ms => rw [hr] at h; cases h; rw [intsOf_eq hr]; rfl
  | .none :: _, _, h | .bool _ :: _, _, h | .str _ :: _, _, h | .list _ :: _, _, h | .tuple _ :: _, _, h | .dict _ :: _, _, h => by cases h
theorem intsOf_map : ∀ ns : List Int, intsOf (ns.map PyData.int) = some ns
  | [] => rfl
  | n :: r => by
    show (intsOf (r.map PyData.int)).map (n :: ·) = some (n :: r)
    rw [intsOf_map r]
    rfl
def gSum : List D → Option D := fun xs => match xs with
  | [.list ds] => (intsOf ds).map fun ns => .int ns.sum
  | _ => none
theorem d_sum : DCall K (rSum K) gSum := fun F H vs ds d Q sf hv e q => by
  unfold gSum at e
  split at e
  · rename_i ds'
    cases hi : intsOf ds' with
    | none => rw [hi] at e; cases e
    | some ns =>
      rw [hi] at e
      cases e
      have := intsOf_eq hi
      subst this
      obtain ⟨v, rfl, h⟩ := dpa1 hv
      cases h with
      | lst hs ha =>
        rw [dpa_ints_inv ha] at hs
        exact ⟨_, ns, rfl, sf.seq hs, q F H _ (Al.refl sf) (.int _)⟩
  · cases e
def gList : List D → Option D := fun xs => match xs with
  | [.list ds] => some (.list ds)
  | [.tuple ds] => some (.list ds)
  | _ => none
theorem d_list : DCall K (fun xs H Q => ∃ p ys, xs = [.ref p] ∧ (SqL K H p ys ∨ SqT K H p ys) ∧ ∀ l, H l = none → Q (.ref l) (upd H l (.lst ys))) gList := fun F H vs ds d Q sf hv e q => by
  unfold gList at e
  split at e
  · cases e
    obtain ⟨v, rfl, h⟩ := dpa1 hv
    cases h with
    | lst hs ha => exact ⟨_, _, rfl, .inl (sf.seq hs), fun l hl => q _ _ _ (Al.new sf hl) (.lst (.of upd_same) (ha.mono (same_new (sf.free hl))))⟩
  · cases e
    obtain ⟨v, rfl, h⟩ := dpa1 hv
    cases h with
    | tup hs ha => exact ⟨_, _, rfl, .inr (sqt_mono sf hs), fun l hl => q _ _ _ (Al.new sf hl) (.lst (.of upd_same) (ha.mono (same_new (sf.free hl))))⟩
  · cases e
end
/-! slices -/
section
variable {X : Cx} {S : GS X.K G} {pv : List V} {e a b : Expr} {pos : Pos}
def cutD (ds : List D) (lo hi : Option Int) : List D := (ds.drop (HT.sIx ds.length 0 lo)).take (HT.sIx ds.length ds.length hi - HT.sIx ds.length 0 lo)
theorem cut_dp {K : PySem.W.Frag} {F : Hp} {xs : List V} {ds : List D} (h : DpAll K F xs ds) (lo hi : Option Int) : DpAll K F (cutV xs lo hi) (cutD ds lo hi) := by
  unfold cutV cutD
  rw [h.length]
  exact (h.drop _).take _
abbrev tOp' (S : GS X.K G) (pv : List V) (f : M G (Option Int)) : TO := tX S pv (RV fun _ b a => b = a) f
theorem po_weak {e : Option Expr} {t t' : TO} (h : PO X e t) (w : ∀ σ H Q, t' σ H Q → t σ H Q) : PO X e t' := ⟨fun pins s σ H Q I q => h.run pins s σ H Q I (w σ H Q q)⟩
theorem dpo_none : PO X none (tOp' S pv (mret none)) := po_weak po_none fun σ H Q ⟨F, q⟩ => q.ret1 rfl
def mpart (f : M G D) : M G (Option Int) := mbnd f fun d => mlft (match d with | .int i => some (some i) | _ => none)
theorem dpo_some {f : M G D} (h : PE X e (tD S pv f)) : PO X (some e) (tOp' S pv (mpart f)) := po_weak (po_some h) fun σ H Q ⟨F, q⟩ => ⟨F, q.step fun d v F1 H1 s1 r1 q1 => by
  obtain ⟨o, e, sf, q3⟩ := q1.last
  cases r1 with
  | int i => cases e; exact ⟨i, rfl, q3 F1 H1 _ (Al.refl sf) rfl⟩
  | _ => cases e⟩
def DSl (K : PySem.W.Frag) (r : V → Option Int → Option Int → Hp → VK → Prop) (g : D → Option Int → Option Int → Option D) : Prop :=
  ∀ F H x dx lo hi d (Q : VK), Same F H → Dp K F x dx → g dx lo hi = some d → (∀ F' H' v, Al F H F' H' → Dp K F' v d → Q v H') → r x lo hi H Q
def mslice (f : M G D) (fl fh : M G (Option Int)) (g : D → Option Int → Option Int → Option D) : M G D := mbnd f fun x => mbnd fl fun lo => mbnd fh fun hi => mlft (g x lo hi)
theorem dv_slice {r : V → Option Int → Option Int → Hp → VK → Prop} {g : D → Option Int → Option Int → Option D} {f : M G D} {fl fh : M G (Option Int)} (h : PE X e (tSl r (tD S pv f) (tOp' S pv fl) (tOp' S pv fh))) (hd : DSl X.K r g) :
    PE X e (tD S pv (mslice f fl fh g)) :=
  pe_weak h fun σ H Q ⟨F, q⟩ => ⟨F, q.step fun x v F1 H1 s1 r1 q1 => ⟨F1, q1.step fun lo lo' F2 H2 s2 r2 q2 => ⟨F2, q2.step fun hi hi' F3 H3 s3 r3 q3 => by
    obtain ⟨d, e, sf, q4⟩ := q3.last
    cases r2
    cases r3
    exact hd F3 H3 v x lo hi d Q sf (r1.mono (s2.trans s3)) e fun F' H' v al r => q4 F' H' v al r⟩⟩⟩
def gSlL : D → Option Int → Option Int → Option D := fun x lo hi => match x with | .list ds => some (.list (cutD ds lo hi)) | _ => none
theorem d_slL {K : PySem.W.Frag} : DSl K (rSlL K) gSlL := fun F H x dx lo hi d Q sf hx e q => by
  cases hx with
  | lst hs ha => cases e; exact ⟨_, _, rfl, sf.seq hs, fun p hp => q _ _ _ (Al.new sf hp) (.lst (.of upd_same) ((cut_dp ha lo hi).mono (same_new (sf.free hp))))⟩
  | _ => cases e
/-! ### what a slot owns: lists -/
def rdO (i : Nat) (g : List D → Option D) : M G D := fun ρ => match ρ[i]? with
  | some (.own (.seq ds)) => match g ds with
    | some d => some (d, ρ)
    | none => none
  | _ => none
def wrO (i : Nat) (g : List D → Option (D × List D)) : M G D := fun ρ => match ρ[i]? with
  | some (.own (.seq ds)) => match g ds with
    | some (d, ds') => some (d, ρ.set i (.own (.seq ds')))
    | none => none
  | _ => none
theorem RE.ownL {F H : Hp} {ω : Om} {σ : L2.St} {ρ : List (Sl G)} (re : RE S pv F H ω σ ρ) {i : Nat} {ds : List D} (h : ρ[i]? = some (.own (.seq ds))) : ∃ a xs, σ[i]? = some (some (.ref a)) ∧ ω a = some i ∧ H a = some (.lst xs) ∧ DpAll X.K F xs ds := by
  obtain ⟨x, h1, v, rfl, a, xs, rfl, h2, h3, h4⟩ := re.slot i _ h
  exact ⟨a, xs, h1, h2, h3, h4⟩
/-- an operation whose left side is owned, and stays -/
def DOpO (K : PySem.W.Frag) (r : R2) (g : List D → D → Option D) : Prop :=
  ∀ F H a xs ds y dy d (Q : VK), Same F H → H a = some (.lst xs) → DpAll K F xs ds → Dp K F y dy → g ds dy = some d → (∀ F' H' v, Al F H F' H' → Dp K F' v d → Q v H') → r (.ref a) y H Q
def mopO (i : Nat) (fb : M G D) (g : List D → D → Option D) : M G D := fun ρ => match ρ[i]? with
  | some (.own (.seq _)) => mbnd fb (fun y => rdO i fun ds => g ds y) ρ
  | _ => none
theorem dv_opO {r : R2} {i : Nat} {fb : M G D} {g : List D → D → Option D} (h : PE X e (tOp r (tVar i) (tD S pv fb))) (hd : DOpO X.K r g) : PE X e (tD S pv (mopO i fb g)) :=
  pe_weak h fun σ H Q ⟨F, ω, ρ, re, d, ρ', e, q⟩ => by
    unfold mopO at e
    split at e
    · rename_i ds0 h0
      obtain ⟨a, xs0, hv, _, _, _⟩ := re.ownL h0
      obtain ⟨y, ρ1, e1, e2⟩ := mbnd_some e
      refine ⟨_, hv, F, ω, ρ, re, y, ρ1, e1, fun F1 H1 ω1 u ev1 re1 r1 => ?_⟩
      unfold rdO at e2
      split at e2
      · rename_i ds1 h1
        obtain ⟨a1, xs1, hv1, hw1, hH1, hs1⟩ := re1.ownL h1
        rw [hv] at hv1
        cases hv1
        cases eg : g ds1 y with
        | none => simp only [eg] at e2; cases e2
        | some d' =>
          simp only [eg] at e2
          cases e2
          exact hd F1 H1 a xs1 ds1 u y d Q re1.fh hH1 hs1 r1 eg fun F' H' v al r => q F' H' ω1 v (ev1.trans al.ev) (re1.al al) r
      · cases e2
    · cases e
/-- len(x), .. : a call whose one argument is owned -/
def DCallO (K : PySem.W.Frag) (r : List V → Hp → VK → Prop) (g : List D → Option D) : Prop :=
  ∀ F H a xs ds d (Q : VK), Same F H → H a = some (.lst xs) → DpAll K F xs ds → g ds = some d → (∀ F' H' v, Al F H F' H' → Dp K F' v d → Q v H') → r [.ref a] H Q
theorem dv_callO {r : List V → Hp → VK → Prop} {i : Nat} {g : List D → Option D} (h : PE X e (tCB r (tCons (tVar i) tNil))) (hd : DCallO X.K r g) : PE X e (tD S pv (rdO i g)) :=
  pe_weak h fun σ H Q ⟨F, ω, ρ, re, d, ρ', e, q⟩ => by
    unfold rdO at e
    split at e
    · rename_i ds1 h1
      obtain ⟨a, xs1, hv, hw1, hH1, hs1⟩ := re.ownL h1
      cases eg : g ds1 with
      | none => rw [eg] at e; cases e
      | some d' =>
        rw [eg] at e
        cases e
        exact ⟨_, hv, hd F H a xs1 ds1 d Q re.fh hH1 hs1 eg fun F' H' v al r => q F' H' ω v al.ev (re.al al) r⟩
    · cases e
/-- a method that changes the list -/
def DMut (K : PySem.W.Frag) (r : V → List V → Hp → VK → Prop) (g : List D → List D → Option (D × List D)) : Prop :=
  ∀ F H a xs ds vs es d ds' (Q : VK), Same F H → H a = some (.lst xs) → DpAll K F xs ds → DpAll K F vs es → g ds es = some (d, ds') → (∀ v xs', Dp K F v d → DpAll K F xs' ds' → Q v (upd H a (.lst xs'))) → r (.ref a) vs H Q
def mmut (i : Nat) (fs : M G (List D)) (g : List D → List D → Option (D × List D)) : M G D := fun ρ => match ρ[i]? with
  | some (.own (.seq _)) => mbnd fs (fun es => wrO i fun ds => g ds es) ρ
  | _ => none
theorem mut_core {r : V → List V → Hp → VK → Prop} {g : List D → List D → Option (D × List D)} (hd : DMut X.K r g) {i : Nat} {es : List D} {vs : List V} {F H : Hp} {σ : L2.St} {Q : VK} {a : Addr} {ω : Om} {ρ ρ' : List (Sl G)} {d : D} (re : RE S pv F H ω σ ρ)
    (e : wrO i (fun ds => g ds es) ρ = some (d, ρ')) (hv : σ[i]? = some (some (.ref a))) (hvs : DpAll X.K F vs es) (q : ∀ H' v, Ev F H ω F H' ω → RE S pv F H' ω σ ρ' → Dp X.K F v d → Q v H') : r (.ref a) vs H Q := by
  unfold wrO at e
  split at e
  · rename_i ds1 h1
    obtain ⟨a1, xs1, hv1, hw1, hH1, hs1⟩ := re.ownL h1
    rw [hv] at hv1
    cases hv1
    cases eg : g ds1 es with
    | none => simp only [eg] at e; cases e
    | some p =>
      obtain ⟨d', ds'⟩ := p
      simp only [eg] at e
      cases e
      refine hd F H a xs1 ds1 vs es d ds' Q re.fh hH1 hs1 hvs eg fun v xs' hr hs' => ?_
      obtain ⟨re2, ev2⟩ := re.wr (u := .lst xs') (o2 := .seq ds') h1 hv hw1 ⟨a, xs', rfl, hw1, upd_same, hs'⟩
      exact q _ v ev2 re2 hr
  · cases e
theorem dv_mut {r : V → List V → Hp → VK → Prop} {i : Nat} {fs : M G (List D)} {g : List D → List D → Option (D × List D)} (h : PE X e (tBM X.K "list" r (tVar i) (tA S pv fs))) (hd : DMut X.K r g) : PE X e (tD S pv (mmut i fs g)) :=
  pe_weak h fun σ H Q ⟨F, ω, ρ, re, d, ρ', e, q⟩ => by
    unfold mmut at e
    split at e
    · rename_i ds0 h0
      obtain ⟨a, xs0, hv, _, hH0, _⟩ := re.ownL h0
      obtain ⟨es, ρ1, e1, e2⟩ := mbnd_some e
      refine ⟨_, hv, .inl ⟨rfl, xs0, SqL.of hH0⟩, F, ω, ρ, re, es, ρ1, e1, fun F1 H1 ω1 vs ev1 re1 r1 => ?_⟩
      exact mut_core hd re1 e2 hv r1 fun H' v ev re2 hr => q F1 H' ω1 v (ev1.trans ev) re2 hr
    · cases e
theorem dv_mut0 {r : V → List V → Hp → VK → Prop} {i : Nat} {g : List D → List D → Option (D × List D)} (h : PE X e (tBM0 X.K "list" r (tVar i))) (hd : DMut X.K r g) : PE X e (tD S pv (wrO i fun ds => g ds [])) :=
  pe_weak h fun σ H Q ⟨F, ω, ρ, re, d, ρ', e, q⟩ => by
    have e0 := e
    unfold wrO at e0
    split at e0
    · rename_i ds0 h0
      obtain ⟨a, xs0, hv, _, hH0, _⟩ := re.ownL h0
      exact ⟨_, hv, .inl ⟨rfl, xs0, SqL.of hH0⟩, mut_core hd re e hv .nil fun H' v ev re2 hr => q F H' ω v ev re2 hr⟩
    · cases e0
def gAppend : List D → List D → Option (D × List D) := fun ds es => match es with | [y] => if ds.length < sizeLine then some (.none, ds ++ [y]) else none | _ => none
theorem d_append {K : PySem.W.Frag} : DMut K rAppend gAppend := fun F H a xs ds vs es d ds' Q sf hH hs hv e q => by
  unfold gAppend at e
  split at e
  · split at e
    · rename_i hl
      cases e
      obtain ⟨v, rfl, h⟩ := dpa1 hv
      exact ⟨a, xs, v, rfl, rfl, hH, by rw [hs.length]; exact hl, q .non _ .non (hs.append (.cons h .nil))⟩
    · cases e
  · cases e
/-- x[k] = e -/
def gSetI (ds : List D) (k d : D) : Option (D × List D) := match k with | .int i => (ixN ds.length i).map fun j => (.none, ds.set j d) | _ => none
def ssetI (i : Nat) (f fi : M G D) : SM G := mbnd f fun d => fun ρ => match ρ[i]? with
  | some (.own (.seq _)) => mbnd fi (fun k => mbnd (wrO i fun ds => gSetI ds k d) fun _ => mret .nx) ρ
  | _ => none
theorem ds_setI {st : Stmt} {i : Nat} {f fi : M G D} (h : PS X st (tAsg (tD S pv f) (L2.gSub (tVar i) (tD S pv fi) rSetL))) : PS X st (tS S pv (ssetI i f fi)) :=
  ps_weak h fun En σ H ⟨F, ω, ρ, re, out, ρ', e, q⟩ => by
    obtain ⟨d, ρ1, e1, e2⟩ := mbnd_some e
    refine ⟨F, ω, ρ, re, d, ρ1, e1, fun F1 H1 ω1 v ev1 re1 r1 => ?_⟩
    split at e2
    · rename_i ds0 h0
      obtain ⟨a, xs0, hv, _, hH0, _⟩ := re1.ownL h0
      obtain ⟨k, ρ2, e3, e4⟩ := mbnd_some e2
      obtain ⟨d2, ρ3, e5, e6⟩ := mbnd_some e4
      cases e6
      refine ⟨_, hv, F1, ω1, ρ1, re1, k, ρ2, e3, fun F2 H2 ω2 u ev2 re2 r2 => ?_⟩
      unfold wrO at e5
      split at e5
      · rename_i ds1 h1
        obtain ⟨a1, xs1, hv1, hw1, hH1, hs1⟩ := re2.ownL h1
        rw [hv] at hv1
        cases hv1
        cases k with
        | int i' =>
          cases r2
          unfold gSetI at e5
          dsimp only at e5
          cases hj : ixN ds1.length i' with
          | none => rw [hj] at e5; cases e5
          | some j =>
            rw [hj] at e5
            cases e5
            refine ⟨a, xs1, i', j, rfl, rfl, hH1, by rw [hs1.length]; exact hj, ?_⟩
            obtain ⟨re3, ev3⟩ := re2.wr (u := .lst (xs1.set j v)) (o2 := .seq (ds1.set j d)) h1 hv hw1 ⟨a, _, rfl, hw1, upd_same, hs1.set (r1.mono ev2.ff) j⟩
            exact q F2 _ ω2 σ (ev1.trans (ev2.trans ev3)) re3 rfl
        | _ => cases e5
      · cases e5
    · cases e2
def gIxO : List D → D → Option D := fun ds k => match k with | .int i => atI ds i | _ => none
theorem d_ixO {K : PySem.W.Frag} : DOpO K (rIxL K) gIxO := fun F H a xs ds y dy d Q sf hH hs hy e q => by
  cases hy with
  | int i =>
    obtain ⟨v, h1, h2⟩ := atI_dp hs e
    exact ⟨a, xs, i, v, rfl, rfl, SqL.of hH, h1, q F H v (Al.refl sf) h2⟩
  | _ => cases e
def gLenO : List D → Option D := fun ds => some (.int ds.length)
theorem d_lenO {K : PySem.W.Frag} : DCallO K (fun xs H Q => ∃ x n, xs = [x] ∧ LenV K x H n ∧ Q (.int n) H) gLenO := fun F H a xs ds d Q sf hH hs e q => by
  cases e
  exact ⟨_, _, rfl, .inl ⟨xs, SqL.of hH, rfl⟩, q F H _ (Al.refl sf) (by rw [hs.length]; exact .int _)⟩
end
end DL
set_option Elab.async false
set_option linter.all false
set_option maxRecDepth 100000
set_option maxHeartbeats 1000000
namespace DL
open PySem PySem.Spec PyProof.Rows L2
variable {G : Type}

/-! ### comprehensions -/
def wipeR (ρ : List (Sl G)) : List Nat → List (Sl G)
  | [] => ρ
  | v :: vs => (wipeR ρ vs).set v .un
def restR (ρ0 ρ : List (Sl G)) : List Nat → List (Sl G)
  | [] => ρ
  | v :: vs => (restR ρ0 ρ vs).set v (ρ0.getD v .un)
def isOwn : Sl G → Bool
  | .own _ => true
  | _ => false
def okW (ρ : List (Sl G)) (vs : List Nat) : Bool := vs.all fun v => !isOwn (ρ.getD v .un)
def compM (vs : List Nat) (tg : D → List (Sl G) → Option (List (Sl G))) (tt : M G Bool) (te : M G D) : List D → M G (List D)
  | [] => fun ρ => some ([], ρ)
  | d :: ds => fun ρ => match tg d ρ with
    | none => none
    | some ρ1 => match tt ρ1 with
      | none => none
      | some (true, ρ2) => match te ρ2 with
        | none => none
        | some (y, ρ3) => match compM vs tg tt te ds (wipeR ρ3 vs) with
          | none => none
          | some (ys, ρ4) => some (y :: ys, ρ4)
      | some (false, ρ2) => compM vs tg tt te ds (wipeR ρ2 vs)
def mcomp (it : M G (List D)) (vs : List Nat) (tg : D → List (Sl G) → Option (List (Sl G))) (tt : M G Bool) (te : M G D) : M G (List D) :=
  mbnd it fun ds => fun ρ => if okW ρ vs = true ∧ ds.length ≤ sizeLine then
    (match compM vs tg tt te ds (wipeR ρ vs) with
    | none => none
    | some (ys, ρ') => some (ys, restR ρ ρ' vs)) else none
theorem restR_len (ρ0 ρ : List (Sl G)) : ∀ vs, (restR ρ0 ρ vs).length = ρ.length
  | [] => rfl
  | v :: vs => by unfold restR; rw [List.length_set, restR_len ρ0 ρ vs]
theorem restR_get {ρ0 ρ : List (Sl G)} {k : Nat} {s : Sl G} : ∀ {vs : List Nat}, (restR ρ0 ρ vs)[k]? = some s → (k ∈ vs ∧ s = ρ0.getD k .un) ∨ (k ∉ vs ∧ ρ[k]? = some s)
  | [], h => .inr ⟨by simp, h⟩
  | v :: vs, h => by
    unfold restR at h
    by_cases hv : v = k
    · subst hv
      have hl : v < (restR ρ0 ρ vs).length := by
        have := (List.getElem?_eq_some_iff.mp h).1
        rw [List.length_set] at this
        exact this
      rw [List.getElem?_set_self hl] at h
      cases h
      exact .inl ⟨List.mem_cons_self, rfl⟩
    · rw [List.getElem?_set_ne hv] at h
      rcases restR_get h with ⟨h1, h2⟩ | ⟨h1, h2⟩
      · exact .inl ⟨List.mem_cons_of_mem _ h1, h2⟩
      · exact .inr ⟨fun z => (List.mem_cons.mp z).elim (fun z => hv z.symm) h1, h2⟩
theorem wipe_at {σ : L2.St} {k : Nat} : ∀ {vs : List Nat}, k ∈ vs → k < σ.length → (wipe σ vs)[k]? = some none
  | [], h, _ => by simp at h
  | v :: vs, h, hl => by
    unfold wipe
    by_cases hv : v = k
    · subst hv
      rw [List.getElem?_set_self (by rw [wipe_length]; exact hl)]
    · rw [List.getElem?_set_ne hv]
      exact wipe_at ((List.mem_cons.mp h).elim (fun z => absurd z.symm hv) id) hl
theorem wipe_eq {σ σ2 : L2.St} {is vs : List Nat} (hs : ∀ k ∈ is, k ∈ vs) (hl : σ2.length = (wipe σ vs).length) (hk : ∀ k, k ∉ is → σ2[k]? = (wipe σ vs)[k]?) : wipe σ2 vs = wipe σ vs := by
  rw [wipe_length] at hl
  apply List.ext_getElem?
  intro k
  by_cases hv : k ∈ vs
  · by_cases hlt : k < σ.length
    · rw [wipe_at hv hlt, wipe_at hv (by omega)]
    · rw [List.getElem?_eq_none (by rw [wipe_length]; omega), List.getElem?_eq_none (by rw [wipe_length]; omega)]
  · rw [wipe_out hv, hk k fun z => hv (hs k z)]
section
variable {K : PySem.W.Frag} {S : GS K G} {pv : List V} {F H F' H' : Hp} {ω ω' : Om} {σ : L2.St} {ρ : List (Sl G)}
theorem RE.wipe (r : RE S pv F H ω σ ρ) : ∀ vs, RE S pv F H ω (L2.wipe σ vs) (wipeR ρ vs)
  | [] => r
  | v :: vs => (RE.wipe r vs).drop v none
/-- a thing that is nobody's is written, or is new -/
theorem RE.junk {a : Addr} {u : HO} (r : RE S pv F H ω σ ρ) (hf : F a = none) (hw : ω a = none) : RE S pv F (upd H a u) ω σ ρ where
  len := r.len
  fh := fun b o e => by
    rw [upd_ne (fun z => by rw [z, hf] at e; cases e)]
    exact r.fh b o e
  wf := fun b i e => by
    have hb : b ≠ a := fun z => by rw [z, hw] at e; cases e
    rw [upd_ne hb]
    exact r.wf b i e
  slot := fun i s e => by
    obtain ⟨x, h1, h2⟩ := r.slot i s e
    refine ⟨x, h1, h2.mono (Same.refl F) (fun b o hb h => ?_) fun _ z => z⟩
    have hba : b ≠ a := fun z => by rw [z, hw] at hb; cases hb
    rw [upd_ne hba]
    exact h
  fix := r.fix
theorem Ev.keepD {D : Addr} {o : HO} (e : Ev F H ω F' H' ω') (h : H D = some o) (hf : F D = none) (hw : ω D = none) : H' D = some o ∧ F' D = none ∧ ω' D = none := by
  refine ⟨e.hh D o h hw, ?_, ?_⟩
  · cases q : F' D with
    | none => rfl
    | some u =>
      rcases e.fn D u q with z | z | z
      · rw [hf] at z; cases z
      · rw [h] at z; cases z
      · exact absurd hw z
  · cases q : ω' D with
    | none => rfl
    | some u =>
      rcases e.wn D (by rw [q]; simp) with z | z
      · exact absurd hw z
      · rw [h] at z; cases z
/-- nobody's list stands for good from now on -/
theorem RE.frzJ {a : Addr} {xs : List V} (r : RE S pv F H ω σ ρ) (hf : F a = none) (hw : ω a = none) (hH : H a = some (.lst xs)) : RE S pv (upd F a (.lst xs)) H ω σ ρ where
  len := r.len
  fh := fun b o e => by
    by_cases hb : b = a
    · subst hb; rw [upd_same] at e; cases e; exact hH
    · rw [upd_ne hb] at e; exact r.fh b o e
  wf := fun b i e => by
    have hb : b ≠ a := fun z => by rw [z, hw] at e; cases e
    rw [upd_ne hb]
    exact r.wf b i e
  slot := fun i s e => by
    obtain ⟨x, h1, h2⟩ := r.slot i s e
    exact ⟨x, h1, h2.mono (same_new hf) (fun _ _ _ h => h) fun _ z => z⟩
  fix := r.fix
theorem RE.mark {a : Addr} {n : Nat} (r : RE S pv F H ω σ ρ) (hf : F a = none) (hw : ω a = none) (hH : H a ≠ none) : RE S pv F H (fun b => if b = a then some n else ω b) σ ρ where
  len := r.len
  fh := r.fh
  wf := fun b i e => by
    by_cases hb : b = a
    · subst hb; exact ⟨hf, hH⟩
    · rw [if_neg hb] at e; exact r.wf b i e
  slot := fun i s e => by
    obtain ⟨x, h1, h2⟩ := r.slot i s e
    refine ⟨x, h1, h2.mono (Same.refl F) (fun _ _ _ h => h) fun b hb => ?_⟩
    show (if b = a then some n else ω b) = some i
    rw [if_neg (fun z => by rw [z, hw] at hb; cases hb)]
    exact hb
  fix := r.fix
theorem RE.rest {vs : List Nat} {ρ2 : List (Sl G)} (r : RE S pv F H ω σ ρ) (r2 : RE S pv F' H' ω' (L2.wipe σ vs) ρ2) (ev : Ev F H ω F' H' ω') (ok : okW ρ vs = true) : RE S pv F' H' ω' σ (restR ρ ρ2 vs) where
  len := by rw [restR_len, ← r2.len, wipe_length]
  fh := r2.fh
  wf := r2.wf
  slot := fun i s e => by
    rcases restR_get e with ⟨h1, h2⟩ | ⟨h1, h2⟩
    · cases hρ : ρ[i]? with
      | none =>
        rw [List.getD_eq_getElem?_getD, hρ] at h2
        have h2 : s = .un := h2
        subst h2
        have hl : i < σ.length := by
          have h3 := (List.getElem?_eq_some_iff.mp e).1
          rw [restR_len, ← r2.len, wipe_length] at h3
          exact h3
        exact ⟨σ[i], List.getElem?_eq_getElem hl, trivial⟩
      | some s0 =>
        rw [List.getD_eq_getElem?_getD, hρ] at h2
        have h2 : s = s0 := h2
        subst h2
        obtain ⟨x, h3, h4⟩ := r.slot i s hρ
        refine ⟨x, h3, ?_⟩
        have := List.all_eq_true.mp ok i h1
        rw [List.getD_eq_getElem?_getD, hρ] at this
        cases s with
        | un => trivial
        | val d => obtain ⟨v, e5, dp⟩ := h4; exact ⟨v, e5, dp.mono ev.ff⟩
        | own o => cases this
    · obtain ⟨x, h3, h4⟩ := r2.slot i s h2
      rw [wipe_out h1] at h3
      exact ⟨x, h3, h4⟩
  fix := fun i v o h1 h2 => by
    rcases restR_get h2 with ⟨h3, h4⟩ | ⟨h3, h4⟩
    · have := List.all_eq_true.mp ok i h3
      rw [← h4] at this
      cases this
    · have := r2.fix i v o h1 h4
      rw [wipe_out h3] at this
      exact this
end
section
variable {X : Cx} {S : GS X.K G} {pv : List V} {e : Expr} {pos : Pos}
theorem pts_weak {es : List Expr} {t t' : TT} (h : PTs X es t) (w : ∀ σ H Q, t' σ H Q → t σ H Q) : PTs X es t' := ⟨fun pins s σ H Q I q => h.run pins s σ H Q I (w σ H Q q)⟩
theorem dts_nil : PTs X [] (tT S pv (mret true)) := pts_weak pts_nil fun σ H Q ⟨F, q⟩ => q.ret1 rfl
theorem dts_one {c : Expr} {f : M G Bool} (h : PT X c (tT S pv f)) : PTs X [c] (tT S pv f) := pts_one h
theorem comp_core {it : M G (List D)} {g : TG} {is vs : List Nat} {tg} {tt : M G Bool} {te : M G D} (hg : DTg S pv g is tg) (hs : ∀ k ∈ is, k ∈ vs) {F : Hp} {σ : L2.St} {H : Hp} {Q : VK} {ω : Om} {ρ : List (Sl G)} {ys : List D} {ρ' : List (Sl G)}
    (re : RE S pv F H ω σ ρ) (e : mcomp it vs tg tt te ρ = some (ys, ρ'))
    (q : ∀ F' H' ω' D acc, Ev F H ω F' H' ω' → RE S pv F' H' ω' σ ρ' → H' D = some (.lst acc) → F' D = none → ω' D = none → H D = none → DpAll X.K F' acc ys → Q (.ref D) H') :
    tLc (tI S pv it) g (tT S pv tt) (tD S pv te) vs σ H Q := by
  obtain ⟨ds, ρ1, e1, e2⟩ := mbnd_some e
  by_cases hc : okW ρ1 vs = true ∧ ds.length ≤ sizeLine
  case neg => rw [if_neg hc] at e2; cases e2
  rw [if_pos hc] at e2
  cases e3 : compM vs tg tt te ds (wipeR ρ1 vs) with
  | none => simp only [e3] at e2; cases e2
  | some p =>
    obtain ⟨ys', ρe⟩ := p
    simp only [e3] at e2
    cases e2
    refine ⟨F, ω, ρ, re, ds, ρ1, e1, fun F1 H1 ω1 J ev1 re1 wk => ?_⟩
    intro D hD
    have f1D : F1 D = none := re1.fh.free hD
    have w1D : ω1 D = none := by
      cases q : ω1 D with
      | none => rfl
      | some i => exact absurd hD (re1.wf D i q).2
    let Inv (i : Nat) (H2 : Hp) : Prop := ∃ F2 ω2 ρ2 acc dacc zs, Ev F1 H1 ω1 F2 H2 ω2 ∧ RE S pv F2 H2 ω2 (L2.wipe σ vs) ρ2 ∧ H2 D = some (.lst acc) ∧ F2 D = none ∧ ω2 D = none ∧ DpAll X.K F2 acc dacc ∧ dacc.length ≤ i ∧
        compM vs tg tt te (ds.drop i) ρ2 = some (zs, ρe) ∧ dacc ++ zs = ys
    have i0 : Inv 0 (upd H1 D (.lst [])) := by
      refine ⟨F1, ω1, wipeR ρ1 vs, [], [], ys, ⟨Same.refl _, fun _ _ h => .inl h, fun b o h _ => same_new hD b o h, fun _ h => .inl h, fun b h => ne_none_of (same_new hD) h⟩, (re1.wipe vs).junk f1D w1D, upd_same, f1D, w1D, .nil, Nat.le_refl _, e3, rfl⟩
    refine ⟨fun i m H2 => m = ds.length - i ∧ i ≤ ds.length ∧ Inv i H2, ⟨ds.length, by simp, Nat.zero_le _, i0⟩, ?_⟩
    rintro i m H2 ⟨rfl, hi, F2, ω2, ρ2, acc, dacc, zs, ev2, re2, hHD, hFD, hwD, hacc, hal, ec, ez⟩
    by_cases hlt : i < ds.length
    · refine .inr ⟨wk.go i F2 H2 ev2.ff re2.fh hlt, Inv (i + 1), fun H' hN => ⟨ds.length - (i + 1), by omega, rfl, hlt, hN⟩, fun x H3 hy => ?_⟩
      obtain ⟨F3, d, hd, al, dp⟩ := wk.yld i F2 H2 x H3 ev2.ff re2.fh hlt hy
      have hdr : ds.drop i = d :: ds.drop (i + 1) := by
        rw [List.drop_eq_getElem_cons hlt]
        rw [List.getElem?_eq_getElem hlt] at hd
        cases hd
        rfl
      rw [hdr] at ec
      unfold compM at ec
      cases et : tg d ρ2 with
      | none => simp only [et] at ec; cases ec
      | some ρ3 =>
        simp only [et] at ec
        have evA := al.ev (ω := ω2)
        obtain ⟨h3D, f3D, w3D⟩ := evA.keepD hHD hFD hwD
        refine hg F3 H3 ω2 _ ρ2 x d ρ3 _ (re2.al al) dp et fun σ2 re3 hl3 hk3 => ?_
        have hwe : L2.wipe σ2 vs = L2.wipe σ vs := wipe_eq hs hl3 hk3
        refine ⟨hwe, ?_⟩
        cases eb : tt ρ3 with
        | none => simp only [eb] at ec; cases ec
        | some p =>
          obtain ⟨b, ρ4⟩ := p
          refine ⟨F3, ω2, ρ3, re3, b, ρ4, eb, fun F4 H4 ω4 b' ev4 re4 r4 => ?_⟩
          cases r4
          obtain ⟨h4D, f4D, w4D⟩ := ev4.keepD h3D f3D w3D
          have ev14 := ev2.trans (evA.trans ev4)
          cases b with
          | false =>
            simp only [eb] at ec
            refine iteF ⟨F4, ω4, wipeR ρ4 vs, acc, dacc, zs, ev14, ?_, h4D, f4D, w4D, hacc.mono (al.ff.trans ev4.ff), by omega, ec, ez⟩
            rw [← hwe]
            exact re4.wipe vs
          | true =>
            simp only [eb] at ec
            refine iteT ?_
            cases ee : te ρ4 with
            | none => simp only [ee] at ec; cases ec
            | some p =>
              obtain ⟨y, ρ5⟩ := p
              simp only [ee] at ec
              cases er : compM vs tg tt te (ds.drop (i + 1)) (wipeR ρ5 vs) with
              | none => simp only [er] at ec; cases ec
              | some p =>
                obtain ⟨zs', ρ6⟩ := p
                simp only [er] at ec
                cases ec
                refine ⟨F4, ω4, ρ4, re4, y, ρ5, ee, fun F5 H5 ω5 v ev5 re5 r5 => ?_⟩
                obtain ⟨h5D, f5D, w5D⟩ := ev5.keepD h4D f4D w4D
                have hl : acc.length = dacc.length := hacc.length
                refine ⟨acc, h5D, by omega, F5, ω5, wipeR ρ5 vs, acc ++ [v], dacc ++ [y], zs', ?_, ?_, upd_same, f5D, w5D, (hacc.mono (al.ff.trans (ev4.ff.trans ev5.ff))).append (.cons r5 .nil), by rw [List.length_append]; exact Nat.add_le_add_right hal 1, er, by rw [← ez]; simp⟩
                · have ev15 := ev14.trans ev5
                  refine ⟨ev15.ff, ev15.fn, fun b o h hw => ?_, ev15.wn, fun b h => ?_⟩
                  · rw [upd_ne (fun z => by rw [z, hD] at h; cases h)]
                    exact ev15.hh b o h hw
                  · by_cases hb : b = D
                    · rw [hb, upd_same]; simp
                    · rw [upd_ne hb]; exact ev15.dom b h
                · refine RE.junk ?_ f5D w5D
                  rw [← hwe]
                  exact re5.wipe vs
    · have e : i = ds.length := by omega
      subst e
      rw [List.drop_length] at ec
      cases ec
      refine .inl ⟨wk.stop F2 H2 ev2.ff re2.fh, ?_⟩
      rw [List.append_nil] at ez
      subst ez
      refine q F2 H2 ω2 D acc (ev1.trans ev2) (re1.rest re2 ev2 hc.1) hHD hFD hwD ?_ hacc
      cases qh : H D with
      | none => rfl
      | some u => exact absurd hD (ev1.dom D (by rw [qh]; simp))
def mlc (f : M G (List D)) : M G D := mbnd f fun ds => mret (.list ds)
def molc (f : M G (List D)) : M G (Ow G) := mbnd f fun ds => mret (.seq ds)
theorem dv_lc {it : M G (List D)} {g : TG} {is vs : List Nat} {tg} {tt : M G Bool} {te : M G D} (h : PE X e (tLc (tI S pv it) g (tT S pv tt) (tD S pv te) vs)) (hg : DTg S pv g is tg) (hs : ∀ k ∈ is, k ∈ vs) : PE X e (tD S pv (mlc (mcomp it vs tg tt te))) :=
  pe_weak h fun σ H Q ⟨F, ω, ρ, re, d, ρ', e, q⟩ => by
    obtain ⟨ys, ρ1, e1, e2⟩ := mbnd_some e
    cases e2
    refine comp_core hg hs re e1 fun F' H' ω' D acc ev re' h1 h2 h3 h4 h5 => ?_
    refine q _ H' ω' _ ⟨ev.ff.trans (same_new h2), fun b o hb => ?_, ev.hh, ev.wn, ev.dom⟩ (re'.frzJ h2 h3 h1) (.lst (.of upd_same) (h5.mono (same_new h2)))
    by_cases hbD : b = D
    · rw [hbD]; exact .inr (.inl h4)
    · rw [upd_ne hbD] at hb; exact ev.fn b o hb
theorem do_lc {it : M G (List D)} {g : TG} {is vs : List Nat} {tg} {tt : M G Bool} {te : M G D} (h : PE X e (tLc (tI S pv it) g (tT S pv tt) (tD S pv te) vs)) (hg : DTg S pv g is tg) (hs : ∀ k ∈ is, k ∈ vs) : PE X e (tO S pv (molc (mcomp it vs tg tt te))) :=
  pe_weak h fun σ H Q ⟨F, ω, ρ, re, d, ρ', e, q⟩ => by
    obtain ⟨ys, ρ1, e1, e2⟩ := mbnd_some e
    cases e2
    refine comp_core hg hs re e1 fun F' H' ω' D acc ev re' h1 h2 h3 h4 h5 => ?_
    refine q F' H' _ _ ⟨ev.ff, ev.fn, ev.hh, fun b hb => ?_, ev.dom⟩ (re'.mark h2 h3 (n := σ.length) (by rw [h1]; simp)) ⟨D, acc, rfl, ?_, h1, h5⟩
    · by_cases hbD : b = D
      · rw [hbD]; exact .inr h4
      · rw [if_neg hbD] at hb; exact ev.wn b hb
    · show (if D = D then some σ.length else ω' D) = some σ.length
      rw [if_pos rfl]
/-- y = [..] -/
theorem ds_setLc {it : M G (List D)} {g : TG} {is vs : List Nat} {tg} {tt : M G Bool} {te : M G D} {st : Stmt} {i : Nat} (h : PS X st (tAsg (tLc (tI S pv it) g (tT S pv tt) (tD S pv te) vs) (gName i))) (hg : DTg S pv g is tg) (hs : ∀ k ∈ is, k ∈ vs) : PS X st (tS S pv (sset i (mlc (mcomp it vs tg tt te)))) :=
  ds_set (ps_weak h fun En σ H ⟨F, ω, ρ, re, d, ρ', e, q⟩ => by
    obtain ⟨ys, ρ1, e1, e2⟩ := mbnd_some e
    cases e2
    refine comp_core hg hs re e1 fun F' H' ω' D acc ev re' h1 h2 h3 h4 h5 => ?_
    refine q _ H' ω' _ ⟨ev.ff.trans (same_new h2), fun b o hb => ?_, ev.hh, ev.wn, ev.dom⟩ (re'.frzJ h2 h3 h1) (.lst (.of upd_same) (h5.mono (same_new h2)))
    by_cases hbD : b = D
    · rw [hbD]; exact .inr (.inl h4)
    · rw [upd_ne hbD] at hb; exact ev.fn b o hb)
theorem ds_setLcO {it : M G (List D)} {g : TG} {is vs : List Nat} {tg} {tt : M G Bool} {te : M G D} {st : Stmt} {i np : Nat} (h : PS X st (tAsg (tLc (tI S pv it) g (tT S pv tt) (tD S pv te) vs) (gName i))) (hg : DTg S pv g is tg) (hs : ∀ k ∈ is, k ∈ vs) (hp : pv.length = np) : PS X st (tS S pv (ssetO np i (molc (mcomp it vs tg tt te)))) :=
  ds_setO (ps_weak h fun En σ H ⟨F, ω, ρ, re, d, ρ', e, q⟩ => by
    obtain ⟨ys, ρ1, e1, e2⟩ := mbnd_some e
    cases e2
    refine comp_core hg hs re e1 fun F' H' ω' D acc ev re' h1 h2 h3 h4 h5 => ?_
    refine q F' H' _ _ ⟨ev.ff, ev.fn, ev.hh, fun b hb => ?_, ev.dom⟩ (re'.mark h2 h3 (n := σ.length) (by rw [h1]; simp)) ⟨D, acc, rfl, ?_, h1, h5⟩
    · by_cases hbD : b = D
      · rw [hbD]; exact .inr h4
      · rw [if_neg hbD] at hb; exact ev.wn b hb
    · show (if D = D then some σ.length else ω' D) = some σ.length
      rw [if_pos rfl]) hp
end
end DL
set_option Elab.async false
set_option linter.all false
set_option maxRecDepth 100000
set_option maxHeartbeats 1000000
namespace DL
open PySem PySem.Spec PyProof.Rows L2
/-- a def of the module that may be called by its name x -/
structure CalF (P : Program) (w : World) (K : PySem.W.Frag) (mg : Str → Option Value) (base : Heap) (k : Nat) (x : Str) (ps : List Str) (sp : Sp) : Prop where
  ex : ∃ (f : Addr) (fd : FuncData), FnOk P w K mg base CX0 k f fd ps sp ∧ mg x = some (.ref f) ∧ PySem.W.keepIn K (.ref f) = true ∧ Binds K fd ps []
theorem pe_cal {X : Cx} {k : Nat} {x : Str} {ps : List Str} {sp : Sp} {p cpos : Pos} {e : Expr} {es : List Expr} {t : TA} (C : CalF X.prog X.w X.K X.mg X.base k x ps sp) (hr : Room k X.A) (hg : Gl X x) (ha : PA X (e :: es) t)
    (hdb : (x == ("__debug__" : Str)) = false := by decide)
    (hs : starEach (e :: es) X.env = (false, eval e X.env) :: starEach es X.env := by rfl) (hplain : (backTo cpos (starEach es X.env)).any (·.1) = false := by rfl) :
    PE X (.Call (.Name x p) (e :: es) [] cpos) (tCall sp [] E0 t) := by
  obtain ⟨f, fd, F, hm, hk, hb⟩ := C.ex
  exact pe_call F hr hg hm hk hb .nil pass0 ha hdb hs hplain
theorem law_start {K : PySem.W.Frag} {g : FM Empty} (hg : ∀ ns : List Int, ns.length ≤ 63 → ∃ ρ', g [.val (.list (ns.map PyData.int))] = some (.val (.bool true), ρ')) {H : Hp} {a : Addr} {ns : List Int} {E : XK} (hl : ns.length ≤ 63)
    (hS : SqL K H a (ns.map V.int)) : spF (noG K) 1 g [.ref a] H (fun v _ => v = .bl true) E := by
  obtain ⟨ρ', e⟩ := hg ns hl
  refine ⟨rfl, H, fun _ => none, [.val (.list (ns.map PyData.int))], ⟨rfl, Same.refl H, (fun b i h => by cases h), (fun i s h => ?_), (fun i v o _ h => ?_)⟩, _, _, e, fun F' H' ω' v ev re r => ?_⟩
  · cases i with
    | zero => cases h; exact ⟨_, rfl, _, rfl, .lst hS (dpa_ints ns)⟩
    | succ i => simp at h
  · cases i with
    | zero => cases h
    | succ i => simp at h
  · cases r
    rfl
end DL
set_option Elab.async false
set_option linter.all false
set_option maxRecDepth 100000
set_option maxHeartbeats 1000000
namespace DL
open PySem PySem.Spec PyProof.Rows L2
variable {G : Type} {α β : Type}
/-! ### what a mirror does, by what is wanted behind it -/
def WPm (f : M G α) (ρ : List (Sl G)) (Q : α → List (Sl G) → Prop) : Prop := ∃ a ρ', f ρ = some (a, ρ') ∧ Q a ρ'
theorem wp_mono {f : M G α} {ρ : List (Sl G)} {Q Q' : α → List (Sl G) → Prop} (h : WPm f ρ Q) (q : ∀ a ρ', Q a ρ' → Q' a ρ') : WPm f ρ Q' := let ⟨a, ρ', e, r⟩ := h; ⟨a, ρ', e, q a ρ' r⟩
theorem wp_ret {a : α} {ρ : List (Sl G)} {Q : α → List (Sl G) → Prop} : WPm (mret a) ρ Q ↔ Q a ρ := ⟨fun ⟨_, _, e, q⟩ => by cases e; exact q, fun q => ⟨a, ρ, rfl, q⟩⟩
theorem wp_bnd {f : M G α} {k : α → M G β} {ρ : List (Sl G)} {Q : β → List (Sl G) → Prop} : WPm (mbnd f k) ρ Q ↔ WPm f ρ fun a ρ' => WPm (k a) ρ' Q := by
  constructor
  · rintro ⟨b, ρ2, e, q⟩
    obtain ⟨a, ρ1, e1, e2⟩ := mbnd_some e
    exact ⟨a, ρ1, e1, b, ρ2, e2, q⟩
  · rintro ⟨a, ρ1, e1, b, ρ2, e2, q⟩
    refine ⟨b, ρ2, ?_, q⟩
    unfold mbnd
    rw [e1]
    exact e2
theorem wp_some {a : α} {ρ : List (Sl G)} {Q : α → List (Sl G) → Prop} : WPm (mlft (some a)) ρ Q ↔ Q a ρ := ⟨fun ⟨_, _, e, q⟩ => by cases e; exact q, fun q => ⟨a, ρ, rfl, q⟩⟩
theorem wp_lft {o : Option α} {ρ : List (Sl G)} {Q : α → List (Sl G) → Prop} : WPm (mlft o) ρ Q ↔ ∃ a, o = some a ∧ Q a ρ := by
  constructor
  · rintro ⟨a, ρ', e, q⟩
    unfold mlft at e
    cases o with
    | none => cases e
    | some b => cases e; exact ⟨a, rfl, q⟩
  · rintro ⟨a, rfl, q⟩
    exact ⟨a, ρ, rfl, q⟩
theorem wp_set {i : Nat} {f : M G D} {ρ : List (Sl G)} {Q : Out G → List (Sl G) → Prop} : WPm (sset i f) ρ Q ↔ WPm f ρ fun d ρ' => Q .nx (ρ'.set i (.val d)) := by
  unfold sset
  rw [wp_bnd]
  exact ⟨fun h => wp_mono h fun a ρ' ⟨_, _, e, q⟩ => by cases e; exact q, fun h => wp_mono h fun a ρ' q => ⟨_, _, rfl, q⟩⟩
theorem wp_setO {i np : Nat} {f : M G (Ow G)} {ρ : List (Sl G)} {Q : Out G → List (Sl G) → Prop} (h : np ≤ i) : WPm (ssetO np i f) ρ Q ↔ WPm f ρ fun o ρ' => Q .nx (ρ'.set i (.own o)) := by
  unfold ssetO
  rw [wp_bnd]
  simp only [h, if_true]
  exact ⟨fun h => wp_mono h fun a ρ' ⟨_, _, e, q⟩ => by cases e; exact q, fun h => wp_mono h fun a ρ' q => ⟨_, _, rfl, q⟩⟩
theorem wp_sret {f : M G D} {ρ : List (Sl G)} {Q : Out G → List (Sl G) → Prop} : WPm (sret f) ρ Q ↔ WPm f ρ fun d ρ' => Q (.rt d) ρ' := by
  unfold sret
  rw [wp_bnd]
  simp only [wp_ret]
theorem wp_sretO {f : M G (Ow G)} {ρ : List (Sl G)} {Q : Out G → List (Sl G) → Prop} : WPm (sretO f) ρ Q ↔ WPm f ρ fun d ρ' => Q (.ro d) ρ' := by
  unfold sretO
  rw [wp_bnd]
  simp only [wp_ret]
theorem wp_expr {f : M G D} {ρ : List (Sl G)} {Q : Out G → List (Sl G) → Prop} : WPm (sexpr f) ρ Q ↔ WPm f ρ fun _ ρ' => Q .nx ρ' := by
  unfold sexpr
  rw [wp_bnd]
  simp only [wp_ret]
def seqQ (g : SM G) (Q : Out G → List (Sl G) → Prop) : Out G → List (Sl G) → Prop
  | .nx, ρ => WPm g ρ Q
  | o, ρ => Q o ρ
theorem wp_seq {f g : SM G} {ρ : List (Sl G)} {Q : Out G → List (Sl G) → Prop} : WPm (sseq f g) ρ Q ↔ WPm f ρ (seqQ g Q) := by
  constructor
  · rintro ⟨o, ρ2, e, q⟩
    unfold sseq at e
    cases e1 : f ρ with
    | none => rw [e1] at e; cases e
    | some p =>
      obtain ⟨o1, ρ1⟩ := p
      rw [e1] at e
      refine ⟨o1, ρ1, e1, ?_⟩
      cases o1 with
      | nx => exact ⟨o, ρ2, e, q⟩
      | _ => cases e; exact q
  · rintro ⟨o1, ρ1, e1, q⟩
    cases o1 with
    | nx =>
      obtain ⟨o, ρ2, e, q⟩ := q
      refine ⟨o, ρ2, ?_, q⟩
      unfold sseq
      rw [e1]
      exact e
    | _ =>
      refine ⟨_, ρ1, ?_, q⟩
      unfold sseq
      rw [e1]
theorem seqQ_nx {g : SM G} {Q : Out G → List (Sl G) → Prop} {ρ : List (Sl G)} : seqQ g Q .nx ρ ↔ WPm g ρ Q := Iff.rfl
theorem seqQ_rt {g : SM G} {Q : Out G → List (Sl G) → Prop} {ρ : List (Sl G)} {d : D} : seqQ g Q (.rt d) ρ ↔ Q (.rt d) ρ := Iff.rfl
theorem seqQ_ro {g : SM G} {Q : Out G → List (Sl G) → Prop} {ρ : List (Sl G)} {d : Ow G} : seqQ g Q (.ro d) ρ ↔ Q (.ro d) ρ := Iff.rfl
theorem seqQ_bk {g : SM G} {Q : Out G → List (Sl G) → Prop} {ρ : List (Sl G)} : seqQ g Q .bk ρ ↔ Q .bk ρ := Iff.rfl
theorem seqQ_ct {g : SM G} {Q : Out G → List (Sl G) → Prop} {ρ : List (Sl G)} : seqQ g Q .ct ρ ↔ Q .ct ρ := Iff.rfl
theorem wp_sif {c : M G Bool} {f g : SM G} {ρ : List (Sl G)} {Q : Out G → List (Sl G) → Prop} : WPm (sif c f g) ρ Q ↔ WPm c ρ fun b ρ' => if b = true then WPm f ρ' Q else WPm g ρ' Q := by
  unfold sif
  rw [wp_bnd]
  exact ⟨fun h => wp_mono h fun b ρ' q => by cases b <;> exact q, fun h => wp_mono h fun b ρ' q => by cases b <;> exact q⟩
theorem wp_mif {c : M G Bool} {f g : M G α} {ρ : List (Sl G)} {Q : α → List (Sl G) → Prop} : WPm (mif c f g) ρ Q ↔ WPm c ρ fun b ρ' => if b = true then WPm f ρ' Q else WPm g ρ' Q := by
  unfold mif
  rw [wp_bnd]
  exact ⟨fun h => wp_mono h fun b ρ' q => by cases b <;> exact q, fun h => wp_mono h fun b ρ' q => by cases b <;> exact q⟩
theorem wp_mand {f g : M G Bool} {ρ : List (Sl G)} {Q : Bool → List (Sl G) → Prop} : WPm (mand f g) ρ Q ↔ WPm f ρ fun b ρ' => if b = true then WPm g ρ' Q else Q false ρ' := by
  unfold mand
  rw [wp_bnd]
  exact ⟨fun h => wp_mono h fun b ρ' q => by cases b <;> first | exact q | exact wp_ret.mp q, fun h => wp_mono h fun b ρ' q => by cases b <;> first | exact q | exact wp_ret.mpr q⟩
theorem wp_mor {f g : M G Bool} {ρ : List (Sl G)} {Q : Bool → List (Sl G) → Prop} : WPm (mor f g) ρ Q ↔ WPm f ρ fun b ρ' => if b = true then Q true ρ' else WPm g ρ' Q := by
  unfold mor
  rw [wp_bnd]
  exact ⟨fun h => wp_mono h fun b ρ' q => by cases b <;> first | exact q | exact wp_ret.mp q, fun h => wp_mono h fun b ρ' q => by cases b <;> first | exact q | exact wp_ret.mpr q⟩
theorem wp_mnot {f : M G Bool} {ρ : List (Sl G)} {Q : Bool → List (Sl G) → Prop} : WPm (mnot f) ρ Q ↔ WPm f ρ fun b ρ' => Q (!b) ρ' := by
  unfold mnot
  rw [wp_bnd]
  simp only [wp_ret]
theorem wp_mcons {f : M G D} {fs : M G (List D)} {ρ : List (Sl G)} {Q : List D → List (Sl G) → Prop} : WPm (mcons f fs) ρ Q ↔ WPm f ρ fun d ρ' => WPm fs ρ' fun ds ρ2 => Q (d :: ds) ρ2 := by
  unfold mcons
  simp only [wp_bnd, wp_ret]
theorem wp_mtest {f : M G D} {ρ : List (Sl G)} {Q : Bool → List (Sl G) → Prop} : WPm (mtest f) ρ Q ↔ WPm f ρ fun d ρ' => ∃ b, d = .bool b ∧ Q b ρ' := by
  unfold mtest
  rw [wp_bnd]
  refine ⟨fun h => wp_mono h fun d ρ' q => ?_, fun h => wp_mono h fun d ρ' ⟨b, e, q⟩ => ?_⟩
  · rw [wp_lft] at q
    obtain ⟨b, e, q⟩ := q
    cases d with
    | bool c => cases e; exact ⟨b, rfl, q⟩
    | _ => cases e
  · subst e
    exact wp_some.mpr q
theorem wp_rd {i : Nat} {ρ : List (Sl G)} {d : D} {Q : D → List (Sl G) → Prop} (h : ρ[i]? = some (.val d)) : WPm (rd i) ρ Q ↔ Q d ρ := by
  unfold WPm rd
  rw [h]
  exact ⟨fun ⟨_, _, e, q⟩ => by cases e; exact q, fun q => ⟨_, _, rfl, q⟩⟩
/-- a mirror that is a match of the slots -/
theorem wp_of {f : M G α} {ρ ρ' : List (Sl G)} {a : α} {Q : α → List (Sl G) → Prop} (h : f ρ = some (a, ρ')) : WPm f ρ Q ↔ Q a ρ' := ⟨fun ⟨_, _, e, q⟩ => by rw [h] at e; cases e; exact q, fun q => ⟨_, _, h, q⟩⟩
def lpQ (I : List (Sl G) → Prop) (Q : Out G → List (Sl G) → Prop) : Out G → List (Sl G) → Prop
  | .nx, ρ => I ρ
  | .ct, ρ => I ρ
  | .bk, ρ => Q .nx ρ
  | .rt d, ρ => Q (.rt d) ρ
  | .ro d, ρ => Q (.ro d) ρ
theorem lpQ_nx {I : List (Sl G) → Prop} {Q : Out G → List (Sl G) → Prop} {ρ : List (Sl G)} : lpQ I Q .nx ρ ↔ I ρ := Iff.rfl
theorem lpQ_ct {I : List (Sl G) → Prop} {Q : Out G → List (Sl G) → Prop} {ρ : List (Sl G)} : lpQ I Q .ct ρ ↔ I ρ := Iff.rfl
theorem lpQ_bk {I : List (Sl G) → Prop} {Q : Out G → List (Sl G) → Prop} {ρ : List (Sl G)} : lpQ I Q .bk ρ ↔ Q .nx ρ := Iff.rfl
theorem lpQ_rt {I : List (Sl G) → Prop} {Q : Out G → List (Sl G) → Prop} {ρ : List (Sl G)} {d : D} : lpQ I Q (.rt d) ρ ↔ Q (.rt d) ρ := Iff.rfl
theorem lpQ_ro {I : List (Sl G) → Prop} {Q : Out G → List (Sl G) → Prop} {ρ : List (Sl G)} {d : Ow G} : lpQ I Q (.ro d) ρ ↔ Q (.ro d) ρ := Iff.rfl
theorem wp_loop {tg : D → List (Sl G) → Option (List (Sl G))} {body : SM G} {ds : List D} {ρ : List (Sl G)} {Q : Out G → List (Sl G) → Prop} (Iv : Nat → List (Sl G) → Prop) (h0 : Iv 0 ρ)
    (hs : ∀ i d ρ, ds[i]? = some d → Iv i ρ → ∃ ρ1, tg d ρ = some ρ1 ∧ WPm body ρ1 (lpQ (Iv (i + 1)) Q)) (hd : ∀ ρ, Iv ds.length ρ → Q .nx ρ) : WPm (loopM tg body ds) ρ Q := by
  have key : ∀ (n i : Nat) (ρ : List (Sl G)), i + n = ds.length → Iv i ρ → WPm (loopM tg body (ds.drop i)) ρ Q := by
    intro n
    induction n with
    | zero =>
      intro i ρ hi h
      have e : i = ds.length := by omega
      subst e
      rw [List.drop_length]
      exact ⟨.nx, ρ, rfl, hd ρ h⟩
    | succ n ih =>
      intro i ρ hi h
      have hlt : i < ds.length := by omega
      rw [List.drop_eq_getElem_cons hlt]
      obtain ⟨ρ1, e1, o, ρ2, e2, q⟩ := hs i _ ρ (List.getElem?_eq_getElem hlt) h
      have go : ∀ r, (match o with | .nx => loopM tg body (ds.drop (i + 1)) ρ2 | .ct => loopM tg body (ds.drop (i + 1)) ρ2 | .bk => some (Out.nx, ρ2) | .rt d => some (.rt d, ρ2) | .ro d => some (.ro d, ρ2)) = r → loopM tg body (ds[i] :: ds.drop (i + 1)) ρ = r := by
        intro r hr
        unfold loopM
        rw [e1]
        dsimp only
        rw [e2]
        cases o <;> exact hr
      cases o with
      | nx =>
        obtain ⟨o3, ρ3, e3, q3⟩ := ih (i + 1) ρ2 (by omega) q
        exact ⟨o3, ρ3, go _ e3, q3⟩
      | ct =>
        obtain ⟨o3, ρ3, e3, q3⟩ := ih (i + 1) ρ2 (by omega) q
        exact ⟨o3, ρ3, go _ e3, q3⟩
      | bk => exact ⟨_, _, go _ rfl, q⟩
      | rt d => exact ⟨_, _, go _ rfl, q⟩
      | ro d => exact ⟨_, _, go _ rfl, q⟩
  have := key ds.length 0 ρ (by omega) h0
  rwa [List.drop_zero] at this
theorem wp_for {it : M G (List D)} {tg : D → List (Sl G) → Option (List (Sl G))} {body : SM G} {ρ : List (Sl G)} {Q : Out G → List (Sl G) → Prop} : WPm (sfor it tg body) ρ Q ↔ WPm it ρ fun ds ρ' => WPm (loopM tg body ds) ρ' Q := wp_bnd
theorem wp_comp {vs : List Nat} {tg : D → List (Sl G) → Option (List (Sl G))} {tt : M G Bool} {te : M G D} {ds : List D} {ρ : List (Sl G)} {Q : List D → List (Sl G) → Prop} (Iv : Nat → List D → List (Sl G) → Prop) (h0 : Iv 0 [] ρ)
    (hs : ∀ i d acc ρ, ds[i]? = some d → Iv i acc ρ → ∃ ρ1, tg d ρ = some ρ1 ∧ WPm tt ρ1 fun b ρ2 => if b = true then WPm te ρ2 fun y ρ3 => Iv (i + 1) (acc ++ [y]) (wipeR ρ3 vs) else Iv (i + 1) acc (wipeR ρ2 vs))
    (hd : ∀ ys ρ, Iv ds.length ys ρ → Q ys ρ) : WPm (compM vs tg tt te ds) ρ Q := by
  have key : ∀ (n i : Nat) (acc : List D) (ρ : List (Sl G)), i + n = ds.length → Iv i acc ρ → WPm (compM vs tg tt te (ds.drop i)) ρ fun ys ρ' => Q (acc ++ ys) ρ' := by
    intro n
    induction n with
    | zero =>
      intro i acc ρ hi h
      have e : i = ds.length := by omega
      subst e
      rw [List.drop_length]
      exact ⟨[], ρ, rfl, by dsimp only; rw [List.append_nil]; exact hd acc ρ h⟩
    | succ n ih =>
      intro i acc ρ hi h
      have hlt : i < ds.length := by omega
      rw [List.drop_eq_getElem_cons hlt]
      obtain ⟨ρ1, e1, b, ρ2, e2, q⟩ := hs i _ acc ρ (List.getElem?_eq_getElem hlt) h
      cases b with
      | true =>
        obtain ⟨y, ρ3, e3, q⟩ := (if_pos rfl).mp q
        obtain ⟨ys, ρ4, e4, q4⟩ := ih (i + 1) (acc ++ [y]) _ (by omega) q
        refine ⟨y :: ys, ρ4, ?_, by rw [List.append_assoc] at q4; exact q4⟩
        unfold compM
        rw [e1]
        dsimp only
        rw [e2]
        dsimp only
        rw [e3]
        dsimp only
        rw [e4]
      | false =>
        have q : Iv (i + 1) acc (wipeR ρ2 vs) := q
        obtain ⟨ys, ρ4, e4, q4⟩ := ih (i + 1) acc _ (by omega) q
        refine ⟨ys, ρ4, ?_, q4⟩
        unfold compM
        rw [e1]
        dsimp only
        rw [e2]
        exact e4
  have := key ds.length 0 [] ρ (by omega) h0
  rwa [List.drop_zero] at this
theorem wp_mcomp {it : M G (List D)} {vs : List Nat} {tg : D → List (Sl G) → Option (List (Sl G))} {tt : M G Bool} {te : M G D} {ρ : List (Sl G)} {Q : List D → List (Sl G) → Prop} :
    WPm (mcomp it vs tg tt te) ρ Q ↔ WPm it ρ fun ds ρ1 => okW ρ1 vs = true ∧ ds.length ≤ sizeLine ∧ WPm (compM vs tg tt te ds) (wipeR ρ1 vs) fun ys ρ2 => Q ys (restR ρ1 ρ2 vs) := by
  unfold mcomp
  rw [wp_bnd]
  refine ⟨fun h => wp_mono h fun ds ρ1 hh => ?_, fun h => wp_mono h fun ds ρ1 ⟨h1, h2, ys, ρ2, e, q⟩ => ?_⟩
  · obtain ⟨a, ρ2, e, q⟩ := hh
    dsimp only at e
    by_cases hc : okW ρ1 vs = true ∧ ds.length ≤ sizeLine
    · rw [if_pos hc] at e
      refine ⟨hc.1, hc.2, ?_⟩
      cases ec : compM vs tg tt te ds (wipeR ρ1 vs) with
      | none => simp only [ec] at e; cases e
      | some p =>
        simp only [ec] at e
        cases e
        exact ⟨_, _, ec, q⟩
    · rw [if_neg hc] at e; cases e
  · refine ⟨ys, restR ρ1 ρ2 vs, ?_, q⟩
    dsimp only
    rw [if_pos ⟨h1, h2⟩, e]
theorem wp_mlc {f : M G (List D)} {ρ : List (Sl G)} {Q : D → List (Sl G) → Prop} : WPm (mlc f) ρ Q ↔ WPm f ρ fun ds ρ' => Q (.list ds) ρ' := by
  unfold mlc
  simp only [wp_bnd, wp_ret]
theorem wp_molc {f : M G (List D)} {ρ : List (Sl G)} {Q : Ow G → List (Sl G) → Prop} : WPm (molc f) ρ Q ↔ WPm f ρ fun ds ρ' => Q (.seq ds) ρ' := by
  unfold molc
  simp only [wp_bnd, wp_ret]
/-- a call of a def whose promise is told -/
def callQ (g : FM G) (ρc : List (Sl G)) (Q : D → List (Sl G) → Prop) : Prop := ∃ d ρc', g ρc = some (.val d, ρc') ∧ Q d ρc'
def callO (g : FM G) (ρc : List (Sl G)) (Q : Ow G → List (Sl G) → Prop) : Prop := ∃ d ρc', g ρc = some (.own d, ρc') ∧ Q d ρc'
theorem wp_callV {fs : M G (List Ag)} {g : FM G} {ρ : List (Sl G)} {Q : D → List (Sl G) → Prop} : WPm (mcallV fs g) ρ Q ↔ WPm fs ρ fun as ρ1 => callQ g (gath as ρ1 0 as) fun d ρc => Q d (scat as ρc 0 ρ1) := by
  unfold WPm mcallV mcall callQ
  constructor
  · rintro ⟨d, ρ', e, q⟩
    cases e1 : fs ρ with
    | none => simp only [e1] at e; cases e
    | some p =>
      obtain ⟨as, ρ1⟩ := p
      simp only [e1] at e
      cases e2 : g (gath as ρ1 0 as) with
      | none => simp only [e2] at e; cases e
      | some p =>
        obtain ⟨r, ρc⟩ := p
        simp only [e2] at e
        cases r with
        | val d' => cases e; exact ⟨as, ρ1, rfl, d, ρc, e2, q⟩
        | own o => cases e
  · rintro ⟨as, ρ1, e1, d, ρc, e2, q⟩
    exact ⟨d, _, by simp only [e1, e2], q⟩
theorem wp_callO {fs : M G (List Ag)} {g : FM G} {ρ : List (Sl G)} {Q : Ow G → List (Sl G) → Prop} : WPm (mcallO fs g) ρ Q ↔ WPm fs ρ fun as ρ1 => callO g (gath as ρ1 0 as) fun d ρc => Q d (scat as ρc 0 ρ1) := by
  unfold WPm mcallO mcall callO
  constructor
  · rintro ⟨d, ρ', e, q⟩
    cases e1 : fs ρ with
    | none => simp only [e1] at e; cases e
    | some p =>
      obtain ⟨as, ρ1⟩ := p
      simp only [e1] at e
      cases e2 : g (gath as ρ1 0 as) with
      | none => simp only [e2] at e; cases e
      | some p =>
        obtain ⟨r, ρc⟩ := p
        simp only [e2] at e
        cases r with
        | own d' => cases e; exact ⟨as, ρ1, rfl, d, ρc, e2, q⟩
        | val o => cases e
  · rintro ⟨as, ρ1, e1, d, ρc, e2, q⟩
    exact ⟨d, _, by simp only [e1, e2], q⟩
theorem wp_macons {f : M G D} {fs : M G (List Ag)} {ρ : List (Sl G)} {Q : List Ag → List (Sl G) → Prop} : WPm (macons f fs) ρ Q ↔ WPm f ρ fun d ρ' => WPm fs ρ' fun ds ρ2 => Q (.inl d :: ds) ρ2 := by
  unfold macons
  simp only [wp_bnd, wp_ret]
theorem wp_maown {i : Nat} {fs : M G (List Ag)} {ρ : List (Sl G)} {o : Ow G} {Q : List Ag → List (Sl G) → Prop} (h : ρ[i]? = some (.own o)) : WPm (maown i fs) ρ Q ↔ WPm fs ρ fun ds ρ2 => Q (.inr i :: ds) ρ2 := by
  have e : maown i fs ρ = mbnd fs (fun as => mret (.inr i :: as)) ρ := by unfold maown; rw [h]
  constructor
  · rintro ⟨a, ρ', e1, q⟩
    rw [e] at e1
    have := (wp_bnd (Q := Q)).mp ⟨a, ρ', e1, q⟩
    simpa only [wp_ret] using this
  · intro hh
    have : WPm (mbnd fs (fun as => mret (.inr i :: as))) ρ Q := by simpa only [wp_bnd, wp_ret] using hh
    obtain ⟨a, ρ', e1, q⟩ := this
    exact ⟨a, ρ', e.trans e1, q⟩
/-- a def's end -/
def closeO (ρ : List (Sl G)) (ρ2 : List (Sl G)) : Out G → Option (Res G × List (Sl G))
  | .nx => some (.val .none, List.zipWith mrg1 ρ ρ2)
  | .rt d => some (.val d, List.zipWith mrg1 ρ ρ2)
  | .ro o => some (.own o, List.zipWith mrg1 ρ ρ2)
  | _ => none
def clQ (ρ : List (Sl G)) (r : Res G × List (Sl G)) : Out G → List (Sl G) → Prop := fun o ρ2 => closeO ρ ρ2 o = some r
theorem clQ_nx {ρ ρ2 : List (Sl G)} {r : Res G × List (Sl G)} : clQ ρ r .nx ρ2 ↔ some (.val .none, List.zipWith mrg1 ρ ρ2) = some r := Iff.rfl
theorem clQ_rt {ρ ρ2 : List (Sl G)} {r : Res G × List (Sl G)} {d : D} : clQ ρ r (.rt d) ρ2 ↔ some (.val d, List.zipWith mrg1 ρ ρ2) = some r := Iff.rfl
theorem clQ_ro {ρ ρ2 : List (Sl G)} {r : Res G × List (Sl G)} {d : Ow G} : clQ ρ r (.ro d) ρ2 ↔ some (.own d, List.zipWith mrg1 ρ ρ2) = some r := Iff.rfl
theorem close_of {N : Nat} {m : SM G} {ρ : List (Sl G)} {r : Res G × List (Sl G)} (h : WPm m (ρ ++ List.replicate (N - ρ.length) .un) (clQ ρ r)) : close N m ρ = some r := by
  obtain ⟨o, ρ2, e, q⟩ := h
  unfold close
  rw [e]
  cases o <;> exact q

section
variable {ρ : List (Sl G)} {i : Nat}
def rdQ (i : Nat) (ρ : List (Sl G)) (Q : D → List (Sl G) → Prop) : Option (Sl G) → Prop
  | some (.val d) => Q d ρ
  | some (.own (.seq ds)) => Q (.list ds) (ρ.set i (.val (.list ds)))
  | _ => False
theorem wpr {Q : D → List (Sl G) → Prop} : WPm (rd i) ρ Q ↔ rdQ i ρ Q ρ[i]? := by
  unfold WPm rd
  split
  · rename_i d h
    rw [h]
    exact ⟨fun ⟨_, _, e, q⟩ => by cases e; exact q, fun q => ⟨_, _, rfl, q⟩⟩
  · rename_i ds h
    rw [h]
    exact ⟨fun ⟨_, _, e, q⟩ => by cases e; exact q, fun q => ⟨_, _, rfl, q⟩⟩
  · rename_i h1 h2
    constructor
    · rintro ⟨_, _, e, _⟩
      cases e
    · intro q
      unfold rdQ at q
      split at q
      · rename_i d h
        exact absurd h (h1 d)
      · rename_i ds h
        exact absurd h (h2 ds)
      · exact q.elim
theorem rdQ_val {Q : D → List (Sl G) → Prop} {d : D} : rdQ i ρ Q (some (.val d)) ↔ Q d ρ := Iff.rfl
theorem rdQ_own {Q : D → List (Sl G) → Prop} {ds : List D} : rdQ i ρ Q (some (.own (.seq ds))) ↔ Q (.list ds) (ρ.set i (.val (.list ds))) := Iff.rfl
/-- the list that a slot owns -/
def owQ (q : List D → Prop) : Option (Sl G) → Prop
  | some (.own (.seq ds)) => q ds
  | _ => False
theorem owQ_own {q : List D → Prop} {ds : List D} : owQ (G := G) q (some (.own (.seq ds))) ↔ q ds := Iff.rfl
theorem owQ_iff {q : List D → Prop} {s : Option (Sl G)} : owQ q s ↔ ∃ ds, s = some (.own (.seq ds)) ∧ q ds := by
  unfold owQ
  split
  · exact ⟨fun h => ⟨_, rfl, h⟩, fun ⟨_, e, h⟩ => by cases e; exact h⟩
  · rename_i h1
    exact ⟨fun h => h.elim, fun ⟨ds, e, _⟩ => h1 ds e⟩
theorem wpr_rdO {g : List D → Option D} {Q : D → List (Sl G) → Prop} : WPm (rdO i g) ρ Q ↔ owQ (fun ds => ∃ d, g ds = some d ∧ Q d ρ) ρ[i]? := by
  rw [owQ_iff]
  constructor
  · rintro ⟨d, ρ', e, q⟩
    unfold rdO at e
    split at e
    · rename_i ds h
      refine ⟨ds, h, ?_⟩
      cases eg : g ds with
      | none => rw [eg] at e; cases e
      | some d' => rw [eg] at e; cases e; exact ⟨_, rfl, q⟩
    · cases e
  · rintro ⟨ds, h, d, eg, q⟩
    exact ⟨d, ρ, by unfold rdO; rw [h]; dsimp only; rw [eg], q⟩
theorem wpr_wrO {g : List D → Option (D × List D)} {Q : D → List (Sl G) → Prop} : WPm (wrO i g) ρ Q ↔ owQ (fun ds => ∃ d ds', g ds = some (d, ds') ∧ Q d (ρ.set i (.own (.seq ds')))) ρ[i]? := by
  rw [owQ_iff]
  constructor
  · rintro ⟨d, ρ', e, q⟩
    unfold wrO at e
    split at e
    · rename_i ds h
      refine ⟨ds, h, ?_⟩
      cases eg : g ds with
      | none => rw [eg] at e; cases e
      | some d' => rw [eg] at e; cases e; exact ⟨_, _, rfl, q⟩
    · cases e
  · rintro ⟨ds, h, d, ds', eg, q⟩
    exact ⟨d, _, by unfold wrO; rw [h]; dsimp only; rw [eg], q⟩
theorem wpr_mopO {fb : M G D} {g : List D → D → Option D} {Q : D → List (Sl G) → Prop} : WPm (mopO i fb g) ρ Q ↔ owQ (fun _ => WPm fb ρ fun y ρ1 => WPm (rdO i fun ds => g ds y) ρ1 Q) ρ[i]? := by
  rw [owQ_iff]
  constructor
  · rintro ⟨d, ρ', e, q⟩
    unfold mopO at e
    split at e
    · rename_i ds h
      exact ⟨ds, h, wp_bnd.mp ⟨d, ρ', e, q⟩⟩
    · cases e
  · rintro ⟨ds, h, q⟩
    obtain ⟨d, ρ', e, q⟩ := wp_bnd.mpr q
    exact ⟨d, ρ', by unfold mopO; rw [h]; exact e, q⟩
theorem wpr_mmut {fs : M G (List D)} {g : List D → List D → Option (D × List D)} {Q : D → List (Sl G) → Prop} : WPm (mmut i fs g) ρ Q ↔ owQ (fun _ => WPm fs ρ fun es ρ1 => WPm (wrO i fun ds => g ds es) ρ1 Q) ρ[i]? := by
  rw [owQ_iff]
  constructor
  · rintro ⟨d, ρ', e, q⟩
    unfold mmut at e
    split at e
    · rename_i ds h
      exact ⟨ds, h, wp_bnd.mp ⟨d, ρ', e, q⟩⟩
    · cases e
  · rintro ⟨ds, h, q⟩
    obtain ⟨d, ρ', e, q⟩ := wp_bnd.mpr q
    exact ⟨d, ρ', by unfold mmut; rw [h]; exact e, q⟩
theorem wpr_setI {f fi : M G D} {Q : Out G → List (Sl G) → Prop} : WPm (ssetI i f fi) ρ Q ↔ WPm f ρ fun d ρ1 => owQ (fun _ => WPm fi ρ1 fun k ρ2 => WPm (wrO i fun ds => gSetI ds k d) ρ2 fun _ ρ3 => Q .nx ρ3) ρ1[i]? := by
  unfold ssetI
  rw [wp_bnd]
  refine ⟨fun h => wp_mono h fun d ρ1 hh => ?_, fun h => wp_mono h fun d ρ1 hh => ?_⟩
  · rw [owQ_iff]
    obtain ⟨o, ρ', e, q⟩ := hh
    dsimp only at e
    split at e
    · rename_i ds h
      refine ⟨ds, h, ?_⟩
      have := wp_bnd.mp ⟨o, ρ', e, q⟩
      simpa only [wp_bnd, wp_ret] using this
    · cases e
  · rw [owQ_iff] at hh
    obtain ⟨ds, h, q⟩ := hh
    have : WPm (mbnd fi (fun k => mbnd (wrO i fun ds => gSetI ds k d) fun _ => mret .nx)) ρ1 Q := by simpa only [wp_bnd, wp_ret] using q
    obtain ⟨o, ρ', e, q⟩ := this
    exact ⟨o, ρ', by dsimp only; rw [h]; exact e, q⟩
def anQ (q : Prop) : Option (Sl G) → Prop
  | some (.own _) => q
  | _ => False
theorem anQ_own {q : Prop} {o : Ow G} : anQ q (some (.own o)) ↔ q := Iff.rfl
theorem wpr_maown {fs : M G (List Ag)} {Q : List Ag → List (Sl G) → Prop} : WPm (maown i fs) ρ Q ↔ anQ (WPm fs ρ fun ds ρ2 => Q (.inr i :: ds) ρ2) ρ[i]? := by
  cases h : ρ[i]? with
  | none =>
    refine ⟨fun ⟨_, _, e, _⟩ => ?_, fun q => q.elim⟩
    unfold maown at e
    rw [h] at e
    cases e
  | some s =>
    cases s with
    | own o => exact wp_maown h
    | un =>
      refine ⟨fun ⟨_, _, e, _⟩ => ?_, fun q => q.elim⟩
      unfold maown at e
      rw [h] at e
      cases e
    | val d =>
      refine ⟨fun ⟨_, _, e, _⟩ => ?_, fun q => q.elim⟩
      unfold maown at e
      rw [h] at e
      cases e
def auQ (i : Nat) (f : M G D) (g : D → D → Option D) (ρ : List (Sl G)) (Q : Out G → List (Sl G) → Prop) : Option (Sl G) → Prop
  | some (.val x) => WPm f ρ fun y ρ1 => WPm (mlft (g x y)) ρ1 fun d ρ2 => Q .nx (ρ2.set i (.val d))
  | _ => False
theorem auQ_val {f : M G D} {g : D → D → Option D} {Q : Out G → List (Sl G) → Prop} {x : D} : auQ i f g ρ Q (some (.val x)) ↔ WPm f ρ fun y ρ1 => WPm (mlft (g x y)) ρ1 fun d ρ2 => Q .nx (ρ2.set i (.val d)) := Iff.rfl
theorem wpr_aug {f : M G D} {g : D → D → Option D} {Q : Out G → List (Sl G) → Prop} : WPm (saug i f g) ρ Q ↔ auQ i f g ρ Q ρ[i]? := by
  have key : ∀ x, ρ[i]? = some (.val x) → (WPm (saug i f g) ρ Q ↔ WPm f ρ fun y ρ1 => WPm (mlft (g x y)) ρ1 fun d ρ2 => Q .nx (ρ2.set i (.val d))) := by
    intro x h
    have e0 : saug i f g ρ = mbnd f (fun y => mbnd (mlft (g x y)) fun d => fun ρ => some (.nx, ρ.set i (.val d))) ρ := by unfold saug; rw [h]
    constructor
    · rintro ⟨o, ρ', e, q⟩
      rw [e0] at e
      refine wp_mono (wp_bnd.mp ⟨o, ρ', e, q⟩) fun y ρ1 h1 => wp_mono (wp_bnd.mp h1) fun d ρ2 ⟨_, _, e, q⟩ => ?_
      cases e
      exact q
    · intro h1
      obtain ⟨o, ρ', e, q⟩ := wp_bnd.mpr (wp_mono h1 fun y ρ1 h2 => wp_bnd.mpr (wp_mono h2 fun d ρ2 q => (⟨.nx, _, rfl, q⟩ : WPm (fun ρ => some (.nx, ρ.set i (.val d))) ρ2 Q)))
      exact ⟨o, ρ', e0.trans e, q⟩
  cases h : ρ[i]? with
  | none =>
    refine ⟨fun ⟨_, _, e, _⟩ => ?_, fun q => q.elim⟩
    unfold saug at e
    rw [h] at e
    cases e
  | some s =>
    cases s with
    | val x => exact key x h
    | un =>
      refine ⟨fun ⟨_, _, e, _⟩ => ?_, fun q => q.elim⟩
      unfold saug at e
      rw [h] at e
      cases e
    | own o =>
      refine ⟨fun ⟨_, _, e, _⟩ => ?_, fun q => q.elim⟩
      unfold saug at e
      rw [h] at e
      cases e
theorem wp_nx {Q : Out G → List (Sl G) → Prop} : WPm snx ρ Q ↔ Q .nx ρ := wp_ret
theorem wp_bk {Q : Out G → List (Sl G) → Prop} : WPm sbk ρ Q ↔ Q .bk ρ := wp_ret
theorem wp_ct {Q : Out G → List (Sl G) → Prop} : WPm sct ρ Q ↔ Q .ct ρ := wp_ret
theorem wp_asg {f : M G D} {tg : D → List (Sl G) → Option (List (Sl G))} {Q : Out G → List (Sl G) → Prop} : WPm (sasg f tg) ρ Q ↔ WPm f ρ fun d ρ1 => ∃ ρ2, tg d ρ1 = some ρ2 ∧ Q .nx ρ2 := by
  unfold sasg
  rw [wp_bnd]
  refine ⟨fun h => wp_mono h fun d ρ1 hh => ?_, fun h => wp_mono h fun d ρ1 ⟨ρ2, e, q⟩ => ?_⟩
  · obtain ⟨o, ρ', e, q⟩ := hh
    cases et : tg d ρ1 with
    | none => simp only [et] at e; cases e
    | some ρ2 => simp only [et] at e; cases e; exact ⟨_, rfl, q⟩
  · exact ⟨.nx, ρ2, by simp only [e], q⟩
end

section
variable {x0 x1 x2 x3 x4 x5 : α} {r : List α}
theorem at_lt {xs : List α} {k : Nat} {x : α} (h : xs[k]? = some x) : atI xs (k : Int) = some x := atI_nat h
theorem at0 : atI (x0 :: r) 0 = some x0 := atI_nat (j := 0) rfl
theorem at1 : atI (x0 :: x1 :: r) 1 = some x1 := atI_nat (j := 1) rfl
theorem at2 : atI (x0 :: x1 :: x2 :: r) 2 = some x2 := atI_nat (j := 2) rfl
theorem at3 : atI (x0 :: x1 :: x2 :: x3 :: r) 3 = some x3 := atI_nat (j := 3) rfl
theorem at4 : atI (x0 :: x1 :: x2 :: x3 :: x4 :: r) 4 = some x4 := atI_nat (j := 4) rfl
theorem at5 : atI (x0 :: x1 :: x2 :: x3 :: x4 :: x5 :: r) 5 = some x5 := atI_nat (j := 5) rfl
/-- an open place within bounds -/
theorem at_open {xs : List α} {t : Int} (h0 : 0 ≤ t) (h1 : t < xs.length) : ∃ x, x ∈ xs ∧ atI xs t = some x := by
  have hl : t.toNat < xs.length := by omega
  refine ⟨xs[t.toNat], List.getElem_mem hl, ?_⟩
  have := at_lt (xs := xs) (k := t.toNat) (List.getElem?_eq_getElem hl)
  rwa [show ((t.toNat : Nat) : Int) = t by omega] at this
end

/-! ### operations, read off -/
section
variable {ρ : List (Sl G)} {Q : D → List (Sl G) → Prop} {fs : M G (List D)} {f : M G D}
theorem wp_tup : WPm (mtup fs) ρ Q ↔ WPm fs ρ fun ds ρ' => ds.length ≤ sizeLine ∧ Q (.tuple ds) ρ' := by
  unfold mtup
  rw [wp_bnd]
  refine ⟨fun h => wp_mono h fun d ρ1 hh => ?_, fun h => wp_mono h fun d ρ1 ⟨h1, h2⟩ => ?_⟩
  · rw [wp_lft] at hh
    obtain ⟨a, e, q⟩ := hh
    split at e
    · cases e; exact ⟨by assumption, q⟩
    · cases e
  · rw [if_pos h1]; exact wp_some.mpr h2
theorem wp_lst : WPm (mlst fs) ρ Q ↔ WPm fs ρ fun ds ρ' => ds.length ≤ sizeLine ∧ Q (.list ds) ρ' := by
  unfold mlst
  rw [wp_bnd]
  refine ⟨fun h => wp_mono h fun d ρ1 hh => ?_, fun h => wp_mono h fun d ρ1 ⟨h1, h2⟩ => ?_⟩
  · rw [wp_lft] at hh
    obtain ⟨a, e, q⟩ := hh
    split at e
    · cases e; exact ⟨by assumption, q⟩
    · cases e
  · rw [if_pos h1]; exact wp_some.mpr h2
theorem wp_olst {Q : Ow G → List (Sl G) → Prop} : WPm (molst fs) ρ Q ↔ WPm fs ρ fun ds ρ' => ds.length ≤ sizeLine ∧ Q (.seq ds) ρ' := by
  unfold molst
  rw [wp_bnd]
  refine ⟨fun h => wp_mono h fun d ρ1 hh => ?_, fun h => wp_mono h fun d ρ1 ⟨h1, h2⟩ => ?_⟩
  · rw [wp_lft] at hh
    obtain ⟨a, e, q⟩ := hh
    split at e
    · cases e; exact ⟨by assumption, q⟩
    · cases e
  · rw [if_pos h1]; exact wp_some.mpr h2
theorem wp_list {Q : List D → List (Sl G) → Prop} : WPm (mlist f) ρ Q ↔ WPm f ρ fun d ρ' => ∃ ds, d = .list ds ∧ Q ds ρ' := by
  unfold mlist
  rw [wp_bnd]
  refine ⟨fun h => wp_mono h fun d ρ1 hh => ?_, fun h => wp_mono h fun d ρ1 ⟨ds, e, q⟩ => ?_⟩
  · rw [wp_lft] at hh
    obtain ⟨a, e, q⟩ := hh
    cases d with
    | list ds => cases e; exact ⟨_, rfl, q⟩
    | _ => cases e
  · subst e; exact wp_some.mpr q
theorem wp_tuple {Q : List D → List (Sl G) → Prop} : WPm (mtuple f) ρ Q ↔ WPm f ρ fun d ρ' => ∃ ds, d = .tuple ds ∧ Q ds ρ' := by
  unfold mtuple
  rw [wp_bnd]
  refine ⟨fun h => wp_mono h fun d ρ1 hh => ?_, fun h => wp_mono h fun d ρ1 ⟨ds, e, q⟩ => ?_⟩
  · rw [wp_lft] at hh
    obtain ⟨a, e, q⟩ := hh
    cases d with
    | tuple ds => cases e; exact ⟨_, rfl, q⟩
    | _ => cases e
  · subst e; exact wp_some.mpr q
theorem wp_range1 {Q : List D → List (Sl G) → Prop} : WPm (mrange1 fs) ρ Q ↔ WPm fs ρ fun ds ρ' => ∃ j, ds = [.int j] ∧ (-(2 ^ 62) ≤ j ∧ j < 2 ^ 62) ∧ Q (rngD 0 j.toNat) ρ' := by
  unfold mrange1
  rw [wp_bnd]
  refine ⟨fun h => wp_mono h fun d ρ1 hh => ?_, fun h => wp_mono h fun d ρ1 ⟨j, e, h1, q⟩ => ?_⟩
  · rw [wp_lft] at hh
    obtain ⟨a, e, q⟩ := hh
    split at e
    · split at e
      · cases e; exact ⟨_, rfl, by assumption, q⟩
      · cases e
    · cases e
  · subst e; dsimp only; rw [if_pos h1]; exact wp_some.mpr q
theorem wp_range2 {Q : List D → List (Sl G) → Prop} : WPm (mrange2 fs) ρ Q ↔ WPm fs ρ fun ds ρ' => ∃ i j, ds = [.int i, .int j] ∧ (-(2 ^ 62) ≤ i ∧ i < 2 ^ 62 ∧ -(2 ^ 62) ≤ j ∧ j < 2 ^ 62) ∧ Q (rngD i (j - i).toNat) ρ' := by
  unfold mrange2
  rw [wp_bnd]
  refine ⟨fun h => wp_mono h fun d ρ1 hh => ?_, fun h => wp_mono h fun d ρ1 ⟨i, j, e, h1, q⟩ => ?_⟩
  · rw [wp_lft] at hh
    obtain ⟨a, e, q⟩ := hh
    split at e
    · split at e
      · cases e; exact ⟨_, _, rfl, by assumption, q⟩
      · cases e
    · cases e
  · subst e; dsimp only; rw [if_pos h1]; exact wp_some.mpr q
theorem wp_part {Q : Option Int → List (Sl G) → Prop} : WPm (mpart f) ρ Q ↔ WPm f ρ fun d ρ' => ∃ i, d = .int i ∧ Q (some i) ρ' := by
  unfold mpart
  rw [wp_bnd]
  refine ⟨fun h => wp_mono h fun d ρ1 hh => ?_, fun h => wp_mono h fun d ρ1 ⟨j, e, q⟩ => ?_⟩
  · rw [wp_lft] at hh
    obtain ⟨a, e, q⟩ := hh
    cases d with
    | int i => cases e; exact ⟨_, rfl, q⟩
    | _ => cases e
  · subst e; exact wp_some.mpr q
theorem wp_slice {fl fh : M G (Option Int)} {g : D → Option Int → Option Int → Option D} : WPm (mslice f fl fh g) ρ Q ↔ WPm f ρ fun x ρ1 => WPm fl ρ1 fun lo ρ2 => WPm fh ρ2 fun hi ρ3 => WPm (mlft (g x lo hi)) ρ3 Q := by
  unfold mslice
  simp only [wp_bnd]
theorem wp_tru {Q : Bool → List (Sl G) → Prop} : WPm (mtru f) ρ Q ↔ WPm f ρ fun x ρ1 => WPm (mlft (dtru x)) ρ1 Q := by
  unfold mtru
  rw [wp_bnd]
theorem wp_andV {g : M G D} : WPm (mandV f g) ρ Q ↔ WPm f ρ fun d ρ' => ∃ b, d = .bool b ∧ if b = true then WPm g ρ' Q else Q (.bool false) ρ' := by
  unfold mandV
  rw [wp_bnd]
  refine ⟨fun h => wp_mono h fun d ρ1 hh => ?_, fun h => wp_mono h fun d ρ1 ⟨b, e, q⟩ => ?_⟩
  · cases d with
    | bool b =>
      refine ⟨b, rfl, ?_⟩
      cases b with
      | true => exact hh
      | false => exact wp_ret.mp hh
    | _ => obtain ⟨_, _, e, _⟩ := hh; cases e
  · subst e
    cases b with
    | true => exact q
    | false => exact wp_ret.mpr q
theorem wp_orV {g : M G D} : WPm (morV f g) ρ Q ↔ WPm f ρ fun d ρ' => ∃ b, d = .bool b ∧ if b = true then Q (.bool true) ρ' else WPm g ρ' Q := by
  unfold morV
  rw [wp_bnd]
  refine ⟨fun h => wp_mono h fun d ρ1 hh => ?_, fun h => wp_mono h fun d ρ1 ⟨b, e, q⟩ => ?_⟩
  · cases d with
    | bool b =>
      refine ⟨b, rfl, ?_⟩
      cases b with
      | false => exact hh
      | true => exact wp_ret.mp hh
    | _ => obtain ⟨_, _, e, _⟩ := hh; cases e
  · subst e
    cases b with
    | false => exact q
    | true => exact wp_ret.mpr q
theorem wp_notV : WPm (mnotV f) ρ Q ↔ WPm f ρ fun d ρ' => ∃ b, d = .bool b ∧ Q (.bool !b) ρ' := by
  unfold mnotV
  rw [wp_bnd]
  refine ⟨fun h => wp_mono h fun d ρ1 hh => ?_, fun h => wp_mono h fun d ρ1 ⟨b, e, q⟩ => ?_⟩
  · cases d with
    | bool b => exact ⟨b, rfl, wp_ret.mp hh⟩
    | _ => obtain ⟨_, _, e, _⟩ := hh; cases e
  · subst e
    exact wp_ret.mpr q
end
section
variable {i j : Int} {ds es : List D}
theorem q_I0 {g : Int → Int → D} : gI0 g (.int i) (.int j) = some (g i j) := rfl
theorem q_I {c : Int → Int → Bool} {g : Int → Int → D} : gI c g (.int i) (.int j) = if c i j = true then some (g i j) else none := rfl
theorem q_ixL : gIxL (.list ds) (.int i) = atI ds i := rfl
theorem q_ixT : gIxT (.tuple ds) (.int i) = atI ds i := rfl
theorem q_ixO : gIxO ds (.int i) = atI ds i := rfl
theorem q_lenL : gLen [.list ds] = some (.int ds.length) := rfl
theorem q_lenT : gLen [.tuple ds] = some (.int ds.length) := rfl
theorem q_lenO : gLenO ds = some (.int ds.length) := rfl
theorem q_sum {ns : List Int} : gSum [.list (ns.map PyData.int)] = some (.int ns.sum) := by
  show (intsOf (ns.map PyData.int)).map _ = _
  rw [intsOf_map]
  rfl
theorem q_listL : gList [.list ds] = some (.list ds) := rfl
theorem q_listT : gList [.tuple ds] = some (.list ds) := rfl
theorem q_abs : gAbs [.int i] = some (.int (if i < 0 then -i else i)) := rfl
theorem q_max2 : gMax2 [.int i, .int j] = some (.int (if j > i then j else i)) := rfl
theorem q_min2 : gMin2 [.int i, .int j] = some (.int (if j < i then j else i)) := rfl
theorem q_slL {lo hi : Option Int} : gSlL (.list ds) lo hi = some (.list (DL.cutD ds lo hi)) := rfl
theorem q_neg : gNeg (.int i) = some (.int (-i)) := rfl
theorem q_eqD {x y : D} (hx : SeqAt.shaped x = true) (hy : SeqAt.shaped y = true) : gEqD x y = some (.bool (PyData.eqv x y)) := if_pos ⟨hx, hy⟩
theorem q_neD {x y : D} (hx : SeqAt.shaped x = true) (hy : SeqAt.shaped y = true) : gNeD x y = some (.bool (!PyData.eqv x y)) := if_pos ⟨hx, hy⟩
theorem q_append {y : D} : gAppend ds [y] = if ds.length < sizeLine then some (.none, ds ++ [y]) else none := rfl
theorem q_setI {d : D} : gSetI ds (.int i) d = (ixN ds.length i).map fun j => (.none, ds.set j d) := rfl
theorem q_cMul : cMul i j = decide ((-(2 ^ 64) < i ∧ i < 2 ^ 64) ∨ (-(2 ^ 64) < j ∧ j < 2 ^ 64)) := rfl
theorem q_cDiv : cDiv i j = decide (0 < j ∧ j < 1073741824) := rfl
theorem q_cPos : cPos i j = decide (0 < j) := rfl
theorem q_cPow : cPow i j = decide (0 ≤ j ∧ j ≤ 1000000 ∧ i.natAbs < 2 ^ 64) := rfl
theorem ix0 {n : Nat} : ixN (n + 1) 0 = some 0 := by unfold ixN; rw [if_pos (Int.le_refl 0), if_pos (by omega)]; rfl
theorem ix1 {n : Nat} : ixN (n + 2) 1 = some 1 := by unfold ixN; rw [if_pos (by omega), if_pos (by omega)]; rfl
end
end DL
set_option Elab.async false
set_option linter.all false
set_option maxRecDepth 100000
set_option maxHeartbeats 1000000
namespace K12
open PySem PySem.Spec PyProof.Rows L2 DL
def topS (i : Nat) : Stmt := PySem.Challenge.pw_rungstock_k12_windows_of_asks.main.body.getD i (.Pass ⟨0, 0, 0, 0⟩)
variable {P : Program} {w : World} {K : PySem.W.Frag} {mg : Str → Option Value} {base : Heap}
/-! ### bags -/
def lehmer (b : Int) : Int := b * 48271 % 2147483647
def takeV (a b m : Int) : Int := if 0 < a then a % m else lehmer b * lehmer b % 2147483629 / 64 % m
def takeA (a m : Int) : Int := if 0 < a then a / m else a
def takeB (a b : Int) : Int := if 0 < a then b else lehmer b
def g__law_take : FM Empty := fun ρ => match ρ with
  | [.own (.seq [.int a, .int b]), .val (.int m)] => if 0 < m ∧ m < 1073741824 then some (.val (.int (takeV a b m)), [.own (.seq [.int (takeA a m), .int (takeB a b)]), .val (.int m)]) else none
  | _ => none
abbrev s__law_take : Stmt := topS 4
abbrev N__law_take : List Str := ["bag", "many", "found"]
theorem sc__law_take : FnScope N__law_take ["bag", "many"] (defScope s__law_take) := ⟨rfl, rfl, rfl, by decide +kernel, rfl, by decide +kernel, by decide +kernel⟩

theorem ok__law_take {f : Addr} {fd : FuncData} (F : Fun K "_law_take" "_law_take" s__law_take f fd)   : FnOk P w K mg base CX0 1 f fd ["bag", "many"] (spF (noG K) 2 g__law_take) := by
  refine F.ok sc__law_take (spF_len (noG K) rfl) (fun cdv A outer s H vs Q E hr h => ?_)
  have hl : vs.length = 2 := h.1
  refine ⟨tS (noG K) vs _, (dss_cons (ds_if (dt_op (pt_cmpR op_gt (dv_opO (pe_ix ix_list (pv 0) dv_int (fun _ _ => rfl)) d_ixO) dv_int (nomark _)) d_gt)
    (dss_cons (ds_set (ps_set (i := 2) sc__law_take.nd rfl (.inl rfl) (dv_op (pe_op op_mod (dv_opO (pe_ix ix_list (pv 0) dv_int (fun _ _ => rfl)) d_ixO) (dv_var (pv 1))) d_mod)))
  (dss_cons (ds_setI (ps_asg (dv_op (pe_op op_fdiv (dv_opO (pe_ix ix_list (pv 0) dv_int (fun _ _ => rfl)) d_ixO) (dv_var (pv 1))) d_div) (pg_sub (pv 0) dv_int set_list)))
  (dss_one (ds_ret (ps_ret (dv_var (pv 2)))))))
    dss_nil)
  (dss_cons (ds_setI (ps_asg (dv_op (pe_op op_mod (dv_op (pe_op op_mul (dv_opO (pe_ix ix_list (pv 0) dv_int (fun _ _ => rfl)) d_ixO) dv_int) d_mul) dv_int) d_mod) (pg_sub (pv 0) dv_int set_list)))
  (dss_one (ds_ret (ps_ret (dv_op (pe_op op_mod (dv_op (pe_op op_fdiv (dv_op (pe_op op_mod (dv_op (pe_op op_mul (dv_opO (pe_ix ix_list (pv 0) dv_int (fun _ _ => rfl)) d_ixO) (dv_opO (pe_ix ix_list (pv 0) dv_int (fun _ _ => rfl)) d_ixO)) d_mul) dv_int) d_mod) dv_int) d_div) (dv_var (pv 1))) d_mod)))))), body_ok h (by decide) (fun ρ r hρ hg => ?_)⟩
  unfold g__law_take at hg
  split at hg
  · rename_i a b m
    split at hg
    · rename_i hm
      cases hg
      have hb : -18446744073709551616 < b * 48271 % 2147483647 ∧ b * 48271 % 2147483647 < 18446744073709551616 := by omega
      by_cases ha : 0 < a
      · simp [close, sseq, sif, sset, sret, sretO, ssetI, snx, mbnd, mret, mlft, rd, rdO, wrO, mtest, mopO, molst, mcons, gI0, gI, gIxO, gIxL, gSetI, atI, ixN, gLen, gAbs, cDiv, cPos, cMul, cPow, mrg1, sizeLine_eq, ha, hm, takeA, takeB, takeV, lehmer]
      · simp [close, sseq, sif, sset, sret, sretO, ssetI, snx, mbnd, mret, mlft, rd, rdO, wrO, mtest, mopO, molst, mcons, gI0, gI, gIxO, gIxL, gSetI, atI, ixN, gLen, gAbs, cDiv, cPos, cMul, cPow, mrg1, sizeLine_eq, ha, hm, hb, takeA, takeB, takeV, lehmer]
    · cases hg
  · cases hg

/-- the bag that a script's cell makes -/
def cellOf (ns : List Int) (k : Nat) : Int := match ns[k]? with | some n => if n < 0 then -n else n | none => 0
def bagA (c : Int) : Int := if c < 1000000000000000000 then 0 else c
def bagB (c : Int) (k : Nat) : Int := if c < 1000000000000000000 then 1 + (c * 7919 + 104729 * (k : Int)) % 2147483646 else 1 + (c + (k : Int)) % 2147483646
def g__law_bag : FM Empty := fun ρ => match ρ with
  | [.val (.list ds), .val (.int k)] => match intsOf ds, k with
    | some ns, .ofNat k => if k < 1000 ∧ ns.length < 1000 then some (.own (.seq [.int (bagA (cellOf ns k)), .int (bagB (cellOf ns k) k)]), [.val (.list ds), .val (.int k)]) else none
    | _, _ => none
  | _ => none
abbrev s__law_bag : Stmt := topS 3
abbrev N__law_bag : List Str := ["script", "k", "cell"]
theorem sc__law_bag : FnScope N__law_bag ["script", "k"] (defScope s__law_bag) := ⟨rfl, rfl, rfl, by decide +kernel, rfl, by decide +kernel, by decide +kernel⟩

theorem ok__law_bag {f : Addr} {fd : FuncData} (F : Fun K "_law_bag" "_law_bag" s__law_bag f fd)  (m_abs : mg "abs" = none) (m_len : mg "len" = none) : FnOk P w K mg base CX0 1 f fd ["script", "k"] (spF (noG K) 2 g__law_bag) := by
  refine F.ok sc__law_bag (spF_len (noG K) rfl) (fun cdv A outer s H vs Q E hr h => ?_)
  have hl : vs.length = 2 := h.1
  refine ⟨tS (noG K) vs _, (dss_cons (ds_set (ps_set (i := 2) sc__law_bag.nd rfl (.inl rfl) dv_int))
  (dss_cons (ds_if (dt_op (pt_cmpR op_lt (dv_var (pv 1)) (dv_call (pe_callB call_len (by rfl) m_len PySem.boot_len (da_cons (dv_var (pv 0)) da_nil)) d_len) (nomark _)) d_lt)
    (dss_one (ds_set (ps_set (i := 2) sc__law_bag.nd rfl (.inl rfl) (dv_call (pe_callB call_abs (by rfl) m_abs PyProof.Rows.boot_abs (da_cons (dv_op (pe_ix ix_list (dv_var (pv 0)) (dv_var (pv 1)) (fun _ _ => rfl)) d_ixL) da_nil)) d_abs))))
    dss_nil)
  (dss_cons (ds_if (dt_op (pt_cmpR op_lt (dv_var (pv 2)) (dv_op (pe_op op_pow dv_int dv_int) d_pow) (nomark _)) d_lt)
    (dss_one (ds_retO (ps_ret (do_lst (pe_lst (da_cons dv_int (da_cons (dv_op (pe_op op_add dv_int (dv_op (pe_op op_mod (dv_op (pe_op op_add (dv_op (pe_op op_mul (dv_var (pv 2)) dv_int) d_mul) (dv_op (pe_op op_mul dv_int (dv_var (pv 1))) d_mul)) d_add) dv_int) d_mod)) d_add) da_nil)))))))
    dss_nil)
  (dss_one (ds_retO (ps_ret (do_lst (pe_lst (da_cons (dv_var (pv 2)) (da_cons (dv_op (pe_op op_add dv_int (dv_op (pe_op op_mod (dv_op (pe_op op_add (dv_var (pv 2)) (dv_var (pv 1))) d_add) dv_int) d_mod)) d_add) da_nil)))))))))), body_ok h (by decide) (fun ρ r hρ hg => ?_)⟩
  unfold g__law_bag at hg
  split at hg
  · rename_i ds k
    split at hg
    · rename_i ns k hi
      have := intsOf_eq hi
      subst this
      split at hg
      · rename_i hk
        cases hg
        by_cases hkl : k < ns.length
        · have hkl2 : (k : Int) < (ns.length : Int) := by omega
          by_cases hn : ns[k] < 0
          · by_cases hc : -ns[k] < 1000000000000000000
            · simp [close, sseq, sif, sset, sret, sretO, ssetI, snx, mbnd, mret, mlft, rd, rdO, wrO, mtest, mopO, molst, mcons, gI0, gI, gIxO, gIxL, gSetI, atI, ixN, gLen, gAbs, cDiv, cPos, cMul, cPow, mrg1, sizeLine_eq, hkl, hkl2, hn, hc, cellOf, bagA, bagB]
            · simp [close, sseq, sif, sset, sret, sretO, ssetI, snx, mbnd, mret, mlft, rd, rdO, wrO, mtest, mopO, molst, mcons, gI0, gI, gIxO, gIxL, gSetI, atI, ixN, gLen, gAbs, cDiv, cPos, cMul, cPow, mrg1, sizeLine_eq, hkl, hkl2, hn, hc, cellOf, bagA, bagB]
          · by_cases hc : ns[k] < 1000000000000000000
            · simp [close, sseq, sif, sset, sret, sretO, ssetI, snx, mbnd, mret, mlft, rd, rdO, wrO, mtest, mopO, molst, mcons, gI0, gI, gIxO, gIxL, gSetI, atI, ixN, gLen, gAbs, cDiv, cPos, cMul, cPow, mrg1, sizeLine_eq, hkl, hkl2, hn, hc, cellOf, bagA, bagB]
            · simp [close, sseq, sif, sset, sret, sretO, ssetI, snx, mbnd, mret, mlft, rd, rdO, wrO, mtest, mopO, molst, mcons, gI0, gI, gIxO, gIxL, gSetI, atI, ixN, gLen, gAbs, cDiv, cPos, cMul, cPow, mrg1, sizeLine_eq, hkl, hkl2, hn, hc, cellOf, bagA, bagB]
        · have hkl2 : ¬ (k : Int) < (ns.length : Int) := by omega
          have hkl3 : ns.length ≤ k := by omega
          simp [close, sseq, sif, sset, sret, sretO, ssetI, snx, mbnd, mret, mlft, rd, rdO, wrO, mtest, mopO, molst, mcons, gI0, gI, gIxO, gIxL, gSetI, atI, ixN, gLen, gAbs, cDiv, cPos, cMul, cPow, mrg1, sizeLine_eq, hkl, hkl2, hkl3, cellOf, bagA, bagB]
      · cases hg
    · cases hg
  · cases hg

def cutI (ns : List Int) (lo hi : Option Int) : List Int := (ns.drop (HT.sIx ns.length 0 lo)).take (HT.sIx ns.length ns.length hi - HT.sIx ns.length 0 lo)
theorem cut_ints (ns : List Int) (lo hi : Option Int) : DL.cutD (ns.map PyData.int) lo hi = (cutI ns lo hi).map PyData.int := by
  unfold DL.cutD cutI
  rw [List.length_map, List.map_take, List.map_drop]
def loOf (delay : Int) (day : Nat) : Int := if (day : Int) - delay + 1 > 0 then (day : Int) - delay + 1 else 0
def winSum (ns : List Int) (delay : Int) (day : Nat) : Int := (cutI ns (some (loOf delay day)) (some ((day : Int) + 1))).sum
def winStep (ns : List Int) (delay : Int) (p : Int × Int) (day : Nat) : Int × Int := if p.1 < winSum ns delay day then (winSum ns delay day, (day : Int)) else p
def winF (ns : List Int) (delay : Int) : Nat → Int × Int
  | 0 => (0, 0)
  | n + 1 => winStep ns delay (winF ns delay n) n
def g_window : FM Empty := fun ρ => match ρ with
  | [.val (.list ds), .val (.int delay)] => match intsOf ds with
    | some ns => if ns.length < 1000 then some (.val (.tuple [.int (winF ns delay ns.length).1, .int (winF ns delay ns.length).2]), [.val (.list ds), .val (.int delay)]) else none
    | none => none
  | _ => none
theorem rng_get {lo : Int} {n i : Nat} {d : D} (h : (rngD lo n)[i]? = some d) : i < n ∧ d = .int (lo + (i : Int)) := by
  unfold rngD at h
  rw [List.getElem?_map] at h
  by_cases hi : i < n
  · rw [List.getElem?_range hi] at h
    cases h
    exact ⟨hi, rfl⟩
  · rw [List.getElem?_eq_none (by rw [List.length_range]; omega)] at h
    cases h
theorem rng_len (lo : Int) (n : Nat) : (rngD lo n).length = n := by unfold rngD; rw [List.length_map, List.length_range]
abbrev s_window : Stmt := topS 1
abbrev N_window : List Str := ["asks", "delay", "found", "day", "many"]
theorem sc_window : FnScope N_window ["asks", "delay"] (defScope s_window) := ⟨rfl, rfl, rfl, by decide +kernel, rfl, by decide +kernel, by decide +kernel⟩

theorem ok_window {f : Addr} {fd : FuncData} (F : Fun K "window" "window" s_window f fd)  (m_len : mg "len" = none) (m_max : mg "max" = none) (m_range : mg "range" = none) (m_sum : mg "sum" = none) : FnOk P w K mg base CX0 1 f fd ["asks", "delay"] (spF (noG K) 2 g_window) := by
  refine F.ok sc_window (spF_len (noG K) rfl) (fun cdv A outer s H vs Q E hr h => ?_)
  have hl : vs.length = 2 := h.1
  refine ⟨tS (noG K) vs _, (dss_cons (ds_set (ps_set (i := 2) sc_window.nd rfl (.inl rfl) (dv_tup (pe_tup (da_cons dv_int (da_cons dv_int da_nil))))))
  (dss_cons (ds_for (ps_for PassesOwn.never rfl (di_range1 (pi_range1 rfl m_range (da_cons (dv_call (pe_callB call_len (by rfl) m_len PySem.boot_len (da_cons (dv_var (pv 0)) da_nil)) d_len) da_nil))) (pg_name (i := 3) sc_window.nd rfl (.inl rfl))
    (dss_cons (ds_set (ps_set (i := 4) sc_window.nd rfl (.inl rfl) (dv_call (pe_callB (cr_sum rfl) (by rfl) m_sum PyProof.Rows.boot_sum (da_cons (dv_slice (pe_slice sl_list (dv_var (pv 0)) (dpo_some (dv_call (pe_callB (call_max2 rfl) (by rfl) m_max PyProof.Rows.boot_max (da_cons dv_int (da_cons (dv_op (pe_op op_add (dv_op (pe_op op_sub (dv_var (pv 3)) (dv_var (pv 1))) d_sub) dv_int) d_add) da_nil))) d_max2)) (dpo_some (dv_op (pe_op op_add (dv_var (pv 3)) dv_int) d_add))) d_slL) da_nil)) d_sum)))
  (dss_one (ds_if (dt_op (pt_cmpR op_gt (dv_var (pv 4)) (dv_op (pe_ix ix_tup (dv_var (pv 2)) dv_int (fun _ _ => rfl)) d_ixT) (nomark _)) d_gt)
    (dss_one (ds_set (ps_set (i := 2) sc_window.nd rfl (.inl rfl) (dv_tup (pe_tup (da_cons (dv_var (pv 4)) (da_cons (dv_var (pv 3)) da_nil)))))))
    dss_nil)))) (dg_name 3))
  (dss_one (ds_ret (ps_ret (dv_var (pv 2))))))), body_ok h (by decide) (fun ρ r hρ hg => ?_)⟩
  unfold g_window at hg
  split at hg
  · rename_i ds delay
    split at hg
    · rename_i ns hi
      have := intsOf_eq hi
      subst this
      split at hg
      · rename_i hk
        cases hg
        refine close_of ?_
        have hb : (ns.length : Int) < 4611686018427387904 := by omega
        simp [wp_seq, wp_set, wp_sret, wp_sretO, wp_expr, wp_for, wp_sif, wp_mif, wp_mand, wp_mor, wp_mnot, wp_mtest, wp_bnd, wp_ret, wp_some, wp_mcons, wp_nx, wp_bk, wp_ct, wp_asg, wp_mlc, wp_molc, wp_mcomp, wp_callV, wp_callO, wp_macons, wpr_maown, anQ_own, wpr_aug, auQ_val, wpr, rdQ_val, rdQ_own, wpr_rdO, wpr_wrO, wpr_mopO, wpr_mmut, wpr_setI, owQ_own, wp_setO, wp_tup, wp_lst, wp_olst, wp_list, wp_tuple, wp_range1, wp_range2, wp_part, wp_slice, wp_tru, wp_andV, wp_orV, wp_notV, seqQ_nx, seqQ_rt, seqQ_ro, seqQ_bk, seqQ_ct, gath, scat, scat1, pos, ownAt, clQ_nx, clQ_rt, clQ_ro, lpQ_nx, lpQ_ct, lpQ_bk, lpQ_rt, lpQ_ro, mrg1, q_I0, q_I, q_ixL, q_ixT, q_ixO, q_lenL, q_lenT, q_lenO, q_sum, q_listL, q_listT, q_abs, q_max2, q_min2, q_slL, q_neg, q_append, q_setI, q_cMul, q_cDiv, q_cPos, q_cPow, at0, at1, at2, at3, at4, at5, ix0, ix1, okW, isOwn, wipeR, restR, sizeLine_eq, hb]
        refine wp_loop (fun i (ρ : List (Sl Empty)) => ∃ x y, ρ = [.val (.list (ns.map PyData.int)), .val (.int delay), .val (.tuple [.int (winF ns delay i).1, .int (winF ns delay i).2]), x, y]) ⟨_, _, rfl⟩ (fun i d ρ hd ⟨x, y, e⟩ => ?_) (fun ρ ⟨x, y, e⟩ => ?_)
        · obtain ⟨hi, rfl⟩ := rng_get hd
          subst e
          refine ⟨_, rfl, ?_⟩
          simp [wp_seq, wp_set, wp_sret, wp_sretO, wp_expr, wp_for, wp_sif, wp_mif, wp_mand, wp_mor, wp_mnot, wp_mtest, wp_bnd, wp_ret, wp_some, wp_mcons, wp_nx, wp_bk, wp_ct, wp_asg, wp_mlc, wp_molc, wp_mcomp, wp_callV, wp_callO, wp_macons, wpr_maown, anQ_own, wpr_aug, auQ_val, wpr, rdQ_val, rdQ_own, wpr_rdO, wpr_wrO, wpr_mopO, wpr_mmut, wpr_setI, owQ_own, wp_setO, wp_tup, wp_lst, wp_olst, wp_list, wp_tuple, wp_range1, wp_range2, wp_part, wp_slice, wp_tru, wp_andV, wp_orV, wp_notV, seqQ_nx, seqQ_rt, seqQ_ro, seqQ_bk, seqQ_ct, gath, scat, scat1, pos, ownAt, clQ_nx, clQ_rt, clQ_ro, lpQ_nx, lpQ_ct, lpQ_bk, lpQ_rt, lpQ_ro, mrg1, q_I0, q_I, q_ixL, q_ixT, q_ixO, q_lenL, q_lenT, q_lenO, q_sum, q_listL, q_listT, q_abs, q_max2, q_min2, q_slL, q_neg, q_append, q_setI, q_cMul, q_cDiv, q_cPos, q_cPow, at0, at1, at2, at3, at4, at5, ix0, ix1, okW, isOwn, wipeR, restR, sizeLine_eq, cut_ints]
          show _ ≤ _ ∧ _ ∨ _
          by_cases hlt : (winF ns delay i).1 < winSum ns delay i
          · have e2 : winF ns delay (i + 1) = (winSum ns delay i, (i : Int)) := if_pos hlt
            rw [e2]
            exact .inr ⟨hlt, rfl, rfl⟩
          · have e2 : winF ns delay (i + 1) = winF ns delay i := if_neg hlt
            rw [e2]
            exact .inl ⟨Int.not_lt.mp hlt, rfl, rfl⟩
        · subst e
          rw [rng_len]
          simp [wp_seq, wp_set, wp_sret, wp_sretO, wp_expr, wp_for, wp_sif, wp_mif, wp_mand, wp_mor, wp_mnot, wp_mtest, wp_bnd, wp_ret, wp_some, wp_mcons, wp_nx, wp_bk, wp_ct, wp_asg, wp_mlc, wp_molc, wp_mcomp, wp_callV, wp_callO, wp_macons, wpr_maown, anQ_own, wpr_aug, auQ_val, wpr, rdQ_val, rdQ_own, wpr_rdO, wpr_wrO, wpr_mopO, wpr_mmut, wpr_setI, owQ_own, wp_setO, wp_tup, wp_lst, wp_olst, wp_list, wp_tuple, wp_range1, wp_range2, wp_part, wp_slice, wp_tru, wp_andV, wp_orV, wp_notV, seqQ_nx, seqQ_rt, seqQ_ro, seqQ_bk, seqQ_ct, gath, scat, scat1, pos, ownAt, clQ_nx, clQ_rt, clQ_ro, lpQ_nx, lpQ_ct, lpQ_bk, lpQ_rt, lpQ_ro, mrg1, q_I0, q_I, q_ixL, q_ixT, q_ixO, q_lenL, q_lenT, q_lenO, q_sum, q_listL, q_listT, q_abs, q_max2, q_min2, q_slL, q_neg, q_append, q_setI, q_cMul, q_cDiv, q_cPos, q_cPow, at0, at1, at2, at3, at4, at5, ix0, ix1, okW, isOwn, wipeR, restR, sizeLine_eq]
      · cases hg
    · cases hg
  · cases hg
end K12
set_option Elab.async false
set_option linter.all false
set_option maxRecDepth 100000
set_option maxHeartbeats 4000000
namespace K12
open PySem PySem.Spec PyProof.Rows L2 DL
variable {P : Program} {w : World} {K : PySem.W.Frag} {mg : Str → Option Value} {base : Heap}
theorem take_step {a b m : Int} (hm : 0 < m ∧ m < 1073741824) {Q : D → List (Sl Empty) → Prop} (h : ∀ v a' b', 0 ≤ v → v < m → Q (.int v) [.own (.seq [.int a', .int b']), .val (.int m)]) :
    callQ g__law_take [.own (.seq [.int a, .int b]), .val (.int m)] Q := by
  refine ⟨.int (takeV a b m), [.own (.seq [.int (takeA a m), .int (takeB a b)]), .val (.int m)], by simp [g__law_take, hm], h _ _ _ ?_ ?_⟩
  · unfold takeV
    split <;> exact Int.emod_nonneg _ (by omega)
  · unfold takeV
    split <;> exact Int.emod_lt_of_pos _ hm.1
theorem bag_step {ns : List Int} {k : Nat} (hk : k < 1000 ∧ ns.length < 1000) {Q : Ow Empty → List (Sl Empty) → Prop} (h : ∀ a b, Q (.seq [.int a, .int b]) [.val (.list (ns.map PyData.int)), .val (.int k)]) :
    callO g__law_bag [.val (.list (ns.map PyData.int)), .val (.int k)] Q := by
  refine ⟨_, [.val (.list (ns.map PyData.int)), .val (.int k)], ?_, h (bagA (cellOf ns k)) (bagB (cellOf ns k) k)⟩
  unfold g__law_bag
  simp only [intsOf_map]
  rw [show (k : Int) = Int.ofNat k from rfl]
  simp only [hk.1, hk.2, and_self, if_true]
theorem at_ints {ns : List Int} {t : Int} (h0 : 0 ≤ t) (h1 : t < ns.length) : ∃ v, v ∈ ns ∧ atI (ns.map PyData.int) t = some (.int v) := by
  have hl : t.toNat < ns.length := by omega
  refine ⟨ns[t.toNat], List.getElem_mem hl, ?_⟩
  have := at_lt (xs := ns.map PyData.int) (k := t.toNat) (x := .int ns[t.toNat]) (by rw [List.getElem?_map, List.getElem?_eq_getElem hl]; rfl)
  rwa [show ((t.toNat : Nat) : Int) = t by omega] at this
theorem win_call {ns : List Int} {delay : Int} (h : ns.length < 1000) {Q : D → List (Sl Empty) → Prop} (q : Q (.tuple [.int (winF ns delay ns.length).1, .int (winF ns delay ns.length).2]) [.val (.list (ns.map PyData.int)), .val (.int delay)]) :
    callQ g_window [.val (.list (ns.map PyData.int)), .val (.int delay)] Q := by
  refine ⟨_, _, ?_, q⟩
  simp [g_window, intsOf_map, h]
theorem cutI_nat {ns : List Int} {l h : Nat} (h1 : l ≤ h) (h2 : h ≤ ns.length) : cutI ns (some (l : Int)) (some (h : Int)) = (ns.drop l).take (h - l) := by
  unfold cutI
  rw [HT.sIx_nat, HT.sIx_nat, Nat.min_eq_left h2, Nat.min_eq_left (Nat.le_trans h1 h2)]
theorem shaped_tup2 (a b : Int) : SeqAt.shaped (.tuple [.int a, .int b]) = true := rfl
theorem canLay_ints : ∀ ns : List Int, PyData.canLayAll0 (ns.map PyData.int) = true
  | [] => rfl
  | n :: r => by simp [PyData.canLayAll0, PyData.canLay0, canLay_ints r]
theorem depth_ints : ∀ ns : List Int, PyData.depthAll (ns.map PyData.int) = 0
  | [] => rfl
  | n :: r => by simp [PyData.depthAll, PyData.depth, depth_ints r]
theorem shaped_ints (ns : List Int) : SeqAt.shaped (.list (ns.map PyData.int)) = true := by
  simp [SeqAt.shaped, PyData.canLay0, PyData.depth, canLay_ints, depth_ints]
theorem eqv_self {d : D} (h : SeqAt.shaped d = true) : PyData.eqv d d = true := SeqAt.eqv_refl d (SeqAt.canLay_of_shaped h)
theorem eqv_tup2 (a b : Int) : PyData.eqv (.tuple [.int a, .int b]) (.tuple [.int a, .int b]) = true := eqv_self (shaped_tup2 a b)
theorem eqv_ints (ns : List Int) : PyData.eqv (.list (ns.map PyData.int)) (.list (ns.map PyData.int)) = true := eqv_self (shaped_ints ns)
def g_law : FM Empty := fun ρ => match ρ with
  | [.val (.list ds)] => match intsOf ds with
    | some ns => if ns.length ≤ 63 then some (.val (.bool true), [.val (.list ds)]) else none
    | none => none
  | _ => none
abbrev s_law : Stmt := topS 5
abbrev N_law : List Str := ["script", "k", "bag", "most", "asks", "handed", "delay", "found", "day", "many", "turn", "one"]
theorem sc_law : FnScope N_law ["script"] (defScope s_law) := ⟨rfl, rfl, rfl, by decide +kernel, rfl, by decide +kernel, by decide +kernel⟩
theorem ok_law {f : Addr} {fd : FuncData} (F : Fun K "law" "law" s_law f fd) (c__law_bag : CalF P w K mg base 1 "_law_bag" ["script", "k"] (spF (noG K) 2 g__law_bag)) (c__law_take : CalF P w K mg base 1 "_law_take" ["bag", "many"] (spF (noG K) 2 g__law_take)) (c_window : CalF P w K mg base 1 "window" ["asks", "delay"] (spF (noG K) 2 g_window)) (m_len : mg "len" = none) (m_list : mg "list" = none) (m_max : mg "max" = none) (m_min : mg "min" = none) (m_range : mg "range" = none) (m_sum : mg "sum" = none) : FnOk P w K mg base CX0 2 f fd ["script"] (spF (noG K) 1 g_law) := by
  refine F.ok sc_law (spF_len (noG K) rfl) (fun cdv A outer s H vs Q E hr h => ?_)
  have hl : vs.length = 1 := h.1
  refine ⟨tS (noG K) vs _, (dss_cons (ds_for (ps_for PassesOwn.never rfl (di_range1 (pi_range1 rfl m_range (da_cons (dv_op (pe_op op_add dv_int (dv_call (pe_callB (call_min2 rfl) (by rfl) m_min PyProof.Rows.boot_min (da_cons (dv_call (pe_callB call_len (by rfl) m_len PySem.boot_len (da_cons (dv_var (pv 0)) da_nil)) d_len) (da_cons dv_int da_nil))) d_min2)) d_add) da_nil))) (pg_name (i := 1) sc_law.nd rfl (.inl rfl))
    (dss_cons (ds_setO (ps_set (i := 2) sc_law.nd rfl (.inr rfl) (do_callF (pe_cal c__law_bag (hr.mono (by decide)) rfl (dr_val (dv_var (pv 0)) (dr_val (dv_var (pv 1)) dr_nil))) (al_val (al_val al_nil)))) hl)
  (dss_cons (ds_set (ps_set (i := 3) sc_law.nd rfl (.inr rfl) (dv_op (pe_ix ix_list (dv_lst (pe_lst (da_cons dv_int (da_cons dv_int (da_cons dv_int da_nil))))) (dv_callF (pe_cal c__law_take (hr.mono (by decide)) rfl (dr_own (pv 2) (dr_val dv_int dr_nil))) (al_own (al_val al_nil))) (fun _ _ => rfl)) d_ixL)))
  (dss_cons (ds_set (ps_set (i := 4) sc_law.nd rfl (.inr rfl) (dv_lc (pe_lc (own := [("turn", 10)]) (g := gName 10) rfl sc_law.nd (di_range1 (pi_range1 rfl m_range (da_cons (dv_callF (pe_cal c__law_take (hr.mono (by decide)) rfl (dr_own (pv 2) (dr_val (dv_op (pe_ix ix_list (dv_lst (pe_lst (da_cons dv_int (da_cons dv_int (da_cons dv_int da_nil))))) (dv_callF (pe_cal c__law_take (hr.mono (by decide)) rfl (dr_own (pv 2) (dr_val dv_int dr_nil))) (al_own (al_val al_nil))) (fun _ _ => rfl)) d_ixL) dr_nil))) (al_own (al_val al_nil))) da_nil))) (blkOk_by (own := [("turn", 10)]) (N := N_law) (sc := defScope s_law) (by decide +kernel)) (fun _ _ _ _ _ => (pg_name (i := 10) sc_law.nd rfl (.inl rfl))) (fun _ _ _ _ _ => dts_nil) (fun _ _ _ _ _ => (dv_callF (pe_cal c__law_take (hr.mono (by decide)) rfl (dr_own (pv 2) (dr_val (dv_var (pv 3)) dr_nil))) (al_own (al_val al_nil))))) (dg_name 10) (by decide))))
  (dss_cons (ds_set (ps_set (i := 5) sc_law.nd rfl (.inl rfl) (dv_call (pe_callTy call_list_of (by rfl) m_list (by decide +kernel) (da_cons (dv_var (pv 4)) da_nil)) d_list)))
  (dss_cons (ds_for (ps_for PassesOwn.never rfl (di_range2 (pi_range2 rfl m_range (da_cons dv_int (da_cons dv_int da_nil)))) (pg_name (i := 6) sc_law.nd rfl (.inl rfl))
    (dss_cons (ds_set (ps_set (i := 7) sc_law.nd rfl (.inl rfl) (dv_tup (pe_tup (da_cons dv_int (da_cons dv_int da_nil))))))
  (dss_cons (ds_for (ps_for PassesOwn.never rfl (di_range1 (pi_range1 rfl m_range (da_cons (dv_call (pe_callB call_len (by rfl) m_len PySem.boot_len (da_cons (dv_var (pv 4)) da_nil)) d_len) da_nil))) (pg_name (i := 8) sc_law.nd rfl (.inl rfl))
    (dss_cons (ds_set (ps_set (i := 9) sc_law.nd rfl (.inl rfl) (dv_call (pe_callB (cr_sum rfl) (by rfl) m_sum PyProof.Rows.boot_sum (da_cons (dv_lc (pe_lc (own := [("one", 11)]) (g := gName 11) rfl sc_law.nd (di_range2 (pi_range2 rfl m_range (da_cons (dv_call (pe_callB (call_max2 rfl) (by rfl) m_max PyProof.Rows.boot_max (da_cons dv_int (da_cons (dv_op (pe_op op_add (dv_op (pe_op op_sub (dv_var (pv 8)) (dv_var (pv 6))) d_sub) dv_int) d_add) da_nil))) d_max2) (da_cons (dv_op (pe_op op_add (dv_var (pv 8)) dv_int) d_add) da_nil)))) (blkOk_by (own := [("one", 11)]) (N := N_law) (sc := defScope s_law) (by decide +kernel)) (fun _ _ _ _ _ => (pg_name (i := 11) sc_law.nd rfl (.inl rfl))) (fun _ _ _ _ _ => dts_nil) (fun _ _ _ _ _ => (dv_op (pe_ix ix_list (dv_var (pv 4)) (dv_var (pv 11)) (fun _ _ => rfl)) d_ixL))) (dg_name 11) (by decide)) da_nil)) d_sum)))
  (dss_one (ds_if (dt_op (pt_cmpR op_gt (dv_var (pv 9)) (dv_op (pe_ix ix_tup (dv_var (pv 7)) dv_int (fun _ _ => rfl)) d_ixT) (nomark _)) d_gt)
    (dss_one (ds_set (ps_set (i := 7) sc_law.nd rfl (.inl rfl) (dv_tup (pe_tup (da_cons (dv_var (pv 9)) (da_cons (dv_var (pv 8)) da_nil)))))))
    dss_nil)))) (dg_name 8))
  (dss_one (ds_if (PW.pt (dw_or (dt_op (pt_cmpR (op_neD hr.units) (dv_callF (pe_cal c_window (hr.mono (by decide)) rfl (dr_val (dv_var (pv 5)) (dr_val (dv_var (pv 6)) dr_nil))) (al_val (al_val al_nil))) (dv_var (pv 7)) (nomark _)) d_neD) (dw_or1 (dt_op (pt_cmpR (op_neD hr.units) (dv_var (pv 5)) (dv_var (pv 4)) (nomark _)) d_neD))))
    (dss_one (ds_ret (ps_ret dv_bl)))
    dss_nil))))) (dg_name 6))
  (dss_one (ds_if (PW.pt (dw_or (dt_op (pt_cmpR (op_neD hr.units) (dv_callF (pe_cal c_window (hr.mono (by decide)) rfl (dr_val (dv_lst (pe_lst da_nil)) (dr_val dv_int dr_nil))) (al_val (al_val al_nil))) (dv_tup (pe_tup (da_cons dv_int (da_cons dv_int da_nil)))) (nomark _)) d_neD) (dw_or1 (dt_op (pt_cmpR (op_neD hr.units) (dv_callF (pe_cal c_window (hr.mono (by decide)) rfl (dr_val (dv_lst (pe_lst (da_cons dv_int (da_cons dv_int da_nil)))) (dr_val dv_int dr_nil))) (al_val (al_val al_nil))) (dv_tup (pe_tup (da_cons dv_int (da_cons dv_int da_nil)))) (nomark _)) d_neD))))
    (dss_one (ds_ret (ps_ret dv_bl)))
    dss_nil)))))))) (dg_name 1))
  (dss_one (ds_ret (ps_ret dv_bl)))), body_ok h (by decide) (fun ρ r hρ hg => ?_)⟩
  unfold g_law at hg
  split at hg
  case h_2 => cases hg
  rename_i ds
  split at hg
  case h_2 => cases hg
  rename_i ns hi
  have := intsOf_eq hi
  subst this
  split at hg
  case isFalse => cases hg
  rename_i hk
  cases hg
  refine close_of ?_
  obtain ⟨kk, hkk, ekk⟩ : ∃ kk : Nat, kk ≤ 31 ∧ 1 + (if 30 < (ns.length : Int) then 30 else (ns.length : Int)) = (kk : Int) := ⟨1 + min ns.length 30, by omega, by split <;> omega⟩
  simp [wp_seq, wp_set, wp_sret, wp_sretO, wp_expr, wp_for, wp_sif, wp_mif, wp_mand, wp_mor, wp_mnot, wp_mtest, wp_bnd, wp_ret, wp_some, wp_mcons, wp_nx, wp_bk, wp_ct, wp_asg, wp_mlc, wp_molc, wp_mcomp, wp_callV, wp_callO, wp_macons, wpr_maown, anQ_own, wpr_aug, auQ_val, wpr, rdQ_val, rdQ_own, wpr_rdO, wpr_wrO, wpr_mopO, wpr_mmut, wpr_setI, owQ_own, wp_setO, wp_tup, wp_lst, wp_olst, wp_list, wp_tuple, wp_range1, wp_range2, wp_part, wp_slice, wp_tru, wp_andV, wp_orV, wp_notV, seqQ_nx, seqQ_rt, seqQ_ro, seqQ_bk, seqQ_ct, gath, scat, scat1, pos, ownAt, clQ_nx, clQ_rt, clQ_ro, lpQ_nx, lpQ_ct, lpQ_bk, lpQ_rt, lpQ_ro, mrg1, q_I0, q_I, q_ixL, q_ixT, q_ixO, q_lenL, q_lenT, q_lenO, q_sum, q_listL, q_listT, q_abs, q_max2, q_min2, q_slL, q_neg, q_append, q_setI, q_cMul, q_cDiv, q_cPos, q_cPow, at0, at1, at2, at3, at4, at5, ix0, ix1, okW, isOwn, wipeR, restR, sizeLine_eq]
  rw [ekk]
  refine ⟨by omega, ?_⟩
  refine wp_loop (fun i (ρ : List (Sl Empty)) => ∃ x1 x2 x3 x4 x5 x6 x7 x8 x9, ρ = [.val (.list (ns.map PyData.int)), x1, x2, x3, x4, x5, x6, x7, x8, x9, .un, .un]) ⟨_, _, _, _, _, _, _, _, _, rfl⟩ ?_ ?_
  · rintro k d ρ hd ⟨x1, x2, x3, x4, x5, x6, x7, x8, x9, rfl⟩
    obtain ⟨hi, rfl⟩ := rng_get hd
    refine ⟨_, rfl, ?_⟩
    rw [wp_seq]
    try simp [wp_set, wp_sret, wp_sretO, wp_expr, wp_for, wp_sif, wp_mif, wp_mand, wp_mor, wp_mnot, wp_mtest, wp_bnd, wp_ret, wp_some, wp_mcons, wp_nx, wp_bk, wp_ct, wp_asg, wp_mlc, wp_molc, wp_mcomp, wp_callV, wp_callO, wp_macons, wpr_maown, anQ_own, wpr_aug, auQ_val, wpr, rdQ_val, rdQ_own, wpr_rdO, wpr_wrO, wpr_mopO, wpr_mmut, wpr_setI, owQ_own, wp_setO, wp_tup, wp_lst, wp_olst, wp_list, wp_tuple, wp_range1, wp_range2, wp_part, wp_slice, wp_tru, wp_andV, wp_orV, wp_notV, seqQ_rt, seqQ_ro, seqQ_bk, seqQ_ct, gath, scat, scat1, pos, ownAt, clQ_nx, clQ_rt, clQ_ro, lpQ_nx, lpQ_ct, lpQ_bk, lpQ_rt, lpQ_ro, mrg1, q_I0, q_I, q_ixL, q_ixT, q_ixO, q_lenL, q_lenT, q_lenO, q_sum, q_listL, q_listT, q_abs, q_max2, q_min2, q_slL, q_neg, q_append, q_setI, q_cMul, q_cDiv, q_cPos, q_cPow, at0, at1, at2, at3, at4, at5, ix0, ix1, okW, isOwn, wipeR, restR, sizeLine_eq]
    refine bag_step (ns := ns) (k := k) ⟨by omega, by omega⟩ fun a b => ?_
    try simp [wp_set, wp_sret, wp_sretO, wp_expr, wp_for, wp_sif, wp_mif, wp_mand, wp_mor, wp_mnot, wp_mtest, wp_bnd, wp_ret, wp_some, wp_mcons, wp_nx, wp_bk, wp_ct, wp_asg, wp_mlc, wp_molc, wp_mcomp, wp_callV, wp_callO, wp_macons, wpr_maown, anQ_own, wpr_aug, auQ_val, wpr, rdQ_val, rdQ_own, wpr_rdO, wpr_wrO, wpr_mopO, wpr_mmut, wpr_setI, owQ_own, wp_setO, wp_tup, wp_lst, wp_olst, wp_list, wp_tuple, wp_range1, wp_range2, wp_part, wp_slice, wp_tru, wp_andV, wp_orV, wp_notV, seqQ_rt, seqQ_ro, seqQ_bk, seqQ_ct, gath, scat, scat1, pos, ownAt, clQ_nx, clQ_rt, clQ_ro, lpQ_nx, lpQ_ct, lpQ_bk, lpQ_rt, lpQ_ro, mrg1, q_I0, q_I, q_ixL, q_ixT, q_ixO, q_lenL, q_lenT, q_lenO, q_sum, q_listL, q_listT, q_abs, q_max2, q_min2, q_slL, q_neg, q_append, q_setI, q_cMul, q_cDiv, q_cPos, q_cPow, at0, at1, at2, at3, at4, at5, ix0, ix1, okW, isOwn, wipeR, restR, sizeLine_eq]
    rw [seqQ_nx, wp_seq]
    try simp [wp_set, wp_sret, wp_sretO, wp_expr, wp_for, wp_sif, wp_mif, wp_mand, wp_mor, wp_mnot, wp_mtest, wp_bnd, wp_ret, wp_some, wp_mcons, wp_nx, wp_bk, wp_ct, wp_asg, wp_mlc, wp_molc, wp_mcomp, wp_callV, wp_callO, wp_macons, wpr_maown, anQ_own, wpr_aug, auQ_val, wpr, rdQ_val, rdQ_own, wpr_rdO, wpr_wrO, wpr_mopO, wpr_mmut, wpr_setI, owQ_own, wp_setO, wp_tup, wp_lst, wp_olst, wp_list, wp_tuple, wp_range1, wp_range2, wp_part, wp_slice, wp_tru, wp_andV, wp_orV, wp_notV, seqQ_rt, seqQ_ro, seqQ_bk, seqQ_ct, gath, scat, scat1, pos, ownAt, clQ_nx, clQ_rt, clQ_ro, lpQ_nx, lpQ_ct, lpQ_bk, lpQ_rt, lpQ_ro, mrg1, q_I0, q_I, q_ixL, q_ixT, q_ixO, q_lenL, q_lenT, q_lenO, q_sum, q_listL, q_listT, q_abs, q_max2, q_min2, q_slL, q_neg, q_append, q_setI, q_cMul, q_cDiv, q_cPos, q_cPow, at0, at1, at2, at3, at4, at5, ix0, ix1, okW, isOwn, wipeR, restR, sizeLine_eq]
    refine take_step (by decide) fun v a b h0 h1 => ?_
    obtain ⟨most, hmost, e⟩ := at_ints (ns := [2, 30, 1001]) h0 h1
    have e : atI [PyData.int 2, PyData.int 30, PyData.int 1001] v = some (.int most) := e
    have hm : 0 < most ∧ most < 1073741824 := by
      simp at hmost
      omega
    try simp [wp_set, wp_sret, wp_sretO, wp_expr, wp_for, wp_sif, wp_mif, wp_mand, wp_mor, wp_mnot, wp_mtest, wp_bnd, wp_ret, wp_some, wp_mcons, wp_nx, wp_bk, wp_ct, wp_asg, wp_mlc, wp_molc, wp_mcomp, wp_callV, wp_callO, wp_macons, wpr_maown, anQ_own, wpr_aug, auQ_val, wpr, rdQ_val, rdQ_own, wpr_rdO, wpr_wrO, wpr_mopO, wpr_mmut, wpr_setI, owQ_own, wp_setO, wp_tup, wp_lst, wp_olst, wp_list, wp_tuple, wp_range1, wp_range2, wp_part, wp_slice, wp_tru, wp_andV, wp_orV, wp_notV, seqQ_rt, seqQ_ro, seqQ_bk, seqQ_ct, gath, scat, scat1, pos, ownAt, clQ_nx, clQ_rt, clQ_ro, lpQ_nx, lpQ_ct, lpQ_bk, lpQ_rt, lpQ_ro, mrg1, q_I0, q_I, q_ixL, q_ixT, q_ixO, q_lenL, q_lenT, q_lenO, q_sum, q_listL, q_listT, q_abs, q_max2, q_min2, q_slL, q_neg, q_append, q_setI, q_cMul, q_cDiv, q_cPos, q_cPow, at0, at1, at2, at3, at4, at5, ix0, ix1, okW, isOwn, wipeR, restR, sizeLine_eq, e]
    rw [seqQ_nx, wp_seq]
    try simp [wp_set, wp_sret, wp_sretO, wp_expr, wp_for, wp_sif, wp_mif, wp_mand, wp_mor, wp_mnot, wp_mtest, wp_bnd, wp_ret, wp_some, wp_mcons, wp_nx, wp_bk, wp_ct, wp_asg, wp_mlc, wp_molc, wp_mcomp, wp_callV, wp_callO, wp_macons, wpr_maown, anQ_own, wpr_aug, auQ_val, wpr, rdQ_val, rdQ_own, wpr_rdO, wpr_wrO, wpr_mopO, wpr_mmut, wpr_setI, owQ_own, wp_setO, wp_tup, wp_lst, wp_olst, wp_list, wp_tuple, wp_range1, wp_range2, wp_part, wp_slice, wp_tru, wp_andV, wp_orV, wp_notV, seqQ_rt, seqQ_ro, seqQ_bk, seqQ_ct, gath, scat, scat1, pos, ownAt, clQ_nx, clQ_rt, clQ_ro, lpQ_nx, lpQ_ct, lpQ_bk, lpQ_rt, lpQ_ro, mrg1, q_I0, q_I, q_ixL, q_ixT, q_ixO, q_lenL, q_lenT, q_lenO, q_sum, q_listL, q_listT, q_abs, q_max2, q_min2, q_slL, q_neg, q_append, q_setI, q_cMul, q_cDiv, q_cPos, q_cPow, at0, at1, at2, at3, at4, at5, ix0, ix1, okW, isOwn, wipeR, restR, sizeLine_eq]
    refine take_step (by decide) fun v a b h0 h1 => ?_
    obtain ⟨c0, hc0, e⟩ := at_ints (ns := [8, 41, 201]) h0 h1
    have e : atI [PyData.int 8, PyData.int 41, PyData.int 201] v = some (.int c0) := e
    have hc1 : 0 < c0 ∧ c0 < 1073741824 ∧ c0 ≤ 201 := by
      simp at hc0
      omega
    try simp [wp_set, wp_sret, wp_sretO, wp_expr, wp_for, wp_sif, wp_mif, wp_mand, wp_mor, wp_mnot, wp_mtest, wp_bnd, wp_ret, wp_some, wp_mcons, wp_nx, wp_bk, wp_ct, wp_asg, wp_mlc, wp_molc, wp_mcomp, wp_callV, wp_callO, wp_macons, wpr_maown, anQ_own, wpr_aug, auQ_val, wpr, rdQ_val, rdQ_own, wpr_rdO, wpr_wrO, wpr_mopO, wpr_mmut, wpr_setI, owQ_own, wp_setO, wp_tup, wp_lst, wp_olst, wp_list, wp_tuple, wp_range1, wp_range2, wp_part, wp_slice, wp_tru, wp_andV, wp_orV, wp_notV, seqQ_rt, seqQ_ro, seqQ_bk, seqQ_ct, gath, scat, scat1, pos, ownAt, clQ_nx, clQ_rt, clQ_ro, lpQ_nx, lpQ_ct, lpQ_bk, lpQ_rt, lpQ_ro, mrg1, q_I0, q_I, q_ixL, q_ixT, q_ixO, q_lenL, q_lenT, q_lenO, q_sum, q_listL, q_listT, q_abs, q_max2, q_min2, q_slL, q_neg, q_append, q_setI, q_cMul, q_cDiv, q_cPos, q_cPow, at0, at1, at2, at3, at4, at5, ix0, ix1, okW, isOwn, wipeR, restR, sizeLine_eq, e]
    refine take_step ⟨hc1.1, hc1.2.1⟩ fun c a b h0 h1 => ?_
    try simp [wp_set, wp_sret, wp_sretO, wp_expr, wp_for, wp_sif, wp_mif, wp_mand, wp_mor, wp_mnot, wp_mtest, wp_bnd, wp_ret, wp_some, wp_mcons, wp_nx, wp_bk, wp_ct, wp_asg, wp_mlc, wp_molc, wp_mcomp, wp_callV, wp_callO, wp_macons, wpr_maown, anQ_own, wpr_aug, auQ_val, wpr, rdQ_val, rdQ_own, wpr_rdO, wpr_wrO, wpr_mopO, wpr_mmut, wpr_setI, owQ_own, wp_setO, wp_tup, wp_lst, wp_olst, wp_list, wp_tuple, wp_range1, wp_range2, wp_part, wp_slice, wp_tru, wp_andV, wp_orV, wp_notV, seqQ_rt, seqQ_ro, seqQ_bk, seqQ_ct, gath, scat, scat1, pos, ownAt, clQ_nx, clQ_rt, clQ_ro, lpQ_nx, lpQ_ct, lpQ_bk, lpQ_rt, lpQ_ro, mrg1, q_I0, q_I, q_ixL, q_ixT, q_ixO, q_lenL, q_lenT, q_lenO, q_sum, q_listL, q_listT, q_abs, q_max2, q_min2, q_slL, q_neg, q_append, q_setI, q_cMul, q_cDiv, q_cPos, q_cPow, at0, at1, at2, at3, at4, at5, ix0, ix1, okW, isOwn, wipeR, restR, sizeLine_eq]
    refine ⟨by omega, by rw [rng_len]; omega, ?_⟩
    refine wp_comp (fun i acc (ρ : List (Sl Empty)) => ∃ a b, ∃ vs : List Int, acc = vs.map PyData.int ∧ vs.length = i ∧ ρ = [.val (.list (ns.map PyData.int)), .val (.int (k : Int)), .own (.seq [.int a, .int b]), .val (.int most), x4, x5, x6, x7, x8, x9, .un, .un]) ⟨_, _, [], rfl, rfl, rfl⟩ ?_ ?_
    · rintro i d acc ρ hd ⟨a, b, vs, rfl, hvs, rfl⟩
      refine ⟨_, rfl, ?_⟩
      simp [wp_seq, wp_set, wp_sret, wp_sretO, wp_expr, wp_for, wp_sif, wp_mif, wp_mand, wp_mor, wp_mnot, wp_mtest, wp_bnd, wp_ret, wp_some, wp_mcons, wp_nx, wp_bk, wp_ct, wp_asg, wp_mlc, wp_molc, wp_mcomp, wp_callV, wp_callO, wp_macons, wpr_maown, anQ_own, wpr_aug, auQ_val, wpr, rdQ_val, rdQ_own, wpr_rdO, wpr_wrO, wpr_mopO, wpr_mmut, wpr_setI, owQ_own, wp_setO, wp_tup, wp_lst, wp_olst, wp_list, wp_tuple, wp_range1, wp_range2, wp_part, wp_slice, wp_tru, wp_andV, wp_orV, wp_notV, seqQ_nx, seqQ_rt, seqQ_ro, seqQ_bk, seqQ_ct, gath, scat, scat1, pos, ownAt, clQ_nx, clQ_rt, clQ_ro, lpQ_nx, lpQ_ct, lpQ_bk, lpQ_rt, lpQ_ro, mrg1, q_I0, q_I, q_ixL, q_ixT, q_ixO, q_lenL, q_lenT, q_lenO, q_sum, q_listL, q_listT, q_abs, q_max2, q_min2, q_slL, q_neg, q_append, q_setI, q_cMul, q_cDiv, q_cPos, q_cPow, at0, at1, at2, at3, at4, at5, ix0, ix1, okW, isOwn, wipeR, restR, sizeLine_eq]
      refine take_step hm fun v a b h0 h1 => ?_
      simp [wp_seq, wp_set, wp_sret, wp_sretO, wp_expr, wp_for, wp_sif, wp_mif, wp_mand, wp_mor, wp_mnot, wp_mtest, wp_bnd, wp_ret, wp_some, wp_mcons, wp_nx, wp_bk, wp_ct, wp_asg, wp_mlc, wp_molc, wp_mcomp, wp_callV, wp_callO, wp_macons, wpr_maown, anQ_own, wpr_aug, auQ_val, wpr, rdQ_val, rdQ_own, wpr_rdO, wpr_wrO, wpr_mopO, wpr_mmut, wpr_setI, owQ_own, wp_setO, wp_tup, wp_lst, wp_olst, wp_list, wp_tuple, wp_range1, wp_range2, wp_part, wp_slice, wp_tru, wp_andV, wp_orV, wp_notV, seqQ_nx, seqQ_rt, seqQ_ro, seqQ_bk, seqQ_ct, gath, scat, scat1, pos, ownAt, clQ_nx, clQ_rt, clQ_ro, lpQ_nx, lpQ_ct, lpQ_bk, lpQ_rt, lpQ_ro, mrg1, q_I0, q_I, q_ixL, q_ixT, q_ixO, q_lenL, q_lenT, q_lenO, q_sum, q_listL, q_listT, q_abs, q_max2, q_min2, q_slL, q_neg, q_append, q_setI, q_cMul, q_cDiv, q_cPos, q_cPow, at0, at1, at2, at3, at4, at5, ix0, ix1, okW, isOwn, wipeR, restR, sizeLine_eq]
      exact ⟨a, b, vs ++ [v], by simp, by simp [hvs], rfl, rfl⟩
    · rintro ys ρ ⟨a, b, vs, rfl, hvs, rfl⟩
      rw [rng_len] at hvs
      simp [wp_seq, wp_set, wp_sret, wp_sretO, wp_expr, wp_for, wp_sif, wp_mif, wp_mand, wp_mor, wp_mnot, wp_mtest, wp_bnd, wp_ret, wp_some, wp_mcons, wp_nx, wp_bk, wp_ct, wp_asg, wp_mlc, wp_molc, wp_mcomp, wp_callV, wp_callO, wp_macons, wpr_maown, anQ_own, wpr_aug, auQ_val, wpr, rdQ_val, rdQ_own, wpr_rdO, wpr_wrO, wpr_mopO, wpr_mmut, wpr_setI, owQ_own, wp_setO, wp_tup, wp_lst, wp_olst, wp_list, wp_tuple, wp_range1, wp_range2, wp_part, wp_slice, wp_tru, wp_andV, wp_orV, wp_notV, seqQ_nx, seqQ_rt, seqQ_ro, seqQ_bk, seqQ_ct, gath, scat, scat1, pos, ownAt, clQ_nx, clQ_rt, clQ_ro, lpQ_nx, lpQ_ct, lpQ_bk, lpQ_rt, lpQ_ro, mrg1, q_I0, q_I, q_ixL, q_ixT, q_ixO, q_lenL, q_lenT, q_lenO, q_sum, q_listL, q_listT, q_abs, q_max2, q_min2, q_slL, q_neg, q_append, q_setI, q_cMul, q_cDiv, q_cPos, q_cPow, at0, at1, at2, at3, at4, at5, ix0, ix1, okW, isOwn, wipeR, restR, sizeLine_eq]
      have hbnd : vs.length ≤ 201 := by omega
      refine ⟨1, 10, ⟨rfl, rfl⟩, by omega, ?_⟩
      refine wp_loop (fun i (ρ : List (Sl Empty)) => ∃ x6 x7 x8 x9, ρ = [.val (.list (ns.map PyData.int)), .val (.int (k : Int)), .own (.seq [.int a, .int b]), .val (.int most), .val (.list (vs.map PyData.int)), .val (.list (vs.map PyData.int)), x6, x7, x8, x9, .un, .un]) ⟨_, _, _, _, rfl⟩ ?_ ?_
      · rintro i d ρ hd ⟨x6, x7, x8, x9, rfl⟩
        obtain ⟨hi, rfl⟩ := rng_get hd
        refine ⟨_, rfl, ?_⟩
        simp [wp_seq, wp_set, wp_sret, wp_sretO, wp_expr, wp_for, wp_sif, wp_mif, wp_mand, wp_mor, wp_mnot, wp_mtest, wp_bnd, wp_ret, wp_some, wp_mcons, wp_nx, wp_bk, wp_ct, wp_asg, wp_mlc, wp_molc, wp_mcomp, wp_callV, wp_callO, wp_macons, wpr_maown, anQ_own, wpr_aug, auQ_val, wpr, rdQ_val, rdQ_own, wpr_rdO, wpr_wrO, wpr_mopO, wpr_mmut, wpr_setI, owQ_own, wp_setO, wp_tup, wp_lst, wp_olst, wp_list, wp_tuple, wp_range1, wp_range2, wp_part, wp_slice, wp_tru, wp_andV, wp_orV, wp_notV, seqQ_nx, seqQ_rt, seqQ_ro, seqQ_bk, seqQ_ct, gath, scat, scat1, pos, ownAt, clQ_nx, clQ_rt, clQ_ro, lpQ_nx, lpQ_ct, lpQ_bk, lpQ_rt, lpQ_ro, mrg1, q_I0, q_I, q_ixL, q_ixT, q_ixO, q_lenL, q_lenT, q_lenO, q_sum, q_listL, q_listT, q_abs, q_max2, q_min2, q_slL, q_neg, q_append, q_setI, q_cMul, q_cDiv, q_cPos, q_cPow, at0, at1, at2, at3, at4, at5, ix0, ix1, okW, isOwn, wipeR, restR, sizeLine_eq]
        have hbn : (vs.length : Int) < 4611686018427387904 := by omega
        refine ⟨by omega, ?_⟩
        refine wp_loop (fun j (ρ : List (Sl Empty)) => ∃ x8 x9, ρ = [.val (.list (ns.map PyData.int)), .val (.int (k : Int)), .own (.seq [.int a, .int b]), .val (.int most), .val (.list (vs.map PyData.int)), .val (.list (vs.map PyData.int)), .val (.int (1 + (i : Int))), .val (.tuple [.int (winF vs (1 + (i : Int)) j).1, .int (winF vs (1 + (i : Int)) j).2]), x8, x9, .un, .un]) ⟨_, _, rfl⟩ ?_ ?_
        · rintro j d ρ hd ⟨x8, x9, rfl⟩
          obtain ⟨hj, rfl⟩ := rng_get hd
          refine ⟨_, rfl, ?_⟩
          rw [wp_seq]
          simp [wp_set, wp_sret, wp_sretO, wp_expr, wp_for, wp_sif, wp_mif, wp_mand, wp_mor, wp_mnot, wp_mtest, wp_bnd, wp_ret, wp_some, wp_mcons, wp_nx, wp_bk, wp_ct, wp_asg, wp_mlc, wp_molc, wp_mcomp, wp_callV, wp_callO, wp_macons, wpr_maown, anQ_own, wpr_aug, auQ_val, wpr, rdQ_val, rdQ_own, wpr_rdO, wpr_wrO, wpr_mopO, wpr_mmut, wpr_setI, owQ_own, wp_setO, wp_tup, wp_lst, wp_olst, wp_list, wp_tuple, wp_range1, wp_range2, wp_part, wp_slice, wp_tru, wp_andV, wp_orV, wp_notV, seqQ_rt, seqQ_ro, seqQ_bk, seqQ_ct, gath, scat, scat1, pos, ownAt, clQ_nx, clQ_rt, clQ_ro, lpQ_nx, lpQ_ct, lpQ_bk, lpQ_rt, lpQ_ro, mrg1, q_I0, q_I, q_ixL, q_ixT, q_ixO, q_lenL, q_lenT, q_lenO, q_sum, q_listL, q_listT, q_abs, q_max2, q_min2, q_slL, q_neg, q_append, q_setI, q_cMul, q_cDiv, q_cPos, q_cPow, at0, at1, at2, at3, at4, at5, ix0, ix1, okW, isOwn, wipeR, restR, sizeLine_eq]
          have hlo : (if 0 < (j : Int) - (1 + (i : Int)) + 1 then (j : Int) - (1 + (i : Int)) + 1 else 0) = ((loOf (1 + (i : Int)) j).toNat : Int) := by
            unfold loOf
            split <;> omega
          have hlo2 : loOf (1 + (i : Int)) j = ((loOf (1 + (i : Int)) j).toNat : Int) := by
            unfold loOf
            split <;> omega
          generalize hl : (loOf (1 + (i : Int)) j).toNat = l at hlo hlo2
          have hlj : l ≤ j := by
            rw [← hl]
            unfold loOf
            split <;> omega
          rw [hlo]
          refine ⟨(l : Int), (j : Int) + 1, ⟨rfl, rfl⟩, by omega, by rw [rng_len]; omega, ?_⟩
          refine wp_comp (fun m acc (ρ : List (Sl Empty)) => acc = ((vs.drop l).take m).map PyData.int ∧ ρ = [.val (.list (ns.map PyData.int)), .val (.int (k : Int)), .own (.seq [.int a, .int b]), .val (.int most), .val (.list (vs.map PyData.int)), .val (.list (vs.map PyData.int)), .val (.int (1 + (i : Int))), .val (.tuple [.int (winF vs (1 + (i : Int)) j).1, .int (winF vs (1 + (i : Int)) j).2]), .val (.int (j : Int)), x9, .un, .un]) ⟨rfl, rfl⟩ ?_ ?_
          · rintro m d acc ρ hd ⟨rfl, rfl⟩
            obtain ⟨hm2, rfl⟩ := rng_get hd
            have hlt : l + m < vs.length := by omega
            have e : atI (vs.map PyData.int) ((l : Int) + (m : Int)) = some (.int vs[l + m]) := by
              have := at_lt (xs := vs.map PyData.int) (k := l + m) (x := .int vs[l + m]) (by rw [List.getElem?_map, List.getElem?_eq_getElem hlt]; rfl)
              rwa [Int.natCast_add] at this
            refine ⟨_, rfl, ?_⟩
            simp [wp_seq, wp_set, wp_sret, wp_sretO, wp_expr, wp_for, wp_sif, wp_mif, wp_mand, wp_mor, wp_mnot, wp_mtest, wp_bnd, wp_ret, wp_some, wp_mcons, wp_nx, wp_bk, wp_ct, wp_asg, wp_mlc, wp_molc, wp_mcomp, wp_callV, wp_callO, wp_macons, wpr_maown, anQ_own, wpr_aug, auQ_val, wpr, rdQ_val, rdQ_own, wpr_rdO, wpr_wrO, wpr_mopO, wpr_mmut, wpr_setI, owQ_own, wp_setO, wp_tup, wp_lst, wp_olst, wp_list, wp_tuple, wp_range1, wp_range2, wp_part, wp_slice, wp_tru, wp_andV, wp_orV, wp_notV, seqQ_nx, seqQ_rt, seqQ_ro, seqQ_bk, seqQ_ct, gath, scat, scat1, pos, ownAt, clQ_nx, clQ_rt, clQ_ro, lpQ_nx, lpQ_ct, lpQ_bk, lpQ_rt, lpQ_ro, mrg1, q_I0, q_I, q_ixL, q_ixT, q_ixO, q_lenL, q_lenT, q_lenO, q_sum, q_listL, q_listT, q_abs, q_max2, q_min2, q_slL, q_neg, q_append, q_setI, q_cMul, q_cDiv, q_cPos, q_cPow, at0, at1, at2, at3, at4, at5, ix0, ix1, okW, isOwn, wipeR, restR, sizeLine_eq, e]
            have e3 : (List.drop l (vs.map PyData.int))[m]? = some (.int vs[l + m]) := by rw [List.getElem?_drop, List.getElem?_map, List.getElem?_eq_getElem hlt]; rfl
            rw [List.take_add_one, e3]
            rfl
          · rintro ys ρ ⟨rfl, rfl⟩
            rw [rng_len]
            have e4 : (vs.drop l).take ((j : Int) + 1 - (l : Int)).toNat = cutI vs (some (loOf (1 + (i : Int)) j)) (some ((j : Int) + 1)) := by
              rw [hlo2, show (j : Int) + 1 = ((j + 1 : Nat) : Int) from rfl, cutI_nat (by omega) (by omega)]
              congr 1
              omega
            rw [e4]
            simp [wp_seq, wp_set, wp_sret, wp_sretO, wp_expr, wp_for, wp_sif, wp_mif, wp_mand, wp_mor, wp_mnot, wp_mtest, wp_bnd, wp_ret, wp_some, wp_mcons, wp_nx, wp_bk, wp_ct, wp_asg, wp_mlc, wp_molc, wp_mcomp, wp_callV, wp_callO, wp_macons, wpr_maown, anQ_own, wpr_aug, auQ_val, wpr, rdQ_val, rdQ_own, wpr_rdO, wpr_wrO, wpr_mopO, wpr_mmut, wpr_setI, owQ_own, wp_setO, wp_tup, wp_lst, wp_olst, wp_list, wp_tuple, wp_range1, wp_range2, wp_part, wp_slice, wp_tru, wp_andV, wp_orV, wp_notV, seqQ_nx, seqQ_rt, seqQ_ro, seqQ_bk, seqQ_ct, gath, scat, scat1, pos, ownAt, clQ_nx, clQ_rt, clQ_ro, lpQ_nx, lpQ_ct, lpQ_bk, lpQ_rt, lpQ_ro, mrg1, q_I0, q_I, q_ixL, q_ixT, q_ixO, q_lenL, q_lenT, q_lenO, q_sum, q_listL, q_listT, q_abs, q_max2, q_min2, q_slL, q_neg, q_append, q_setI, q_cMul, q_cDiv, q_cPos, q_cPow, at0, at1, at2, at3, at4, at5, ix0, ix1, okW, isOwn, wipeR, restR, sizeLine_eq]
            show _ ≤ _ ∧ _ ∨ _
            have e5 : (cutI vs (some (loOf (1 + (i : Int)) j)) (some ((j : Int) + 1))).sum = winSum vs (1 + (i : Int)) j := rfl
            rw [e5]
            by_cases hlt : (winF vs (1 + (i : Int)) j).1 < winSum vs (1 + (i : Int)) j
            · have e2 : winF vs (1 + (i : Int)) (j + 1) = (winSum vs (1 + (i : Int)) j, (j : Int)) := if_pos hlt
              rw [e2]
              exact .inr ⟨hlt, rfl, rfl⟩
            · have e2 : winF vs (1 + (i : Int)) (j + 1) = winF vs (1 + (i : Int)) j := if_neg hlt
              rw [e2]
              exact .inl ⟨Int.not_lt.mp hlt, rfl, rfl⟩
        · rintro ρ ⟨x8, x9, rfl⟩
          rw [rng_len]
          simp [wp_seq, wp_set, wp_sret, wp_sretO, wp_expr, wp_for, wp_sif, wp_mif, wp_mand, wp_mor, wp_mnot, wp_mtest, wp_bnd, wp_ret, wp_some, wp_mcons, wp_nx, wp_bk, wp_ct, wp_asg, wp_mlc, wp_molc, wp_mcomp, wp_callV, wp_callO, wp_macons, wpr_maown, anQ_own, wpr_aug, auQ_val, wpr, rdQ_val, rdQ_own, wpr_rdO, wpr_wrO, wpr_mopO, wpr_mmut, wpr_setI, owQ_own, wp_setO, wp_tup, wp_lst, wp_olst, wp_list, wp_tuple, wp_range1, wp_range2, wp_part, wp_slice, wp_tru, wp_andV, wp_orV, wp_notV, seqQ_nx, seqQ_rt, seqQ_ro, seqQ_bk, seqQ_ct, gath, scat, scat1, pos, ownAt, clQ_nx, clQ_rt, clQ_ro, lpQ_nx, lpQ_ct, lpQ_bk, lpQ_rt, lpQ_ro, mrg1, q_I0, q_I, q_ixL, q_ixT, q_ixO, q_lenL, q_lenT, q_lenO, q_sum, q_listL, q_listT, q_abs, q_max2, q_min2, q_slL, q_neg, q_append, q_setI, q_cMul, q_cDiv, q_cPos, q_cPow, at0, at1, at2, at3, at4, at5, ix0, ix1, okW, isOwn, wipeR, restR, sizeLine_eq]
          refine win_call (by omega) ?_
          simp [wp_seq, wp_set, wp_sret, wp_sretO, wp_expr, wp_for, wp_sif, wp_mif, wp_mand, wp_mor, wp_mnot, wp_mtest, wp_bnd, wp_ret, wp_some, wp_mcons, wp_nx, wp_bk, wp_ct, wp_asg, wp_mlc, wp_molc, wp_mcomp, wp_callV, wp_callO, wp_macons, wpr_maown, anQ_own, wpr_aug, auQ_val, wpr, rdQ_val, rdQ_own, wpr_rdO, wpr_wrO, wpr_mopO, wpr_mmut, wpr_setI, owQ_own, wp_setO, wp_tup, wp_lst, wp_olst, wp_list, wp_tuple, wp_range1, wp_range2, wp_part, wp_slice, wp_tru, wp_andV, wp_orV, wp_notV, seqQ_nx, seqQ_rt, seqQ_ro, seqQ_bk, seqQ_ct, gath, scat, scat1, pos, ownAt, clQ_nx, clQ_rt, clQ_ro, lpQ_nx, lpQ_ct, lpQ_bk, lpQ_rt, lpQ_ro, mrg1, q_I0, q_I, q_ixL, q_ixT, q_ixO, q_lenL, q_lenT, q_lenO, q_sum, q_listL, q_listT, q_abs, q_max2, q_min2, q_slL, q_neg, q_append, q_setI, q_cMul, q_cDiv, q_cPos, q_cPow, at0, at1, at2, at3, at4, at5, ix0, ix1, okW, isOwn, wipeR, restR, sizeLine_eq, gNeD, shaped_tup2, shaped_ints, eqv_tup2, eqv_ints]
      · rintro ρ ⟨x6, x7, x8, x9, rfl⟩
        simp [wp_seq, wp_set, wp_sret, wp_sretO, wp_expr, wp_for, wp_sif, wp_mif, wp_mand, wp_mor, wp_mnot, wp_mtest, wp_bnd, wp_ret, wp_some, wp_mcons, wp_nx, wp_bk, wp_ct, wp_asg, wp_mlc, wp_molc, wp_mcomp, wp_callV, wp_callO, wp_macons, wpr_maown, anQ_own, wpr_aug, auQ_val, wpr, rdQ_val, rdQ_own, wpr_rdO, wpr_wrO, wpr_mopO, wpr_mmut, wpr_setI, owQ_own, wp_setO, wp_tup, wp_lst, wp_olst, wp_list, wp_tuple, wp_range1, wp_range2, wp_part, wp_slice, wp_tru, wp_andV, wp_orV, wp_notV, seqQ_nx, seqQ_rt, seqQ_ro, seqQ_bk, seqQ_ct, gath, scat, scat1, pos, ownAt, clQ_nx, clQ_rt, clQ_ro, lpQ_nx, lpQ_ct, lpQ_bk, lpQ_rt, lpQ_ro, mrg1, q_I0, q_I, q_ixL, q_ixT, q_ixO, q_lenL, q_lenT, q_lenO, q_sum, q_listL, q_listT, q_abs, q_max2, q_min2, q_slL, q_neg, q_append, q_setI, q_cMul, q_cDiv, q_cPos, q_cPow, at0, at1, at2, at3, at4, at5, ix0, ix1, okW, isOwn, wipeR, restR, sizeLine_eq]
        refine win_call (ns := []) (by decide) ?_
        simp [wp_seq, wp_set, wp_sret, wp_sretO, wp_expr, wp_for, wp_sif, wp_mif, wp_mand, wp_mor, wp_mnot, wp_mtest, wp_bnd, wp_ret, wp_some, wp_mcons, wp_nx, wp_bk, wp_ct, wp_asg, wp_mlc, wp_molc, wp_mcomp, wp_callV, wp_callO, wp_macons, wpr_maown, anQ_own, wpr_aug, auQ_val, wpr, rdQ_val, rdQ_own, wpr_rdO, wpr_wrO, wpr_mopO, wpr_mmut, wpr_setI, owQ_own, wp_setO, wp_tup, wp_lst, wp_olst, wp_list, wp_tuple, wp_range1, wp_range2, wp_part, wp_slice, wp_tru, wp_andV, wp_orV, wp_notV, seqQ_nx, seqQ_rt, seqQ_ro, seqQ_bk, seqQ_ct, gath, scat, scat1, pos, ownAt, clQ_nx, clQ_rt, clQ_ro, lpQ_nx, lpQ_ct, lpQ_bk, lpQ_rt, lpQ_ro, mrg1, q_I0, q_I, q_ixL, q_ixT, q_ixO, q_lenL, q_lenT, q_lenO, q_sum, q_listL, q_listT, q_abs, q_max2, q_min2, q_slL, q_neg, q_append, q_setI, q_cMul, q_cDiv, q_cPos, q_cPow, at0, at1, at2, at3, at4, at5, ix0, ix1, okW, isOwn, wipeR, restR, sizeLine_eq, gNeD, shaped_tup2, winF, eqv_tup2]
        refine win_call (ns := [0, 0]) (by decide) ?_
        have e7 : winF [0, 0] 9 2 = (0, 0) := by decide
        simp [wp_seq, wp_set, wp_sret, wp_sretO, wp_expr, wp_for, wp_sif, wp_mif, wp_mand, wp_mor, wp_mnot, wp_mtest, wp_bnd, wp_ret, wp_some, wp_mcons, wp_nx, wp_bk, wp_ct, wp_asg, wp_mlc, wp_molc, wp_mcomp, wp_callV, wp_callO, wp_macons, wpr_maown, anQ_own, wpr_aug, auQ_val, wpr, rdQ_val, rdQ_own, wpr_rdO, wpr_wrO, wpr_mopO, wpr_mmut, wpr_setI, owQ_own, wp_setO, wp_tup, wp_lst, wp_olst, wp_list, wp_tuple, wp_range1, wp_range2, wp_part, wp_slice, wp_tru, wp_andV, wp_orV, wp_notV, seqQ_nx, seqQ_rt, seqQ_ro, seqQ_bk, seqQ_ct, gath, scat, scat1, pos, ownAt, clQ_nx, clQ_rt, clQ_ro, lpQ_nx, lpQ_ct, lpQ_bk, lpQ_rt, lpQ_ro, mrg1, q_I0, q_I, q_ixL, q_ixT, q_ixO, q_lenL, q_lenT, q_lenO, q_sum, q_listL, q_listT, q_abs, q_max2, q_min2, q_slL, q_neg, q_append, q_setI, q_cMul, q_cDiv, q_cPos, q_cPow, at0, at1, at2, at3, at4, at5, ix0, ix1, okW, isOwn, wipeR, restR, sizeLine_eq, gNeD, shaped_tup2, e7, eqv_tup2]
  · rintro ρ ⟨x1, x2, x3, x4, x5, x6, x7, x8, x9, rfl⟩
    simp [wp_seq, wp_set, wp_sret, wp_sretO, wp_expr, wp_for, wp_sif, wp_mif, wp_mand, wp_mor, wp_mnot, wp_mtest, wp_bnd, wp_ret, wp_some, wp_mcons, wp_nx, wp_bk, wp_ct, wp_asg, wp_mlc, wp_molc, wp_mcomp, wp_callV, wp_callO, wp_macons, wpr_maown, anQ_own, wpr_aug, auQ_val, wpr, rdQ_val, rdQ_own, wpr_rdO, wpr_wrO, wpr_mopO, wpr_mmut, wpr_setI, owQ_own, wp_setO, wp_tup, wp_lst, wp_olst, wp_list, wp_tuple, wp_range1, wp_range2, wp_part, wp_slice, wp_tru, wp_andV, wp_orV, wp_notV, seqQ_nx, seqQ_rt, seqQ_ro, seqQ_bk, seqQ_ct, gath, scat, scat1, pos, ownAt, clQ_nx, clQ_rt, clQ_ro, lpQ_nx, lpQ_ct, lpQ_bk, lpQ_rt, lpQ_ro, mrg1, q_I0, q_I, q_ixL, q_ixT, q_ixO, q_lenL, q_lenT, q_lenO, q_sum, q_listL, q_listT, q_abs, q_max2, q_min2, q_slL, q_neg, q_append, q_setI, q_cMul, q_cDiv, q_cPos, q_cPow, at0, at1, at2, at3, at4, at5, ix0, ix1, okW, isOwn, wipeR, restR, sizeLine_eq]
end K12
set_option Elab.async false
set_option linter.all false
set_option maxRecDepth 100000
set_option maxHeartbeats 4000000
namespace K12
open PySem PySem.Spec PyProof.Rows L2 DL
theorem law_true (ns : List Int) (h : ns.length ≤ 63) : ∃ ρ', g_law [.val (.list (ns.map PyData.int))] = some (.val (.bool true), ρ') := ⟨[.val (.list (ns.map PyData.int))], by simp [g_law, intsOf_map, h]⟩
theorem all_mk {l : PySem.W.OpenLaw} {w : World} {K : PySem.W.Frag} {h : Heap} {mg : Str → Option Value} {fa : Addr} (X : K.In h) (G : h.Ns mainGlobals mg) (hfa : mg "law" = some (.ref fa))
    {od0 an0 : Option Addr} {sl0 : Array (Option Value)} {oc0 kV0 dc0 pm0 cd0 ct0 : Value} {f0 : Addr}
    {od1 an1 : Option Addr} {sl1 : Array (Option Value)} {oc1 kV1 dc1 pm1 cd1 ct1 : Value} {f1 : Addr}
    {od2 an2 : Option Addr} {sl2 : Array (Option Value)} {oc2 kV2 dc2 pm2 cd2 ct2 : Value} {f2 : Addr}
    {od3 an3 : Option Addr} {sl3 : Array (Option Value)} {oc3 kV3 dc3 pm3 cd3 ct3 : Value} {f3 : Addr}
    (a0 : PySem.W.nsIn K mainGlobals "window" = some (some (.ref f0))) (l0 : K.lookup f0 = some ⟨oc0, od0, .func (PySem.W.fnOf "window" "window" (defArgs s_window) (defBody s_window) (defScope s_window) .none kV0 dc0 pm0 an0 cd0 ct0), sl0⟩) (c0 : PySem.W.codeIn K cd0 "window" = true) (k0 : PySem.W.keepIn K (.ref f0) = true)
    (a1 : PySem.W.nsIn K mainGlobals "_law_bag" = some (some (.ref f1))) (l1 : K.lookup f1 = some ⟨oc1, od1, .func (PySem.W.fnOf "_law_bag" "_law_bag" (defArgs s__law_bag) (defBody s__law_bag) (defScope s__law_bag) .none kV1 dc1 pm1 an1 cd1 ct1), sl1⟩) (c1 : PySem.W.codeIn K cd1 "_law_bag" = true) (k1 : PySem.W.keepIn K (.ref f1) = true)
    (a2 : PySem.W.nsIn K mainGlobals "_law_take" = some (some (.ref f2))) (l2 : K.lookup f2 = some ⟨oc2, od2, .func (PySem.W.fnOf "_law_take" "_law_take" (defArgs s__law_take) (defBody s__law_take) (defScope s__law_take) .none kV2 dc2 pm2 an2 cd2 ct2), sl2⟩) (c2 : PySem.W.codeIn K cd2 "_law_take" = true) (k2 : PySem.W.keepIn K (.ref f2) = true)
    (a3 : PySem.W.nsIn K mainGlobals "law" = some (some (.ref f3))) (l3 : K.lookup f3 = some ⟨oc3, od3, .func (PySem.W.fnOf "law" "law" (defArgs s_law) (defBody s_law) (defScope s_law) .none kV3 dc3 pm3 an3 cd3 ct3), sl3⟩) (c3 : PySem.W.codeIn K cd3 "law" = true) (k3 : PySem.W.keepIn K (.ref f3) = true)
    (z_abs : PySem.W.nsIn K mainGlobals "abs" = some none)
    (z_len : PySem.W.nsIn K mainGlobals "len" = some none)
    (z_list : PySem.W.nsIn K mainGlobals "list" = some none)
    (z_max : PySem.W.nsIn K mainGlobals "max" = some none)
    (z_min : PySem.W.nsIn K mainGlobals "min" = some none)
    (z_range : PySem.W.nsIn K mainGlobals "range" = some none)
    (z_sum : PySem.W.nsIn K mainGlobals "sum" = some none) :
    ∃ fd : FuncData, (∀ (s : Shared) (v : Value), BindsTo s fd ⟨[v], []⟩ [("script", v)]) ∧ ∀ base : Heap, K.In base → base.Ns mainGlobals mg → FnOk l.prog w K mg base CX0 2 fa fd ["script"] (spF (noG K) 1 g_law) := by
  have e := hfa.symm.trans (PySem.W.mg_of X G a3)
  cases e
  have F0 := fun_mk (st := s_window) l0 c0 k0
  have F1 := fun_mk (st := s__law_bag) l1 c1 k1
  have F2 := fun_mk (st := s__law_take) l2 c2 k2
  have F3 := fun_mk (st := s_law) l3 c3 k3
  have m_abs := PySem.W.mg_none_of X G z_abs
  have m_len := PySem.W.mg_none_of X G z_len
  have m_list := PySem.W.mg_none_of X G z_list
  have m_max := PySem.W.mg_none_of X G z_max
  have m_min := PySem.W.mg_none_of X G z_min
  have m_range := PySem.W.mg_none_of X G z_range
  have m_sum := PySem.W.mg_none_of X G z_sum
  refine ⟨PySem.W.fnOf "law" "law" (defArgs s_law) (defBody s_law) (defScope s_law) .none kV3 dc3 pm3 an3 cd3 ct3, fun s v => .of_eq rfl, fun base _ _ => ?_⟩
  have C_window : CalF l.prog w K mg base 1 "window" ["asks", "delay"] (spF (noG K) 2 g_window) := ⟨⟨f0, _, ok_window F0  m_len m_max m_range m_sum, PySem.W.mg_of X G a0, k0, F0.binds (ps := ["asks", "delay"]) fun _ _ _ _ _ _ us hl => match us, hl with | [_, _], _ => rfl⟩⟩
  have C__law_bag : CalF l.prog w K mg base 1 "_law_bag" ["script", "k"] (spF (noG K) 2 g__law_bag) := ⟨⟨f1, _, ok__law_bag F1  m_abs m_len, PySem.W.mg_of X G a1, k1, F1.binds (ps := ["script", "k"]) fun _ _ _ _ _ _ us hl => match us, hl with | [_, _], _ => rfl⟩⟩
  have C__law_take : CalF l.prog w K mg base 1 "_law_take" ["bag", "many"] (spF (noG K) 2 g__law_take) := ⟨⟨f2, _, ok__law_take F2  , PySem.W.mg_of X G a2, k2, F2.binds (ps := ["bag", "many"]) fun _ _ _ _ _ _ us hl => match us, hl with | [_, _], _ => rfl⟩⟩
  exact ok_law F3 C__law_bag C__law_take C_window m_len m_list m_max m_min m_range m_sum
end K12
open PySem PySem.W PyProof.Rows
set_option maxHeartbeats 0 in
theorem PySem.Challenge.cw_rungstock_k12_windows_of_asks_holds : PySem.Challenge.rw_rungstock_k12_windows_of_asks.Holds := by
  w_on; o_law; k_head; (case hw => w_witness2)
  k_fill
  refine L2.walk_of (l := PySem.Challenge.rw_rungstock_k12_windows_of_asks) (n := 63) (k := 2) (x := "script") (CX := fun _ => L2.CX0) (sp := fun w => DL.spF (DL.noG _) 1 K12.g_law) rfl (by decide) rfl ⟨rfl, by decide, by decide⟩ (fun w h Y => PySem.W.kIn_of Y) ?F (fun _ _ a ns hl _ hS => DL.law_start K12.law_true hl hS) (fun _ _ _ _ _ h => h)
  case F =>
    intro w mg fa h KX G hmg
    refine' K12.all_mk KX G hmg ?a0 ?l0 ?c0 ?k0 ?a1 ?l1 ?c1 ?k1 ?a2 ?l2 ?c2 ?k2 ?a3 ?l3 ?c3 ?k3 ?z_abs ?z_len ?z_list ?z_max ?z_min ?z_range ?z_sum
    (case a0 => k_is); (case l0 => k_is); (case c0 => k_is); (case k0 => k_is); (case a1 => k_is); (case l1 => k_is); (case c1 => k_is); (case k1 => k_is); (case a2 => k_is); (case l2 => k_is); (case c2 => k_is); (case k2 => k_is); (case a3 => k_is); (case l3 => k_is); (case c3 => k_is); (case k3 => k_is); (case z_abs => k_is); (case z_len => k_is); (case z_list => k_is); (case z_max => k_is); (case z_min => k_is); (case z_range => k_is); (case z_sum => k_is)
