import PyProof.Rows.All
import Wide.All
import OpenK.AllK
import Wide.FinOn
import HandS.ForMost
import HandS.Wide
import HandS.TupAny
import HandS.ExcValue
import HandS.HeadHook1
import HandS.Lambda
import HandS.HeadHook4
import HandS.IsInst
import HandS.Flow
import HandS.Style
import HandS.ForExc
import HandS.Defaults
import HandS.HeadEnd
import HandS.ExcIs
import HandS.TryOnly
import HandS.Comp
import HandS.EndBits
import HandS.List
import HandS.SetFor
import PyProof.Rows.CountFlat
import KE.KStateDown
import HandS.Head0
import HandS.Head1
import HandS.Head2
import HandS.HeadHook2
import HandS.HeadHook3
import PySem.Challenge.RW_laterless_k32_numbers_refused
set_option Elab.async false
set_option linter.all false
set_option maxRecDepth 100000
set_option maxHeartbeats 4000000
/-! LD0: values with tuples inline, over the hand layer -/
namespace LD
open PySem PySem.Spec PyProof.Rows L2

inductive D where
  | non | bl (b : Bool) | int (i : Int) | str (x : Str) | tup (xs : List D) | lst (xs : List D) | dct (kvs : List (D × D)) | ref (a : Addr) | ty (n : String)

/-- a list that is never written again -/
def FrL (K : PySem.W.Frag) (H : Hp) (a : Addr) (vs : List V) : Prop := (∃ o, H a = some (.frz o (.lst vs))) ∨
  ∃ (o : Obj) (its : Array Value) (n : Nat), K.lookup a = some o ∧ o.cls = .type "list" ∧ o.dict = none ∧ o.data = .seq its n ∧ its.size ≤ sizeLine ∧ L2.Vals vs its.toList
theorem FrL.sq {K : PySem.W.Frag} {H : Hp} {a : Addr} {vs : List V} (h : FrL K H a vs) : SqL K H a vs := h.elim (fun ⟨o, h⟩ => .inl (.inr ⟨o, h⟩)) .inr
/-- the raw entries of a dict -/
def dictIs (a : Addr) (es : List DictEntry) (h : Heap) : Prop := ∃ o ep, h.get? a = some o ∧ o.ExactDict ∧ o.data = .dict es.toArray ep

mutual
def den (K : PySem.W.Frag) (H : Hp) : V → D → Prop
  | v, .non => v = .non
  | v, .bl b => v = .bl b
  | v, .int i => v = .int i
  | v, .str x => v = .str x
  | v, .ref a => v = .ref a
  | v, .ty n => v = .ty n
  | v, .tup ds => ∃ a vs, v = .ref a ∧ SqT K H a vs ∧ dens K H vs ds
  | v, .lst ds => ∃ a vs, v = .ref a ∧ FrL K H a vs ∧ dens K H vs ds
  | v, .dct kvs => ∃ a o vs, v = .ref a ∧ H a = some (.frz o (.dK vs)) ∧ denKV K H vs kvs
def dens (K : PySem.W.Frag) (H : Hp) : List V → List D → Prop
  | vs, [] => vs = []
  | vs, d :: ds => ∃ v r, vs = v :: r ∧ den K H v d ∧ dens K H r ds
def denKV (K : PySem.W.Frag) (H : Hp) : List (Key × V) → List (D × D) → Prop
  | vs, [] => vs = []
  | vs, (k, d) :: ds => ∃ q v r, vs = (q, v) :: r ∧ den K H (kV q) k ∧ den K H v d ∧ denKV K H r ds
end

/-- what never changes stays -/
structure Ext (H H' : Hp) : Prop where
  tup : ∀ a xs, H a = some (.tup xs) → H' a = some (.tup xs)
  frz : ∀ a o u, H a = some (.frz o u) → H' a = some (.frz o u)
theorem Ext.refl (H : Hp) : Ext H H := ⟨fun _ _ h => h, fun _ _ _ h => h⟩
theorem Ext.trans {H H1 H2 : Hp} (a : Ext H H1) (b : Ext H1 H2) : Ext H H2 := ⟨fun _ _ h => b.tup _ _ (a.tup _ _ h), fun _ _ _ h => b.frz _ _ _ (a.frz _ _ _ h)⟩
theorem Ext.new {H : Hp} {p : Addr} {o : HO} (h : H p = none) : Ext H (upd H p o) :=
  ⟨fun a xs e => by rw [upd_ne (ne_of_none e h)]; exact e, fun a u o e => by rw [upd_ne (ne_of_none e h)]; exact e⟩
theorem Ext.put {H : Hp} {p : Addr} {o u : HO} (h : H p = some u) (m : Mut (some u)) : Ext H (upd H p o) :=
  ⟨fun a xs e => by rw [upd_ne (fun z => by subst z; rw [h] at e; cases e; exact m)]; exact e,
   fun a w v e => by rw [upd_ne (fun z => by subst z; rw [h] at e; cases e; exact m)]; exact e⟩
theorem Ext.sqT {K : PySem.W.Frag} {H H' : Hp} (x : Ext H H') {a : Addr} {vs : List V} (h : SqT K H a vs) : SqT K H' a vs := by
  rcases h with (h | ⟨o, h⟩) | h
  · exact .inl (.inl (x.tup _ _ h))
  · exact .inl (.inr ⟨o, x.frz _ _ _ h⟩)
  · exact .inr h
theorem Ext.frL {K : PySem.W.Frag} {H H' : Hp} (x : Ext H H') {a : Addr} {vs : List V} (h : FrL K H a vs) : FrL K H' a vs :=
  h.elim (fun ⟨o, h⟩ => .inl ⟨o, x.frz _ _ _ h⟩) .inr
mutual
theorem den_ext {K : PySem.W.Frag} {H H' : Hp} (x : Ext H H') : ∀ (v : V) (d : D), den K H v d → den K H' v d
  | v, .non, h => by rw [den] at h ⊢; exact h
  | v, .bl b, h => by rw [den] at h ⊢; exact h
  | v, .int i, h => by rw [den] at h ⊢; exact h
  | v, .str y, h => by rw [den] at h ⊢; exact h
  | v, .ref a, h => by rw [den] at h ⊢; exact h
  | v, .ty n, h => by rw [den] at h ⊢; exact h
  | v, .tup ds, h => by
    rw [den] at h ⊢
    obtain ⟨a, vs, e, s, r⟩ := h
    exact ⟨a, vs, e, x.sqT s, dens_ext x vs ds r⟩
  | v, .lst ds, h => by
    rw [den] at h ⊢
    obtain ⟨a, vs, e, s, r⟩ := h
    exact ⟨a, vs, e, x.frL s, dens_ext x vs ds r⟩
  | v, .dct kvs, h => by
    rw [den] at h ⊢
    obtain ⟨a, o, vs, e, s, r⟩ := h
    exact ⟨a, o, vs, e, x.frz _ _ _ s, denKV_ext x vs kvs r⟩
theorem dens_ext {K : PySem.W.Frag} {H H' : Hp} (x : Ext H H') : ∀ (vs : List V) (ds : List D), dens K H vs ds → dens K H' vs ds
  | vs, [], h => by rw [dens] at h ⊢; exact h
  | vs, d :: ds, h => by
    rw [dens] at h ⊢
    obtain ⟨v, r, e, h1, h2⟩ := h
    exact ⟨v, r, e, den_ext x v d h1, dens_ext x r ds h2⟩
theorem denKV_ext {K : PySem.W.Frag} {H H' : Hp} (x : Ext H H') : ∀ (vs : List (Key × V)) (ds : List (D × D)), denKV K H vs ds → denKV K H' vs ds
  | vs, [], h => by rw [denKV] at h ⊢; exact h
  | vs, (k, d) :: ds, h => by
    rw [denKV] at h ⊢
    obtain ⟨q, v, r, e, h0, h1, h2⟩ := h
    exact ⟨q, v, r, e, den_ext x _ k h0, den_ext x v d h1, denKV_ext x r ds h2⟩
end

/-! ### lists of values -/
section
variable {K : PySem.W.Frag} {H : Hp}
theorem dens_nil : dens K H [] [] := by rw [dens]
theorem dens_cons {v : V} {vs : List V} {d : D} {ds : List D} (h : den K H v d) (t : dens K H vs ds) : dens K H (v :: vs) (d :: ds) := by rw [dens]; exact ⟨v, vs, rfl, h, t⟩
theorem dens_length : ∀ {vs : List V} {ds : List D}, dens K H vs ds → vs.length = ds.length
  | vs, [], h => by rw [dens] at h; rw [h]; rfl
  | vs, d :: ds, h => by
    rw [dens] at h
    obtain ⟨v, r, e, _, h2⟩ := h
    rw [e, List.length_cons, List.length_cons, dens_length h2]
theorem dens_get : ∀ {vs : List V} {ds : List D} {i : Nat} {d : D}, dens K H vs ds → ds[i]? = some d → ∃ v, vs[i]? = some v ∧ den K H v d
  | _, [], _, _, _, e => by simp at e
  | vs, d0 :: ds, 0, d, h, e => by
    rw [dens] at h
    obtain ⟨v, r, e1, h1, h2⟩ := h
    simp at e; subst e; subst e1
    exact ⟨v, rfl, h1⟩
  | vs, d0 :: ds, i + 1, d, h, e => by
    rw [dens] at h
    obtain ⟨v, r, e1, h1, h2⟩ := h
    subst e1
    obtain ⟨u, h3, h4⟩ := dens_get (i := i) (d := d) h2 (by simpa using e)
    exact ⟨u, by simpa using h3, h4⟩
theorem dens_getV : ∀ {vs : List V} {ds : List D} {i : Nat} {v : V}, dens K H vs ds → vs[i]? = some v → ∃ d, ds[i]? = some d ∧ den K H v d
  | vs, [], i, v, h, e => by rw [dens] at h; subst h; simp at e
  | vs, d0 :: ds, 0, v, h, e => by
    rw [dens] at h
    obtain ⟨v0, r, e1, h1, h2⟩ := h
    subst e1; simp at e; subst e
    exact ⟨d0, rfl, h1⟩
  | vs, d0 :: ds, i + 1, v, h, e => by
    rw [dens] at h
    obtain ⟨v0, r, e1, h1, h2⟩ := h
    subst e1
    obtain ⟨u, h3, h4⟩ := dens_getV (i := i) (v := v) h2 (by simpa using e)
    exact ⟨u, by simpa using h3, h4⟩
theorem dens_append : ∀ {vs ws : List V} {ds es : List D}, dens K H vs ds → dens K H ws es → dens K H (vs ++ ws) (ds ++ es)
  | vs, ws, [], es, h, t => by rw [dens] at h; subst h; exact t
  | vs, ws, d :: ds, es, h, t => by
    rw [dens] at h
    obtain ⟨v, r, e, h1, h2⟩ := h
    subst e
    exact dens_cons h1 (dens_append h2 t)
theorem dens_take : ∀ {vs : List V} {ds : List D} (n : Nat), dens K H vs ds → dens K H (vs.take n) (ds.take n)
  | vs, _, 0, _ => by rw [List.take_zero, List.take_zero]; exact dens_nil
  | vs, [], n + 1, h => by rw [dens] at h; subst h; exact dens_nil
  | vs, d :: ds, n + 1, h => by
    rw [dens] at h
    obtain ⟨v, r, e, h1, h2⟩ := h
    subst e
    exact dens_cons h1 (dens_take n h2)
theorem dens_drop : ∀ {vs : List V} {ds : List D} (n : Nat), dens K H vs ds → dens K H (vs.drop n) (ds.drop n)
  | vs, _, 0, h => h
  | vs, [], n + 1, h => by rw [dens] at h; subst h; exact dens_nil
  | vs, d :: ds, n + 1, h => by
    rw [dens] at h
    obtain ⟨v, r, e, h1, h2⟩ := h
    subst e
    exact dens_drop n h2
theorem dens_set {v : V} {d : D} (hv : den K H v d) : ∀ {vs : List V} {ds : List D} (i : Nat), dens K H vs ds → dens K H (vs.set i v) (ds.set i d)
  | vs, [], i, h => by rw [dens] at h; subst h; exact dens_nil
  | vs, d0 :: ds, 0, h => by
    rw [dens] at h
    obtain ⟨w, r, e, h1, h2⟩ := h
    subst e
    exact dens_cons hv h2
  | vs, d0 :: ds, i + 1, h => by
    rw [dens] at h
    obtain ⟨w, r, e, h1, h2⟩ := h
    subst e
    exact dens_cons h1 (dens_set hv i h2)
theorem dens_reverse : ∀ {vs : List V} {ds : List D}, dens K H vs ds → dens K H vs.reverse ds.reverse
  | vs, [], h => by rw [dens] at h; subst h; exact dens_nil
  | vs, d0 :: ds, h => by
    rw [dens] at h
    obtain ⟨w, r, e, h1, h2⟩ := h
    subst e
    rw [List.reverse_cons, List.reverse_cons]
    exact dens_append (dens_reverse h2) (dens_cons h1 dens_nil)
theorem dens_dropLast {vs : List V} {ds : List D} (h : dens K H vs ds) : dens K H vs.dropLast ds.dropLast := by
  rw [List.dropLast_eq_take, List.dropLast_eq_take, dens_length h]
  exact dens_take _ h
theorem dens_ints {ns : List Int} : dens K H (ns.map V.int) (ns.map D.int) := by
  induction ns with
  | nil => exact dens_nil
  | cons n ns ih => exact dens_cons (by rw [den]) ih
theorem dens_isNil {vs : List V} {ds : List D} (h : dens K H vs ds) : vs.isEmpty = ds.isEmpty := by
  have := dens_length h
  cases vs <;> cases ds <;> simp_all
end

/-! ### mutable objects -/
/-- an exception object of the class cls -/
def ExI (cls : Value) (a : Addr) : HO := .ext fun h => ∃ (oe : Obj) (vs : Array Value), h.get? a = some oe ∧ Zc cls none oe ∧ oe.data = .fields vs
/-- of the module's class x -/
def IsExc (K : PySem.W.Frag) (H : Hp) (a : Addr) (x : Str) : Prop := H a = some (ExO (.ref (He.ga K x)) a) ∨ H a = some (ExI (.ref (He.ga K x)) a)
/-- the table of code objects of the def d -/
def IsTab (K : PySem.W.Frag) (H : Hp) (a : Addr) (d : Str × Option Str) (q : Str) : Prop := a = (He.cT K d).2 ∧ LamX.TabS H a q
inductive MO where
  | exc (x : Str)
  | tab (d : Str × Option Str) (q : Str)
  | lst (ds : List D)
  | dct (kvs : List (D × D))
  | rol (ds : List D)
  | raw (o : HO)
abbrev DM := Addr → Option MO
def put (M : DM) (a : Addr) (o : MO) : DM := fun b => if b = a then some o else M b
theorem put_same {M : DM} {a : Addr} {o : MO} : put M a o a = some o := by unfold put; rw [if_pos rfl]
theorem put_ne {M : DM} {a b : Addr} {o : MO} (h : b ≠ a) : put M a o b = M b := by unfold put; rw [if_neg h]
theorem put_put {M : DM} {a : Addr} {o u : MO} : put (put M a o) a u = put M a u := by funext b; unfold put; split <;> rfl
def denO (K : PySem.W.Frag) (H : Hp) (a : Addr) : MO → Prop
  | .lst ds => ∃ vs, H a = some (.lst vs) ∧ dens K H vs ds
  | .dct kvs => ∃ vs, H a = some (.dK vs) ∧ denKV K H vs kvs
  | .rol ds => ∃ o vs, H a = some (.frz o (.lst vs)) ∧ dens K H vs ds
  | .raw o => H a = some o
  | .exc x => IsExc K H a x
  | .tab d q => IsTab K H a d q
def MRel (K : PySem.W.Frag) (H : Hp) (M : DM) : Prop := ∀ a o, M a = some o → denO K H a o
/-- the known part is smaller -/
def Sub (M M' : DM) : Prop := ∀ a o, M a = some o → M' a = some o
theorem Sub.refl (M : DM) : Sub M M := fun _ _ h => h
theorem Sub.trans {M M1 M2 : DM} (a : Sub M M1) (b : Sub M1 M2) : Sub M M2 := fun c o h => b c o (a c o h)
theorem Sub.new {M : DM} {p : Addr} {o : MO} (h : M p = none) : Sub M (put M p o) := fun a u e => by rw [put_ne (fun z => by rw [z, h] at e; cases e)]; exact e
theorem MRel.sub {K : PySem.W.Frag} {H : Hp} {M M' : DM} (r : MRel K H M') (s : Sub M M') : MRel K H M := fun a o e => r a o (s a o e)
theorem MRel.free {K : PySem.W.Frag} {H : Hp} {M : DM} (r : MRel K H M) {p : Addr} (h : H p = none) : M p = none := by
  cases e : M p with
  | none => rfl
  | some o =>
    have q := r p o e
    cases o with
    | lst ds => obtain ⟨vs, q, _⟩ := q; rw [h] at q; cases q
    | dct kvs => obtain ⟨vs, q, _⟩ := q; rw [h] at q; cases q
    | rol ds =>
      obtain ⟨o, vs, q, _⟩ := q
      rw [h] at q; cases q
    | raw o => have q : H p = some o := q; rw [h] at q; cases q
    | exc x =>
      have q : IsExc K H p x := q
      rcases q with q | q <;> rw [h] at q <;> cases q
    | tab d q =>
      obtain ⟨_, ps, z, _⟩ : IsTab K H p d _ := q
      rw [h] at z; cases z

abbrev DSt := List (Option D)
structure SRel (K : PySem.W.Frag) (H : Hp) (σ : L2.St) (δ : DSt) : Prop where
  len : σ.length = δ.length
  get : ∀ (i : Nat) (d : D), δ[i]? = some (some d) → ∃ v, σ[i]? = some (some v) ∧ den K H v d
theorem SRel.ext {K : PySem.W.Frag} {H H' : Hp} {σ : L2.St} {δ : DSt} (x : Ext H H') (s : SRel K H σ δ) : SRel K H' σ δ :=
  ⟨s.len, fun i d e => let ⟨v, h1, h2⟩ := s.get i d e; ⟨v, h1, den_ext x v d h2⟩⟩
theorem SRel.set {K : PySem.W.Frag} {H : Hp} {σ : L2.St} {δ : DSt} (s : SRel K H σ δ) {v : V} {d : D} (h : den K H v d) (i : Nat) : SRel K H (σ.set i (some v)) (δ.set i (some d)) := by
  refine ⟨by rw [List.length_set, List.length_set]; exact s.len, fun j e hj => ?_⟩
  by_cases hij : i = j
  · subst hij
    by_cases hl : i < δ.length
    · rw [List.getElem?_set_self hl] at hj
      cases hj
      exact ⟨v, List.getElem?_set_self (by rw [s.len]; exact hl), h⟩
    · rw [List.getElem?_eq_none (by simpa using hl)] at hj; cases hj
  · rw [List.getElem?_set_ne hij] at hj
    rw [List.getElem?_set_ne hij]
    exact s.get j e hj
theorem SRel.setN {K : PySem.W.Frag} {H : Hp} {σ : L2.St} {δ : DSt} (s : SRel K H σ δ) (i : Nat) : SRel K H (σ.set i none) (δ.set i none) := by
  refine ⟨by rw [List.length_set, List.length_set]; exact s.len, fun j e hj => ?_⟩
  by_cases hij : i = j
  · subst hij
    by_cases hl : i < δ.length
    · rw [List.getElem?_set_self hl] at hj; cases hj
    · rw [List.getElem?_eq_none (by simpa using hl)] at hj; cases hj
  · rw [List.getElem?_set_ne hij] at hj
    rw [List.getElem?_set_ne hij]
    exact s.get j e hj

/-! ### readings -/
structure DE where
  run : DSt → DM → (D → DM → Prop) → Prop
  mono : ∀ {δ : DSt} {M : DM} {Q Q' : D → DM → Prop}, run δ M Q → (∀ d M', Q d M' → Q' d M') → run δ M Q'
structure DT where
  run : DSt → DM → (Bool → DM → Prop) → Prop
  mono : ∀ {δ : DSt} {M : DM} {Q Q' : Bool → DM → Prop}, run δ M Q → (∀ d M', Q d M' → Q' d M') → run δ M Q'
structure DA where
  run : DSt → DM → (List D → DM → Prop) → Prop
  mono : ∀ {δ : DSt} {M : DM} {Q Q' : List D → DM → Prop}, run δ M Q → (∀ d M', Q d M' → Q' d M') → run δ M Q'
structure DEnds where
  nx : DSt → DM → Prop
  rt : D → DM → Prop
  bk : DSt → DM → Prop := fun _ _ => False
  ct : DSt → DM → Prop := fun _ _ => False
structure DEnds.Le (E E' : DEnds) : Prop where
  nx : ∀ δ M, E.nx δ M → E'.nx δ M
  rt : ∀ d M, E.rt d M → E'.rt d M
  bk : ∀ δ M, E.bk δ M → E'.bk δ M
  ct : ∀ δ M, E.ct δ M → E'.ct δ M
structure DS where
  run : DEnds → DSt → DM → Prop
  mono : ∀ {E E' : DEnds} {δ : DSt} {M : DM}, run E δ M → E.Le E' → run E' δ M
structure DG where
  run : D → DSt → DM → (DSt → DM → Prop) → Prop
  mono : ∀ {d : D} {δ : DSt} {M : DM} {Q Q' : DSt → DM → Prop}, run d δ M Q → (∀ δ' M', Q δ' M' → Q' δ' M') → run d δ M Q'

section
variable (K : PySem.W.Frag)
def lQ (H : Hp) (Q : VK) : D → DM → Prop := fun d M' => ∀ v H', Ext H H' → MRel K H' M' → den K H' v d → Q v H'
def lE (t : DE) : TE := fun σ H Q => ∃ δ M, SRel K H σ δ ∧ MRel K H M ∧ t.run δ M (lQ K H Q)
def lT (t : DT) : TT := fun σ H Q => ∃ δ M, SRel K H σ δ ∧ MRel K H M ∧ t.run δ M (fun b M' => ∀ H', Ext H H' → MRel K H' M' → Q b H')
def lA (t : DA) : TA := fun σ H Q => ∃ δ M, SRel K H σ δ ∧ MRel K H M ∧ t.run δ M (fun ds M' => ∀ vs H', Ext H H' → MRel K H' M' → dens K H' vs ds → Q vs H')
def lEnds (H : Hp) (E : Ends) : DEnds where
  nx := fun δ' M' => ∀ σ' H', Ext H H' → SRel K H' σ' δ' → MRel K H' M' → E.nx σ' H'
  rt := fun d M' => ∀ v H', Ext H H' → MRel K H' M' → den K H' v d → E.rt v H'
  bk := fun δ' M' => ∀ σ' H', Ext H H' → SRel K H' σ' δ' → MRel K H' M' → E.bk σ' H'
  ct := fun δ' M' => ∀ σ' H', Ext H H' → SRel K H' σ' δ' → MRel K H' M' → E.ct σ' H'
def lS (t : DS) : TS := fun E σ H => ∃ δ M, SRel K H σ δ ∧ MRel K H M ∧ t.run (lEnds K H E) δ M
def lG (t : DG) : TG := fun v σ H Q => ∃ d δ M, den K H v d ∧ SRel K H σ δ ∧ MRel K H M ∧ t.run d δ M (fun δ' M' => ∀ σ' H', Ext H H' → SRel K H' σ' δ' → MRel K H' M' → Q σ' H')
end

/-- the judgements -/
abbrev QE (X : Cx) (e : Expr) (t : DE) : Prop := PE X e (lE X.K t)
abbrev QT (X : Cx) (e : Expr) (t : DT) : Prop := PT X e (lT X.K t)
abbrev QW (X : Cx) (e : Expr) (t : DT) : Prop := PW X e (lT X.K t)
abbrev QA (X : Cx) (es : List Expr) (t : DA) : Prop := PA X es (lA X.K t)
abbrev QS (X : Cx) (s : Stmt) (t : DS) : Prop := PS X s (lS X.K t)
abbrev QSs (X : Cx) (s : List Stmt) (t : DS) : Prop := PSs X s (lS X.K t)
abbrev QG (X : Cx) (e : Expr) (t : DG) : Prop := PG X e (lG X.K t)

section
variable {X : Cx} {e : Expr}
theorem PE.imp {t t' : TE} (h : PE X e t) (w : ∀ σ H Q, t' σ H Q → t σ H Q) : PE X e t' := ⟨fun pins s σ H Q I q => h.run pins s σ H Q I (w _ _ _ q)⟩
theorem PT.imp {t t' : TT} (h : PT X e t) (w : ∀ σ H Q, t' σ H Q → t σ H Q) : PT X e t' := ⟨fun pins s σ H Q I q => h.run pins s σ H Q I (w _ _ _ q)⟩
theorem PW.imp {t t' : TT} (h : PW X e t) (w : ∀ σ H Q, t' σ H Q → t σ H Q) : PW X e t' := ⟨fun wh pins s σ H Q I q => h.run wh pins s σ H Q I (w _ _ _ q)⟩
theorem PA.imp {es : List Expr} {t t' : TA} (h : PA X es t) (w : ∀ σ H Q, t' σ H Q → t σ H Q) : PA X es t' := ⟨fun pos pins s σ H Q I q => h.run pos pins s σ H Q I (w _ _ _ q)⟩
theorem PS.imp {s : Stmt} {t t' : TS} (h : PS X s t) (w : ∀ D σ H, t' D σ H → t D σ H) : PS X s t' := ⟨fun pins s σ H Q I q => h.run pins s σ H Q I (w _ _ _ q)⟩
theorem PSs.imp {s : List Stmt} {t t' : TS} (h : PSs X s t) (w : ∀ D σ H, t' D σ H → t D σ H) : PSs X s t' := ⟨fun pins s σ H Q I q => h.run pins s σ H Q I (w _ _ _ q)⟩
theorem PG.imp {t t' : TG} (h : PG X e t) (w : ∀ v σ H Q, t' v σ H Q → t v σ H Q) : PG X e t' := ⟨fun pins s σ H v u Q I r q => h.run pins s σ H v u Q I r (w _ _ _ _ q)⟩
end

/-- going on from one lifted reading to the next -/
theorem lE_step {K : PySem.W.Frag} {t : DE} {σ : L2.St} {H : Hp} {Q : VK} {δ : DSt} {M : DM} {Qd : D → DM → Prop} (s : SRel K H σ δ) (m : MRel K H M) (h : t.run δ M Qd)
    (k : ∀ d M' v H', Ext H H' → MRel K H' M' → den K H' v d → Qd d M' → Q v H') : lE K t σ H Q :=
  ⟨δ, M, s, m, t.mono h fun d M' q v H' x mr dn => k d M' v H' x mr dn q⟩
theorem lT_step {K : PySem.W.Frag} {t : DT} {σ : L2.St} {H : Hp} {Q : Bool → Hp → Prop} {δ : DSt} {M : DM} {Qd : Bool → DM → Prop} (s : SRel K H σ δ) (m : MRel K H M) (h : t.run δ M Qd)
    (k : ∀ d M' H', Ext H H' → MRel K H' M' → Qd d M' → Q d H') : lT K t σ H Q :=
  ⟨δ, M, s, m, t.mono h fun d M' q H' x mr => k d M' H' x mr q⟩
theorem lA_step {K : PySem.W.Frag} {t : DA} {σ : L2.St} {H : Hp} {Q : List V → Hp → Prop} {δ : DSt} {M : DM} {Qd : List D → DM → Prop} (s : SRel K H σ δ) (m : MRel K H M) (h : t.run δ M Qd)
    (k : ∀ ds M' vs H', Ext H H' → MRel K H' M' → dens K H' vs ds → Qd ds M' → Q vs H') : lA K t σ H Q :=
  ⟨δ, M, s, m, t.mono h fun d M' q v H' x mr dn => k d M' v H' x mr dn q⟩
theorem lS_step {K : PySem.W.Frag} {t : DS} {E : Ends} {E' : DEnds} {σ : L2.St} {H : Hp} {δ : DSt} {M : DM} (s : SRel K H σ δ) (m : MRel K H M) (h : t.run E' δ M) (k : E'.Le (lEnds K H E)) : lS K t E σ H :=
  ⟨δ, M, s, m, t.mono h k⟩
theorem lG_step {K : PySem.W.Frag} {t : DG} {d : D} {v : V} {σ : L2.St} {H : Hp} {Q : L2.St → Hp → Prop} {δ : DSt} {M : DM} {Qd : DSt → DM → Prop} (dn : den K H v d) (s : SRel K H σ δ) (m : MRel K H M) (h : t.run d δ M Qd)
    (k : ∀ δ' M' σ' H', Ext H H' → SRel K H' σ' δ' → MRel K H' M' → Qd δ' M' → Q σ' H') : lG K t v σ H Q :=
  ⟨d, δ, M, dn, s, m, t.mono h fun δ' M' q σ' H' x sr mr => k δ' M' σ' H' x sr mr q⟩

/-! ### names and constants -/
def dVar (i : Nat) : DE where
  run δ M Q := match δ[i]? with | some (some d) => Q d M | _ => False
  mono {δ M Q Q'} h k := by
    revert h
    split <;> intro h
    · exact k _ _ h
    · exact h
def dC (d : D) : DE := ⟨fun _ M Q => Q d M, fun h k => k _ _ h⟩
section
variable {X : Cx}
theorem qe_var {e : Expr} {i : Nat} (h : PE X e (tVar i)) : QE X e (dVar i) := by
  refine PE.imp h fun σ H Q q => ?_
  obtain ⟨δ, M, s, m, q⟩ := q
  have q : match δ[i]? with | some (some d) => lQ X.K H Q d M | _ => False := q
  split at q
  · rename_i d e
    obtain ⟨v, h1, h2⟩ := s.get _ _ e
    exact ⟨v, h1, q v H (.refl H) m h2⟩
  · exact q.elim
theorem qe_c {e : Expr} {v : V} {d : D} (h : PE X e (tC v)) (hd : ∀ H, den X.K H v d) : QE X e (dC d) := by
  refine PE.imp h fun σ H Q q => ?_
  obtain ⟨δ, M, s, m, q⟩ := q
  exact q v H (.refl H) m (hd H)
theorem qe_int {i j pos} : QE X (.Constant (.int i) j pos) (dC (.int i)) := qe_c pe_int fun _ => by rw [den]
theorem qe_bl {b j pos} : QE X (.Constant (.bool b) j pos) (dC (.bl b)) := qe_c pe_bl fun _ => by rw [den]
theorem qe_non {j pos} : QE X (.Constant .none j pos) (dC .non) := qe_c pe_non fun _ => by rw [den]
theorem qe_str {x j pos} : QE X (.Constant (.str x) j pos) (dC (.str x)) := qe_c pe_str fun _ => by rw [den]
theorem qv (i : Nat) {x : Str} {pos : Pos} (hN : X.N[i]? = some x := by rfl) (hv : Vis X.env.scope x := by first | exact Or.inl rfl | exact Or.inr (Or.inl rfl) | exact Or.inr (Or.inr rfl)) (hd : (x == ("__debug__" : Str)) = false := by decide)
    (hcd : (x == ("__classdict__" : Str)) = false := by decide) : QE X (.Name x pos) (dVar i) := qe_var (pe_var hN hv hd hcd)
end

/-! ### argument lists, displays -/
def dNil : DA := ⟨fun _ M Q => Q [] M, fun h k => k _ _ h⟩
def dCons (t : DE) (r : DA) : DA where
  run δ M Q := t.run δ M fun d M1 => r.run δ M1 fun ds M2 => Q (d :: ds) M2
  mono h k := t.mono h fun d M1 q => r.mono q fun ds M2 => k (d :: ds) M2
section
variable {X : Cx} {e : Expr} {es : List Expr} {t : DE} {r : DA}
theorem qa_nil : QA X [] dNil := by
  refine PA.imp pa_nil fun σ H Q q => ?_
  obtain ⟨δ, M, s, m, q⟩ := q
  exact q [] H (.refl H) m dens_nil
theorem qa_cons (ha : QE X e t) (hr : QA X es r) (hs : starEach (e :: es) X.env = (false, eval e X.env) :: starEach es X.env := by rfl) : QA X (e :: es) (dCons t r) := by
  refine PA.imp (pa_cons ha hr hs) fun σ H Q q => ?_
  obtain ⟨δ, M, s, m, q⟩ := q
  refine lE_step s m q fun d M1 v H1 x1 m1 d1 q1 => ?_
  refine lA_step (s.ext x1) m1 q1 fun ds M2 vs H2 x2 m2 d2 q2 => ?_
  exact q2 (v :: vs) H2 (x1.trans x2) m2 (dens_cons (den_ext x2 v d d1) d2)
end
def dTup (t : DA) : DE where
  run δ M Q := t.run δ M fun ds M1 => ds.length ≤ sizeLine ∧ Q (.tup ds) M1
  mono h k := t.mono h fun ds M1 q => ⟨q.1, k _ _ q.2⟩
def dLst (t : DA) : DE where
  run δ M Q := t.run δ M fun ds M1 => ds.length ≤ sizeLine ∧ ∀ p, M1 p = none → Q (.ref p) (put M1 p (.lst ds))
  mono h k := t.mono h fun ds M1 q => ⟨q.1, fun p hp => k _ _ (q.2 p hp)⟩
theorem MRel.ext {K : PySem.W.Frag} {H H' : Hp} {M : DM} (m : MRel K H M) (x : Ext H H') (k : ∀ a o, M a = some o → H a ≠ none → H' a = H a) (kc : ∀ a φ, H a = some (.ext φ) → H' a = some (.ext φ)) : MRel K H' M := fun a o e => by
  have q := m a o e
  cases o with
  | lst ds => obtain ⟨vs, h1, h2⟩ := q; exact ⟨vs, by rw [k a _ e (by rw [h1]; simp)]; exact h1, dens_ext x _ _ h2⟩
  | dct kvs => obtain ⟨vs, h1, h2⟩ := q; exact ⟨vs, by rw [k a _ e (by rw [h1]; simp)]; exact h1, denKV_ext x _ _ h2⟩
  | rol ds => obtain ⟨o, vs, h1, h2⟩ := q; exact ⟨o, vs, x.frz _ _ _ h1, dens_ext x _ _ h2⟩
  | raw o => exact (k a _ e (by rw [show H a = some o from q]; simp)).trans q
  | exc x =>
    have q : IsExc K H a x := q
    rcases q with q | q
    · exact .inl ((k a _ e (by rw [q]; simp)).trans q)
    · exact .inr ((k a _ e (by rw [q]; simp)).trans q)
  | tab d q =>
    obtain ⟨h0, ps, h1, h2, h3⟩ : IsTab K H a d _ := q
    refine ⟨h0, ps, (k a _ e (by rw [h1]; simp)).trans h1, h2, fun pos cv hc => ?_⟩
    obtain ⟨c, e1, e2⟩ := h3 pos cv hc
    exact ⟨c, e1, kc _ _ e2⟩
/-- the heap grew at a new place that is not told -/
theorem MRel.grow {K : PySem.W.Frag} {H : Hp} {M : DM} {p : Addr} {o : HO} (m : MRel K H M) (h : H p = none) : MRel K (upd H p o) M :=
  m.ext (.new h) (fun a _ _ n => upd_ne (fun z => n (by rw [z]; exact h))) fun a φ e => by rw [upd_ne (fun z => by rw [z, h] at e; cases e)]; exact e
/-- .. and is told -/
theorem MRel.new {K : PySem.W.Frag} {H : Hp} {M : DM} {p : Addr} {o : HO} {u : MO} (m : MRel K H M) (h : H p = none) (n : denO K (upd H p o) p u) : MRel K (upd H p o) (put M p u) := fun a v e => by
  by_cases ha : a = p
  · subst ha; rw [put_same] at e; cases e; exact n
  · rw [put_ne ha] at e
    exact m.grow h a v e
/-- an object written -/
theorem MRel.put {K : PySem.W.Frag} {H : Hp} {M : DM} {p : Addr} {o q : HO} {u : MO} (m : MRel K H M) (h : H p = some q) (mu : Mut (some q)) (n : denO K (upd H p o) p u) (ne : ∀ φ, q ≠ .ext φ := by intro _ z; cases z) : MRel K (upd H p o) (put M p u) := fun a v e => by
  by_cases ha : a = p
  · subst ha; rw [put_same] at e; cases e; exact n
  · rw [put_ne ha] at e
    have x : Ext H (upd H p o) := .put h mu
    have z := m a v e
    have k : ∀ w, H a = some w → upd H p o a = some w := fun w hw => by rw [upd_ne ha]; exact hw
    cases v with
    | lst ds => obtain ⟨vs, h1, h2⟩ := z; exact ⟨vs, k _ h1, dens_ext x _ _ h2⟩
    | dct kvs => obtain ⟨vs, h1, h2⟩ := z; exact ⟨vs, k _ h1, denKV_ext x _ _ h2⟩
    | rol ds => obtain ⟨o, vs, h1, h2⟩ := z; exact ⟨o, vs, x.frz _ _ _ h1, dens_ext x _ _ h2⟩
    | raw w => exact k _ z
    | exc x =>
      have z : IsExc K H a x := z
      exact z.elim (fun z => .inl (k _ z)) fun z => .inr (k _ z)
    | tab d q =>
      obtain ⟨h0, ps, h1, h2, h3⟩ : IsTab K H a d q := z
      refine ⟨h0, ps, k _ h1, h2, fun pos cv hc => ?_⟩
      obtain ⟨c, e1, e2⟩ := h3 pos cv hc
      exact ⟨c, e1, by rw [upd_ne (fun z => by rw [z, h] at e2; exact ne _ (Option.some.inj e2))]; exact e2⟩
section
variable {X : Cx} {e : Expr} {es : List Expr} {t : DE} {r : DA} {pos : Pos}
theorem qe_tup {x1} (h : QA X es r) : QE X (.Tuple es x1 pos) (dTup r) := by
  refine PE.imp (pe_tup h) fun σ H Q q => ?_
  obtain ⟨δ, M, s, m, q⟩ := q
  refine lA_step s m q fun ds M1 vs H1 x1 m1 d1 q1 => ⟨by rw [dens_length d1]; exact q1.1, fun p hp => ?_⟩
  refine q1.2 _ _ (x1.trans (.new hp)) (m1.grow hp) ?_
  rw [den]
  exact ⟨p, vs, rfl, .of upd_same, dens_ext (.new hp) _ _ d1⟩
theorem qe_lst (h : QA X es r) : QE X (.List es pos) (dLst r) := by
  refine PE.imp (pe_lst h) fun σ H Q q => ?_
  obtain ⟨δ, M, s, m, q⟩ := q
  refine lA_step s m q fun ds M1 vs H1 x1 m1 d1 q1 => ⟨by rw [dens_length d1]; exact q1.1, fun p hp => ?_⟩
  refine q1.2 p (m1.free hp) _ _ (x1.trans (.new hp)) (m1.new hp ⟨vs, upd_same, dens_ext (.new hp) _ _ d1⟩) ?_
  rw [den]
end
end LD

/-! LD1: operators, comparisons, tests -/
namespace LD
open PySem PySem.Spec PyProof.Rows L2

/-! ### lists and sequences -/
def isL (M : DM) (d : D) (ds : List D) : Prop := match d with
  | .lst es => es = ds
  | .ref p => M p = some (.lst ds) ∨ M p = some (.rol ds)
  | _ => False
def isSeq (M : DM) (d : D) (ds : List D) : Prop := match d with
  | .tup es => es = ds
  | .lst es => es = ds
  | .ref p => M p = some (.lst ds) ∨ M p = some (.rol ds)
  | _ => False
section
variable {K : PySem.W.Frag} {H : Hp} {M : DM} {v : V} {d : D} {ds : List D}
theorem isL_rd (m : MRel K H M) (h : den K H v d) (l : isL M d ds) : ∃ a vs, v = .ref a ∧ SqL K H a vs ∧ dens K H vs ds := by
  cases d with
  | lst es =>
    have e : es = ds := l
    subst e
    rw [den] at h
    obtain ⟨a, vs, e, f, r⟩ := h
    exact ⟨a, vs, e, f.sq, r⟩
  | ref p =>
    rw [den] at h
    have l : M p = some (.lst ds) ∨ M p = some (.rol ds) := l
    rcases l with l | l
    · obtain ⟨vs, q, r⟩ := m p _ l
      exact ⟨p, vs, h, .inl (.inl q), r⟩
    · obtain ⟨o, vs, q, r⟩ := m p _ l
      exact ⟨p, vs, h, .inl (.inr ⟨o, q⟩), r⟩
  | _ => exact l.elim
theorem isSeq_sq (m : MRel K H M) (h : den K H v d) (l : isSeq M d ds) : ∃ a vs, v = .ref a ∧ (SqL K H a vs ∨ SqT K H a vs) ∧ dens K H vs ds := by
  cases d with
  | tup es =>
    have e : es = ds := l
    subst e
    rw [den] at h
    obtain ⟨a, vs, e, f, r⟩ := h
    exact ⟨a, vs, e, .inr f, r⟩
  | lst es =>
    obtain ⟨a, vs, e, f, r⟩ := isL_rd (d := .lst es) m h l
    exact ⟨a, vs, e, .inl f, r⟩
  | ref p =>
    obtain ⟨a, vs, e, f, r⟩ := isL_rd (d := .ref p) m h l
    exact ⟨a, vs, e, .inl f, r⟩
  | _ => exact l.elim
theorem isL_fun {es : List D} (a : isL M d ds) (b : isL M d es) : ds = es := by
  cases d with
  | lst xs => have a : xs = ds := a; have b : xs = es := b; rw [← a, ← b]
  | ref p =>
    have a : M p = some (.lst ds) ∨ M p = some (.rol ds) := a
    have b : M p = some (.lst es) ∨ M p = some (.rol es) := b
    rcases a with a | a <;> rcases b with b | b <;> rw [a] at b <;> cases b <;> rfl
  | _ => exact a.elim
end
/-- list + list, whatever may be read -/
theorem cat_any {prog : Program} {w : World} {A : Around} {E : Value → Shared → Prop} {s : Shared} {l b : Addr} {vs ws : List Value} {Q : Value → Shared → Prop} (hl : s.heap.IsList l vs.toArray) (hb : s.heap.IsList b ws.toArray) (hsz : vs.length + ws.length ≤ sizeLine)
    (h : Q (.ref s.heap.objs.size) { s with heap := s.heap.push { cls := .type "list", data := .seq (vs ++ ws).toArray } }) : wpAny (model prog w) A (binaryOp .Add (.ref l) (.ref b)) Q E s := by
  obtain ⟨⟨c1, d1, x1, s1⟩, h1, k1, n1, z1⟩ := id hl
  obtain ⟨⟨c2, d2, x2, s2⟩, h2, k2, n2, z2⟩ := id hb
  dsimp only at k1 z1 k2 z2
  subst k1 z1 k2 z2
  refine concat_meets ⟨_, h1, rfl⟩ ⟨_, h2, rfl⟩ noFill_list_add seq_list_add PySem.F.slot_list_add PySem.F.entry_list_add
    (PySem.F.args_list_add_2 _ _) (list_addW l b _ _ n1 n2 d1 d2 s1 s2 (by simpa using hsz)) ⟨h1, h2, ?_⟩
  rw [List.append_toArray]
  exact h

/-! ### two-place operations -/
structure DO2 where
  run : D → D → DM → (D → DM → Prop) → Prop
  mono : ∀ {x y : D} {M : DM} {Q Q' : D → DM → Prop}, run x y M Q → (∀ d M', Q d M' → Q' d M') → run x y M Q'
structure DO1 where
  run : D → DM → (D → DM → Prop) → Prop
  mono : ∀ {x : D} {M : DM} {Q Q' : D → DM → Prop}, run x M Q → (∀ d M', Q d M' → Q' d M') → run x M Q'
def l2 (K : PySem.W.Frag) (r : DO2) : R2 := fun x y H Q => ∃ dx dy M, den K H x dx ∧ den K H y dy ∧ MRel K H M ∧ r.run dx dy M (lQ K H Q)
def l1 (K : PySem.W.Frag) (r : DO1) : V → Hp → VK → Prop := fun x H Q => ∃ dx M, den K H x dx ∧ MRel K H M ∧ r.run dx M (lQ K H Q)
abbrev O2 (X : Cx) (f : Value → Value → Sem Value) (r : DO2) : Prop := OpR X f (l2 X.K r)
abbrev O1 (X : Cx) (f : Value → Sem Value) (r : DO1) : Prop := UnR X f (l1 X.K r)
def dOp (r : DO2) (a b : DE) : DE where
  run δ M Q := a.run δ M fun x M1 => b.run δ M1 fun y M2 => r.run x y M2 Q
  mono h k := a.mono h fun x M1 q => b.mono q fun y M2 q => r.mono q k
def dUn (r : DO1) (a : DE) : DE where
  run δ M Q := a.run δ M fun x M1 => r.run x M1 Q
  mono h k := a.mono h fun x M1 q => r.mono q k
theorem lQ_ext {K : PySem.W.Frag} {H H' : Hp} {Q : VK} (x : Ext H H') {d : D} {M : DM} (h : lQ K H Q d M) : lQ K H' Q d M := fun v H2 x2 m dn => h v H2 (x.trans x2) m dn
theorem lOp {K : PySem.W.Frag} {r : DO2} {ta tb : DE} {σ : L2.St} {H : Hp} {Q : VK} (q : lE K (dOp r ta tb) σ H Q) : tOp (l2 K r) (lE K ta) (lE K tb) σ H Q := by
  obtain ⟨δ, M, s, m, q⟩ := q
  refine lE_step s m q fun d M1 v H1 x1 m1 d1 q1 => ?_
  refine lE_step (s.ext x1) m1 q1 fun e M2 w H2 x2 m2 d2 q2 => ?_
  exact ⟨d, e, M2, den_ext x2 _ _ d1, d2, m2, r.mono q2 fun _ _ h => lQ_ext (x1.trans x2) h⟩
section
variable {X : Cx} {a b : Expr} {ta tb : DE} {pos : Pos}
theorem qe_op {op : Operator} {r : DO2} (ho : O2 X (binaryOp op) r) (ha : QE X a ta) (hb : QE X b tb) : QE X (.BinOp a op b pos) (dOp r ta tb) :=
  PE.imp (pe_op ho ha hb) fun _ _ _ q => lOp q
theorem qe_cmp {op : CmpOp} {r : DO2} (ho : O2 X (compareOp op) r) (ha : QE X a ta) (hb : QE X b tb) (hm : behindInMarks op b = false) : QE X (.Compare a [op] [b] pos) (dOp r ta tb) :=
  PE.imp (pe_cmpR ho ha hb hm) fun _ _ _ q => lOp q
theorem qe_un {op : UnaryOp} {r : DO1} (ho : O1 X (unaryOp op) r) (ha : QE X a ta) : QE X (.UnaryOp op a pos) (dUn r ta) := by
  refine PE.imp (pe_un ho ha) fun σ H Q q => ?_
  obtain ⟨δ, M, s, m, q⟩ := q
  refine lE_step s m q fun d M1 v H1 x1 m1 d1 q1 => ?_
  exact ⟨d, M1, d1, m1, r.mono q1 fun _ _ h => lQ_ext x1 h⟩
/-- a test whose value is a bool -/
def dTB (t : DE) : DT where
  run δ M Q := t.run δ M fun d M1 => match d with | .bl b => Q b M1 | _ => False
  mono h k := t.mono h fun d M1 q => by
    revert q; split <;> intro q
    · exact k _ _ q
    · exact q
theorem qt_cmp {op : CmpOp} {r : DO2} (ho : O2 X (compareOp op) r) (ha : QE X a ta) (hb : QE X b tb) (hm : behindInMarks op b = false) : QT X (.Compare a [op] [b] pos) (dTB (dOp r ta tb)) := by
  refine PT.imp (pt_cmpR ho ha hb hm) fun σ H Q q => ?_
  obtain ⟨δ, M, s, m, q⟩ := q
  refine lOp (Q := fun x H' => ∃ k, x = .bl k ∧ Q k H') ⟨δ, M, s, m, (dOp r ta tb).mono q fun d M1 q v H1 x1 m1 d1 => ?_⟩
  revert q; split <;> intro q
  · rw [den] at d1
    exact ⟨_, d1, q H1 x1 m1⟩
  · exact q.elim
end

/-! ### arithmetic -/
def oAdd : DO2 where
  run x y M Q := match x, y with
    | .int i, .int j => Q (.int (i + j)) M
    | .bl i, .bl j => Q (.int (b2i i + b2i j)) M
    | .int i, .bl j => Q (.int (i + b2i j)) M
    | .bl i, .int j => Q (.int (b2i i + j)) M
    | .str i, .str j => i.length + j.length ≤ sizeLine ∧ Q (.str (i ++ j)) M
    | .tup i, .tup j => i.length + j.length ≤ sizeLine ∧ Q (.tup (i ++ j)) M
    | x, y => ∃ a b, isL M x a ∧ isL M y b ∧ a.length + b.length ≤ sizeLine ∧ ∀ p, M p = none → Q (.ref p) (put M p (.lst (a ++ b)))
  mono {x y M Q Q'} h k := by
    revert h
    split <;> intro h
    · exact k _ _ h
    · exact k _ _ h
    · exact k _ _ h
    · exact k _ _ h
    · exact ⟨h.1, k _ _ h.2⟩
    · exact ⟨h.1, k _ _ h.2⟩
    · obtain ⟨a, b, h1, h2, h3, h4⟩ := h
      exact ⟨a, b, h1, h2, h3, fun p hp => k _ _ (h4 p hp)⟩
def oSub : DO2 where
  run x y M Q := match x, y with
    | .int i, .int j => Q (.int (i - j)) M
    | .bl i, .bl j => Q (.int (b2i i - b2i j)) M
    | _, _ => False
  mono {x y M Q Q'} h k := by
    revert h
    split <;> intro h <;> first | exact k _ _ h | exact h
/-- the size of a product -/
def MulOk (i j : Int) : Prop := CMul i j ∨ CMulW i j
def oMul : DO2 where
  run x y M Q := match x, y with
    | .int i, .int j => MulOk i j ∧ Q (.int (i * j)) M
    | .str z, .int k => PySem.MulOk z k ∧ Q (.str (Txt.mul z k)) M
    | _, _ => False
  mono {x y M Q Q'} h k := by
    revert h
    split <;> intro h <;> first | exact ⟨h.1, k _ _ h.2⟩ | exact h
def oFdiv : DO2 where
  run x y M Q := match x, y with
    | .int i, .int j => CDivW i j ∧ Q (.int (i / j)) M
    | _, _ => False
  mono {x y M Q Q'} h k := by
    revert h
    split <;> intro h <;> first | exact ⟨h.1, k _ _ h.2⟩ | exact h
def oMod : DO2 where
  run x y M Q := match x, y with
    | .int i, .int j => 0 < j ∧ Q (.int (i % j)) M
    | _, _ => False
  mono {x y M Q Q'} h k := by
    revert h
    split <;> intro h <;> first | exact ⟨h.1, k _ _ h.2⟩ | exact h
def oPow : DO2 where
  run x y M Q := match x, y with
    | .int i, .int j => CPow i j ∧ Q (.int (i ^ j.toNat)) M
    | _, _ => False
  mono {x y M Q Q'} h k := by
    revert h
    split <;> intro h <;> first | exact ⟨h.1, k _ _ h.2⟩ | exact h
def oNeg : DO1 where
  run x M Q := match x with
    | .int i => Q (.int (-i)) M
    | _ => False
  mono {x M Q Q'} h k := by
    revert h
    split <;> intro h <;> first | exact k _ _ h | exact h

theorem lint {K : PySem.W.Frag} {H : Hp} {v : V} {i : Int} (h : den K H v (.int i)) : v = .int i := by rw [den] at h; exact h
theorem lbl {K : PySem.W.Frag} {H : Hp} {v : V} {i : Bool} (h : den K H v (.bl i)) : v = .bl i := by rw [den] at h; exact h
theorem lstr {K : PySem.W.Frag} {H : Hp} {v : V} {i : Str} (h : den K H v (.str i)) : v = .str i := by rw [den] at h; exact h
theorem dint {K : PySem.W.Frag} {H : Hp} {i : Int} : den K H (.int i) (.int i) := by rw [den]
theorem dbl {K : PySem.W.Frag} {H : Hp} {i : Bool} : den K H (.bl i) (.bl i) := by rw [den]
theorem dstr {K : PySem.W.Frag} {H : Hp} {i : Str} : den K H (.str i) (.str i) := by rw [den]
theorem dref {K : PySem.W.Frag} {H : Hp} {a : Addr} : den K H (.ref a) (.ref a) := by rw [den]
theorem dnon {K : PySem.W.Frag} {H : Hp} : den K H .non .non := by rw [den]

section
variable {X : Cx}
/-- two ints of values -/
theorem vint2 {x y : V} {v u : Value} {i j : Int} {K : PySem.W.Frag} {H : Hp} (rx : RelV x v) (ry : RelV y u) (hx : den K H x (.int i)) (hy : den K H y (.int j)) : ∃ t t', v = .int i t ∧ u = .int j t' := by
  have e1 := lint hx
  have e2 := lint hy
  subst e1 e2
  obtain ⟨t, h1⟩ := rx
  obtain ⟨t', h2⟩ := ry
  exact ⟨t, t', h1, h2⟩
theorem fin_int {pins : List (Addr × Obj)} {σ : L2.St} {H : Hp} {s : Shared} {M : DM} {Q : VK} {i : Int} {t : Tok} {n : Nat} (I : Inv X pins σ H s) (m : MRel X.K H M) (q : lQ X.K H Q (.int i) M) : EP X pins σ Q (.int i t) { s with toks := n } :=
  ⟨.int i, H, I.tok n, ⟨_, rfl⟩, q _ _ (.refl H) m dint⟩
theorem fin_bool {pins : List (Addr × Obj)} {σ : L2.St} {H : Hp} {s : Shared} {M : DM} {Q : VK} {b : Bool} (I : Inv X pins σ H s) (m : MRel X.K H M) (q : lQ X.K H Q (.bl b) M) : EP X pins σ Q (.bool b) s :=
  ⟨.bl b, H, I, rfl, q _ _ (.refl H) m dbl⟩
theorem b2i_if (b : Bool) : (if b = true then (1 : Int) else 0) = b2i b := by cases b <;> rfl
theorem o_add : O2 X (binaryOp .Add) oAdd := by
  intro pins s σ H x y v u Q I rx ry h
  obtain ⟨dx, dy, M, hx, hy, m, q⟩ := h
  have q0 := q
  dsimp only [oAdd] at q
  split at q
  · obtain ⟨t, t', rfl, rfl⟩ := vint2 rx ry hx hy
    exact add_int (fin_int I m q)
  · cases lbl hx; cases lbl hy; cases rx; cases ry
    exact add_bool (fin_int I m q)
  · cases lint hx; cases lbl hy; obtain ⟨t, rfl⟩ := rx; cases ry
    exact PySem.add_int_bool (by rw [b2i_if]; exact fin_int I m q)
  · cases lbl hx; cases lint hy; obtain ⟨t, rfl⟩ := ry; cases rx
    exact PySem.IntBool.add_bool_int (by rw [b2i_if]; exact fin_int I m q)
  · cases lstr hx; cases lstr hy; obtain ⟨t, rfl⟩ := rx; obtain ⟨t', rfl⟩ := ry
    exact add_str (fun t' tk => ⟨.str _, H, I.tok _, ⟨_, rfl⟩, q.2 _ _ (.refl H) m dstr⟩) q.1
  · rename_i i j
    rw [den] at hx hy
    obtain ⟨a, vs, rfl, sa, da⟩ := hx
    obtain ⟨b, ws, rfl, sb, db⟩ := hy
    have la := dens_length da
    have lb := dens_length db
    refine op_catA pins s σ H _ _ v u Q I rx ry ⟨a, b, vs, ws, rfl, rfl, sa, sb, by omega, fun e => ?_, fun e e2 => ?_, fun e e2 p hp => ?_⟩
    · refine q.2 _ _ (.refl H) m ?_
      rw [den]
      subst e
      have : i = [] := by cases i with | nil => rfl | cons => simp at la
      subst this
      exact ⟨b, ws, rfl, sb, db⟩
    · refine q.2 _ _ (.refl H) m ?_
      rw [den]
      subst e2
      have : j = [] := by cases j with | nil => rfl | cons => simp at lb
      subst this
      rw [List.append_nil]
      exact ⟨a, vs, rfl, sa, da⟩
    · refine q.2 _ _ (.new hp) (m.grow hp) ?_
      rw [den]
      exact ⟨p, _, rfl, .of upd_same, dens_append (dens_ext (.new hp) _ _ da) (dens_ext (.new hp) _ _ db)⟩
  · obtain ⟨ds, es, h1, h2, hz, q⟩ := q
    obtain ⟨a, vs, rfl, sa, da⟩ := isL_rd m hx h1
    obtain ⟨b, ws, rfl, sb, db⟩ := isL_rd m hy h2
    cases rx
    cases ry
    obtain ⟨its, r, pl, z⟩ := I.list sa
    obtain ⟨its2, r2, pl2, z2⟩ := I.list sb
    have la := dens_length da
    have lb := dens_length db
    have ka := r.length
    have kb := r2.length
    have hp : H s.heap.objs.size = none := I.fresh
    refine cat_any pl.isList pl2.isList (by omega) ?_
    exact ⟨.ref _, _, I.lnew (t' := s.toks) (r.append r2) (by rw [List.length_append]; omega), rfl, q _ (m.free hp) _ _ (.new hp) (m.new hp ⟨_, upd_same, dens_append (dens_ext (.new hp) _ _ da) (dens_ext (.new hp) _ _ db)⟩) dref⟩
theorem o_sub : O2 X (binaryOp .Sub) oSub := by
  intro pins s σ H x y v u Q I rx ry h
  obtain ⟨dx, dy, M, hx, hy, m, q⟩ := h
  dsimp only [oSub] at q
  split at q
  · obtain ⟨t, t', rfl, rfl⟩ := vint2 rx ry hx hy
    exact sub_int (fin_int I m q)
  · cases lbl hx; cases lbl hy; cases rx; cases ry
    exact sub_bool (fin_int I m q)
  · exact q.elim
theorem o_mul : O2 X (binaryOp .Mult) oMul := by
  intro pins s σ H x y v u Q I rx ry h
  obtain ⟨dx, dy, M, hx, hy, m, q⟩ := h
  dsimp only [oMul] at q
  split at q
  · obtain ⟨t, t', rfl, rfl⟩ := vint2 rx ry hx hy
    exact PyProof.Rows.mul_int (fin_int I m q.2) (q.1.elim CMul.ok CMulW.ok)
  · cases lstr hx; cases lint hy
    obtain ⟨t, rfl⟩ := rx
    obtain ⟨t', rfl⟩ := ry
    exact SB.mul q.1 fun t' k => ⟨.str _, H, I.tok _, ⟨_, rfl⟩, q.2 _ _ (.refl H) m dstr⟩
  · exact q.elim
theorem o_fdiv : O2 X (binaryOp .FloorDiv) oFdiv := by
  intro pins s σ H x y v u Q I rx ry h
  obtain ⟨dx, dy, M, hx, hy, m, q⟩ := h
  dsimp only [oFdiv] at q
  split at q
  · rename_i i j
    cases lint hx; cases lint hy
    exact op_fdivW pins s σ H _ _ v u Q I rx ry ⟨i, j, rfl, rfl, q.1, q.2 _ _ (.refl H) m dint⟩
  · exact q.elim
theorem o_mod : O2 X (binaryOp .Mod) oMod := by
  intro pins s σ H x y v u Q I rx ry h
  obtain ⟨dx, dy, M, hx, hy, m, q⟩ := h
  dsimp only [oMod] at q
  split at q
  · rename_i i j
    cases lint hx; cases lint hy
    exact op_mod pins s σ H _ _ v u Q I rx ry ⟨i, j, rfl, rfl, q.1, q.2 _ _ (.refl H) m dint⟩
  · exact q.elim
theorem o_pow : O2 X (binaryOp .Pow) oPow := by
  intro pins s σ H x y v u Q I rx ry h
  obtain ⟨dx, dy, M, hx, hy, m, q⟩ := h
  dsimp only [oPow] at q
  split at q
  · rename_i i j
    cases lint hx; cases lint hy
    exact op_pow pins s σ H _ _ v u Q I rx ry ⟨i, j, rfl, rfl, q.1, q.2 _ _ (.refl H) m dint⟩
  · exact q.elim
theorem o_neg : O1 X (unaryOp .USub) oNeg := by
  intro pins s σ H x v Q I rx h
  obtain ⟨dx, M, hx, m, q⟩ := h
  dsimp only [oNeg] at q
  split at q
  · rename_i i
    cases lint hx
    exact un_neg pins s σ H _ v Q I rx ⟨i, rfl, q _ _ (.refl H) m dint⟩
  · exact q.elim
end

/-! ### data -/
mutual
def dat (M : DM) : PyData → D → Prop
  | .none, d => d = .non
  | .bool b, d => d = .bl b
  | .int i, d => d = .int i
  | .str x, d => d = .str x
  | .list ts, d => ∃ ds, isL M d ds ∧ dats M ts ds
  | .tuple ts, d => ∃ ds, d = .tup ds ∧ dats M ts ds
  | .dict _, _ => False
def dats (M : DM) : List PyData → List D → Prop
  | [], ds => ds = []
  | t :: ts, ds => ∃ d r, ds = d :: r ∧ dat M t d ∧ dats M ts r
end
mutual
theorem dat_dp {K : PySem.W.Frag} {H : Hp} {M : DM} (m : MRel K H M) : ∀ (t : PyData) (d : D) (v : V), dat M t d → den K H v d → Dp K H v t
  | .none, d, v, h, hd => by rw [dat] at h; subst h; rw [den] at hd; subst hd; exact .non
  | .bool b, d, v, h, hd => by rw [dat] at h; subst h; rw [den] at hd; subst hd; exact .bl b
  | .int b, d, v, h, hd => by rw [dat] at h; subst h; rw [den] at hd; subst hd; exact .int b
  | .str b, d, v, h, hd => by rw [dat] at h; subst h; rw [den] at hd; subst hd; exact .str b
  | .list ts, d, v, h, hd => by
    rw [dat] at h
    obtain ⟨ds, h1, h2⟩ := h
    obtain ⟨a, vs, e, s, r⟩ := isL_rd m hd h1
    subst e
    exact .lst s (dats_dp m ts ds vs h2 r)
  | .tuple ts, d, v, h, hd => by
    rw [dat] at h
    obtain ⟨ds, h1, h2⟩ := h
    subst h1
    rw [den] at hd
    obtain ⟨a, vs, e, s, r⟩ := hd
    subst e
    exact .tup s (dats_dp m ts ds vs h2 r)
  | .dict _, d, v, h, hd => by rw [dat] at h; exact h.elim
theorem dats_dp {K : PySem.W.Frag} {H : Hp} {M : DM} (m : MRel K H M) : ∀ (ts : List PyData) (ds : List D) (vs : List V), dats M ts ds → dens K H vs ds → DpAll K H vs ts
  | [], ds, vs, h, hd => by rw [dats] at h; subst h; rw [dens] at hd; subst hd; exact .nil
  | t :: ts, ds, vs, h, hd => by
    rw [dats] at h
    obtain ⟨d, r, e, h1, h2⟩ := h
    subst e
    rw [dens] at hd
    obtain ⟨v, w, e, h3, h4⟩ := hd
    subst e
    exact .cons (dat_dp m t d v h1 h3) (dats_dp m ts r w h2 h4)
end
/-! data without references -/
mutual
def toP : D → PyData
  | .non => .none
  | .bl b => .bool b
  | .int i => .int i
  | .str x => .str x
  | .tup ds => .tuple (toPs ds)
  | .lst ds => .list (toPs ds)
  | .dct _ => .none
  | .ref _ => .none
  | .ty _ => .none
def toPs : List D → List PyData
  | [] => []
  | d :: ds => toP d :: toPs ds
end
mutual
def pureD : D → Bool
  | .tup ds => pureDs ds
  | .lst ds => pureDs ds
  | .dct _ => false
  | .ref _ => false
  | .ty _ => false
  | _ => true
def pureDs : List D → Bool
  | [] => true
  | d :: ds => pureD d && pureDs ds
end
mutual
theorem dat_toP {M : DM} : ∀ d : D, pureD d = true → dat M (toP d) d
  | .non, _ => by rw [toP, dat]
  | .bl _, _ => by rw [toP, dat]
  | .int _, _ => by rw [toP, dat]
  | .str _, _ => by rw [toP, dat]
  | .tup ds, h => by rw [toP, dat]; exact ⟨ds, rfl, dats_toP ds (by rw [pureD] at h; exact h)⟩
  | .lst ds, h => by rw [toP, dat]; exact ⟨ds, rfl, dats_toP ds (by rw [pureD] at h; exact h)⟩
  | .dct _, h => by rw [pureD] at h; cases h
  | .ref _, h => by rw [pureD] at h; cases h
  | .ty _, h => by rw [pureD] at h; cases h
theorem dats_toP {M : DM} : ∀ ds : List D, pureDs ds = true → dats M (toPs ds) ds
  | [], _ => by rw [toPs, dats]
  | d :: ds, h => by
    rw [pureDs, Bool.and_eq_true] at h
    rw [toPs, dats]
    exact ⟨d, ds, rfl, dat_toP d h.1, dats_toP ds h.2⟩
end

def oEqN (neg : Bool) : DO2 where
  run x y M Q := match x, y with
    | .int i, .int j => Q (.bl (decide (i = j) ^^ neg)) M
    | .str i, .str j => Q (.bl (decide (i = j) ^^ neg)) M
    | x, y => ∃ t u, dat M t x ∧ dat M u y ∧ SeqAt.shaped t = true ∧ SeqAt.shaped u = true ∧ Q (.bl (PyData.eqv t u ^^ neg)) M
  mono {x y M Q Q'} h k := by
    revert h
    split <;> intro h
    · exact k _ _ h
    · exact k _ _ h
    · obtain ⟨t, u, h1, h2, h3, h4, h5⟩ := h
      exact ⟨t, u, h1, h2, h3, h4, k _ _ h5⟩
abbrev oEq : DO2 := oEqN false
abbrev oNe : DO2 := oEqN true
section
variable {X : Cx}
theorem o_eq (hu : X.A.units + 64 < cLine) : O2 X (compareOp .Eq) oEq := by
  intro pins s σ H x y v u Q I rx ry h
  obtain ⟨dx, dy, M, hx, hy, m, q⟩ := h
  dsimp only [oEq, oEqN] at q
  split at q
  · rename_i i j
    cases lint hx; cases lint hy
    refine op_eq pins s σ H _ _ v u Q I rx ry ⟨rfl, ?_⟩
    have q2 := q _ _ (.refl H) m dbl
    rw [Bool.xor_false] at q2
    have e : decide (V.int i = V.int j) = decide (i = j) := by rw [dec_int, Bool.beq_eq_decide_eq]
    rw [e]; exact q2
  · rename_i i j
    cases lstr hx; cases lstr hy
    refine op_eq pins s σ H _ _ v u Q I rx ry ⟨rfl, ?_⟩
    have q2 := q _ _ (.refl H) m dbl
    rw [Bool.xor_false] at q2
    have e : decide (V.str i = V.str j) = decide (i = j) := by rw [dec_str, Bool.beq_eq_decide_eq]
    rw [e]; exact q2
  · obtain ⟨t, w, h1, h2, h3, h4, q⟩ := q
    have q2 := q _ _ (.refl H) m dbl
    rw [Bool.xor_false] at q2
    exact op_eqD hu pins s σ H x y v u Q I rx ry ⟨t, w, dat_dp m t _ _ h1 hx, dat_dp m w _ _ h2 hy, h3, h4, q2⟩
theorem o_ne (hu : X.A.units + 64 < cLine) : O2 X (compareOp .NotEq) oNe := by
  intro pins s σ H x y v u Q I rx ry h
  obtain ⟨dx, dy, M, hx, hy, m, q⟩ := h
  dsimp only [oNe, oEqN] at q
  split at q
  · rename_i i j
    cases lint hx; cases lint hy
    refine op_ne pins s σ H _ _ v u Q I rx ry ⟨rfl, ?_⟩
    have q2 := q _ _ (.refl H) m dbl
    rw [Bool.xor_true] at q2
    have e : decide (V.int i = V.int j) = decide (i = j) := by rw [dec_int, Bool.beq_eq_decide_eq]
    rw [e]; exact q2
  · rename_i i j
    cases lstr hx; cases lstr hy
    refine op_ne pins s σ H _ _ v u Q I rx ry ⟨rfl, ?_⟩
    have q2 := q _ _ (.refl H) m dbl
    rw [Bool.xor_true] at q2
    have e : decide (V.str i = V.str j) = decide (i = j) := by rw [dec_str, Bool.beq_eq_decide_eq]
    rw [e]; exact q2
  · obtain ⟨t, w, h1, h2, h3, h4, q⟩ := q
    have q2 := q _ _ (.refl H) m dbl
    rw [Bool.xor_true] at q2
    exact op_neD hu pins s σ H x y v u Q I rx ry ⟨t, w, dat_dp m t _ _ h1 hx, dat_dp m w _ _ h2 hy, h3, h4, q2⟩
end
/-- order of ints -/
def oOrd (p : Int → Int → Bool) : DO2 where
  run x y M Q := match x, y with
    | .int i, .int j => Q (.bl (p i j)) M
    | _, _ => False
  mono {x y M Q Q'} h k := by
    revert h
    split <;> intro h <;> first | exact k _ _ h | exact h
abbrev oLt : DO2 := oOrd fun i j => decide (i < j)
abbrev oLe : DO2 := oOrd fun i j => decide (i ≤ j)
abbrev oGt : DO2 := oOrd fun i j => decide (j < i)
abbrev oGe : DO2 := oOrd fun i j => decide (j ≤ i)
section
variable {X : Cx}
theorem o_ord {op : CmpOp} {p : Int → Int → Bool} (h0 : OpR X (compareOp op) (rI0 fun i j => .bl (p i j))) : O2 X (compareOp op) (oOrd p) := by
  intro pins s σ H x y v u Q I rx ry h
  obtain ⟨dx, dy, M, hx, hy, m, q⟩ := h
  dsimp only [oOrd] at q
  split at q
  · rename_i i j
    cases lint hx; cases lint hy
    exact h0 pins s σ H _ _ v u Q I rx ry ⟨i, j, rfl, rfl, q _ _ (.refl H) m dbl⟩
  · exact q.elim
theorem o_lt : O2 X (compareOp .Lt) oLt := o_ord op_lt
theorem o_le : O2 X (compareOp .LtE) oLe := o_ord op_le
theorem o_gt : O2 X (compareOp .Gt) oGt := o_ord op_gt
theorem o_ge : O2 X (compareOp .GtE) oGe := o_ord op_ge
end
/-- x is None -/
def isNon : D → Bool
  | .non => true
  | _ => false
def oIsN (neg : Bool) : DO2 where
  run x y M Q := match y with
    | .non => Q (.bl (isNon x ^^ neg)) M
    | _ => False
  mono {x y M Q Q'} h k := by
    revert h
    split <;> intro h <;> first | exact k _ _ h | exact h
theorem isNon_eq {K : PySem.W.Frag} {H : Hp} {v : V} {d : D} (h : den K H v d) : decide (v = .non) = isNon d := by
  cases d with
  | non => rw [den] at h; subst h; rfl
  | bl b => rw [den] at h; subst h; rfl
  | int i => rw [den] at h; subst h; rfl
  | str i => rw [den] at h; subst h; rfl
  | ref i => rw [den] at h; subst h; rfl
  | ty i => rw [den] at h; subst h; rfl
  | tup ds => rw [den] at h; obtain ⟨a, vs, e, _⟩ := h; subst e; rfl
  | lst ds => rw [den] at h; obtain ⟨a, vs, e, _⟩ := h; subst e; rfl
  | dct ds => rw [den] at h; obtain ⟨a, o, vs, e, _⟩ := h; subst e; rfl
section
variable {X : Cx}
theorem o_is : O2 X (compareOp .Is) (oIsN false) := by
  intro pins s σ H x y v u Q I rx ry h
  obtain ⟨dx, dy, M, hx, hy, m, q⟩ := h
  dsimp only [oIsN] at q
  split at q
  · rw [den] at hy; subst hy
    have q2 := q _ _ (.refl H) m dbl
    rw [Bool.xor_false, ← isNon_eq hx] at q2
    exact op_isN pins s σ H x _ v u Q I rx ry ⟨rfl, q2⟩
  · exact q.elim
theorem o_isn : O2 X (compareOp .IsNot) (oIsN true) := by
  intro pins s σ H x y v u Q I rx ry h
  obtain ⟨dx, dy, M, hx, hy, m, q⟩ := h
  dsimp only [oIsN] at q
  split at q
  · rw [den] at hy; subst hy
    have q2 := q _ _ (.refl H) m dbl
    rw [Bool.xor_true, ← isNon_eq hx] at q2
    exact op_notN pins s σ H x _ v u Q I rx ry ⟨rfl, q2⟩
  · exact q.elim
end
end LD

/-! LD2: tests, subscripts, built-in calls -/
namespace LD
open PySem PySem.Spec PyProof.Rows L2

/-- by the answer -/
def bcase (c : Bool) (A B : Prop) : Prop := match c with | true => A | false => B
theorem bcase_mono {c : Bool} {A B A' B' : Prop} (h : bcase c A B) (ha : A → A') (hb : B → B') : bcase c A' B' := by
  cases c
  · exact hb h
  · exact ha h
theorem bcase_of {c : Bool} {A B : Prop} (ha : c = true → A) (hb : c = false → B) : bcase c A B := by
  cases c
  · exact hb rfl
  · exact ha rfl
theorem bcase_t {c : Bool} {A B : Prop} (h : c = true) (a : A) : bcase c A B := by subst h; exact a
theorem bcase_f {c : Bool} {A B : Prop} (h : c = false) (a : B) : bcase c A B := by subst h; exact a
theorem bcase_dec {p : Prop} [Decidable p] {A B : Prop} (ha : p → A) (hb : ¬ p → B) : bcase (decide p) A B := bcase_of (fun e => ha (of_decide_eq_true e)) fun e => hb (of_decide_eq_false e)
theorem bcase_if {c : Bool} {A B : Prop} (h : bcase c A B) : if c = true then A else B := by
  cases c
  · rw [if_neg Bool.false_ne_true]; exact h
  · rw [if_pos rfl]; exact h

/-! ### and, or, not -/
def dAndT (a b : DT) : DT where
  run δ M Q := a.run δ M fun c M1 => bcase c (b.run δ M1 Q) (Q false M1)
  mono h k := a.mono h fun c M1 q => bcase_mono q (fun q => b.mono q k) (k _ _)
def dOrT (a b : DT) : DT where
  run δ M Q := a.run δ M fun c M1 => bcase c (Q true M1) (b.run δ M1 Q)
  mono h k := a.mono h fun c M1 q => bcase_mono q (k _ _) (fun q => b.mono q k)
def dNotT (a : DT) : DT where
  run δ M Q := a.run δ M fun c M1 => Q (!c) M1
  mono h k := a.mono h fun c M1 q => k _ _ q
def dAndV (a b : DE) : DE where
  run δ M Q := a.run δ M fun d M1 => match d with | .bl c => bcase c (b.run δ M1 Q) (Q (.bl false) M1) | _ => False
  mono h k := a.mono h fun d M1 q => by
    revert q; split <;> intro q
    · exact bcase_mono q (fun q => b.mono q k) (k _ _)
    · exact q
def dOrV (a b : DE) : DE where
  run δ M Q := a.run δ M fun d M1 => match d with | .bl c => bcase c (Q (.bl true) M1) (b.run δ M1 Q) | _ => False
  mono h k := a.mono h fun d M1 q => by
    revert q; split <;> intro q
    · exact bcase_mono q (k _ _) (fun q => b.mono q k)
    · exact q
def dNotV (a : DE) : DE where
  run δ M Q := a.run δ M fun d M1 => match d with | .bl c => Q (.bl (!c)) M1 | _ => False
  mono h k := a.mono h fun d M1 q => by
    revert q; split <;> intro q
    · exact k _ _ q
    · exact q
def dIf (c : DT) (a b : DE) : DE where
  run δ M Q := c.run δ M fun k M1 => bcase k (a.run δ M1 Q) (b.run δ M1 Q)
  mono h k := c.mono h fun c M1 q => bcase_mono q (fun q => a.mono q k) (fun q => b.mono q k)
def dChain (r r' : DO2) (a b c : DE) : DE where
  run δ M Q := a.run δ M fun x M1 => b.run δ M1 fun y M2 => r.run x y M2 fun z M3 => match z with
    | .bl k => bcase k (c.run δ M3 fun w M4 => r'.run y w M4 Q) (Q (.bl false) M3)
    | _ => False
  mono h k := a.mono h fun x M1 q => b.mono q fun y M2 q => r.mono q fun z M3 q => by
    revert q; split <;> intro q
    · exact bcase_mono q (fun q => c.mono q fun w M4 q => r'.mono q k) (k _ _)
    · exact q
section
variable {X : Cx} {a b c : Expr} {ta tb : DT} {va vb vc : DE} {pos : Pos} {rest : List Expr}
theorem lT_ext {K : PySem.W.Frag} {H H' : Hp} {Q : Bool → Hp → Prop} (x : Ext H H') {b : Bool} {M : DM} (h : ∀ H2, Ext H H2 → MRel K H2 M → Q b H2) : ∀ H2, Ext H' H2 → MRel K H2 M → Q b H2 := fun H2 x2 m => h H2 (x.trans x2) m
theorem qw_and1 (ha : QT X a ta) : QW X (.BoolOp .And [a] pos) ta := pw_and1 ha
theorem qw_or1 (ha : QT X a ta) : QW X (.BoolOp .Or [a] pos) ta := pw_or1 ha
theorem qw_and (ha : QT X a ta) (hb : QW X (.BoolOp .And (b :: rest) pos) tb) : QW X (.BoolOp .And (a :: b :: rest) pos) (dAndT ta tb) := by
  refine PW.imp (pw_and ha hb) fun σ H Q q => ?_
  obtain ⟨δ, M, s, m, q⟩ := q
  refine lT_step s m q fun c M1 H1 x1 m1 q1 => bcase_if ?_
  exact bcase_mono q1 (fun q => ⟨δ, M1, s.ext x1, m1, tb.mono q fun _ _ h => lT_ext x1 h⟩) fun q => q H1 x1 m1
theorem qw_or (ha : QT X a ta) (hb : QW X (.BoolOp .Or (b :: rest) pos) tb) : QW X (.BoolOp .Or (a :: b :: rest) pos) (dOrT ta tb) := by
  refine PW.imp (pw_or ha hb) fun σ H Q q => ?_
  obtain ⟨δ, M, s, m, q⟩ := q
  refine lT_step s m q fun c M1 H1 x1 m1 q1 => bcase_if ?_
  exact bcase_mono q1 (fun q => q H1 x1 m1) fun q => ⟨δ, M1, s.ext x1, m1, tb.mono q fun _ _ h => lT_ext x1 h⟩
theorem qt_not (ha : QT X a ta) : QT X (.UnaryOp .Not a pos) (dNotT ta) := by
  refine PT.imp (pt_not ha) fun σ H Q q => ?_
  obtain ⟨δ, M, s, m, q⟩ := q
  exact lT_step s m q fun c M1 H1 x1 m1 q1 => q1 H1 x1 m1
/-- a test whose value is a bool, any expression but comparisons, and, or, not -/
theorem qt_val (h : QE X a va) (he : ∀ whole, isTrue a X.env whole = (do let v ← whole; standAt a.pos; holding [v] (truthy v)) := by intro _; rfl) : QT X a (dTB va) := by
  refine PT.imp (pt_val h he) fun σ H Q q => ?_
  obtain ⟨δ, M, s, m, q⟩ := q
  refine lE_step s m q fun d M1 v H1 x1 m1 d1 q1 => ?_
  revert q1; split <;> intro q1
  · exact ⟨_, lbl d1, q1 H1 x1 m1⟩
  · exact q1.elim
theorem qe_one {op} (h : QE X a va) : QE X (.BoolOp op [a] pos) va := pe_one h
theorem qe_and (ha : QE X a va) (hb : QE X (.BoolOp .And (b :: rest) pos) vb) : QE X (.BoolOp .And (a :: b :: rest) pos) (dAndV va vb) := by
  refine PE.imp (pe_and ha hb) fun σ H Q q => ?_
  obtain ⟨δ, M, s, m, q⟩ := q
  refine lE_step s m q fun d M1 v H1 x1 m1 d1 q1 => ?_
  revert q1; split <;> intro q1
  · exact ⟨_, lbl d1, bcase_if (bcase_mono q1 (fun q => ⟨δ, M1, s.ext x1, m1, vb.mono q fun _ _ h => lQ_ext x1 h⟩) fun q => q _ _ x1 m1 dbl)⟩
  · exact q1.elim
theorem qe_or (ha : QE X a va) (hb : QE X (.BoolOp .Or (b :: rest) pos) vb) : QE X (.BoolOp .Or (a :: b :: rest) pos) (dOrV va vb) := by
  refine PE.imp (pe_or ha hb) fun σ H Q q => ?_
  obtain ⟨δ, M, s, m, q⟩ := q
  refine lE_step s m q fun d M1 v H1 x1 m1 d1 q1 => ?_
  revert q1; split <;> intro q1
  · exact ⟨_, lbl d1, bcase_if (bcase_mono q1 (fun q => q _ _ x1 m1 dbl) fun q => ⟨δ, M1, s.ext x1, m1, vb.mono q fun _ _ h => lQ_ext x1 h⟩)⟩
  · exact q1.elim
theorem qe_not (ha : QE X a va) : QE X (.UnaryOp .Not a pos) (dNotV va) := by
  refine PE.imp (pe_not ha) fun σ H Q q => ?_
  obtain ⟨δ, M, s, m, q⟩ := q
  refine lE_step s m q fun d M1 v H1 x1 m1 d1 q1 => ?_
  revert q1; split <;> intro q1
  · exact ⟨_, lbl d1, q1 _ _ x1 m1 dbl⟩
  · exact q1.elim
theorem qe_if (hc : QT X c ta) (ha : QE X a va) (hb : QE X b vb) : QE X (.IfExp c a b pos) (dIf ta va vb) := by
  refine PE.imp (pe_ifExp hc ha hb) fun σ H Q q => ?_
  obtain ⟨δ, M, s, m, q⟩ := q
  refine lT_step s m q fun c M1 H1 x1 m1 q1 => bcase_if ?_
  exact bcase_mono q1 (fun q => ⟨δ, M1, s.ext x1, m1, va.mono q fun _ _ h => lQ_ext x1 h⟩) fun q => ⟨δ, M1, s.ext x1, m1, vb.mono q fun _ _ h => lQ_ext x1 h⟩
theorem lChain {K : PySem.W.Frag} {r r' : DO2} {σ : L2.St} {H : Hp} {Q : VK} (q : lE K (dChain r r' va vb vc) σ H Q) : tChain (l2 K r) (l2 K r') (lE K va) (lE K vb) (lE K vc) σ H Q := by
  obtain ⟨δ, M, s, m, q⟩ := q
  refine lE_step s m q fun d M1 v H1 x1 m1 d1 q1 => ?_
  refine lE_step (s.ext x1) m1 q1 fun e M2 w H2 x2 m2 d2 q2 => ?_
  refine ⟨d, e, M2, den_ext x2 _ _ d1, d2, m2, r.mono q2 fun z M3 q3 v3 H3 x3 m3 d3 => ?_⟩
  revert q3; split <;> intro q3
  · refine ⟨_, lbl d3, bcase_if (bcase_mono q3 (fun q => ?_) fun q => q _ _ ((x1.trans x2).trans x3) m3 dbl)⟩
    refine lE_step (s.ext ((x1.trans x2).trans x3)) m3 q fun f M4 v4 H4 x4 m4 d4 q4 => ?_
    exact ⟨e, f, M4, den_ext (x3.trans x4) _ _ d2, d4, m4, r'.mono q4 fun _ _ h => lQ_ext (((x1.trans x2).trans x3).trans x4) h⟩
  · exact q3.elim
theorem qe_chain {op op' : CmpOp} {r r' : DO2} (ho : O2 X (compareOp op) r) (ho' : O2 X (compareOp op') r') (ha : QE X a va) (hb : QE X b vb) (hc : QE X c vc)
    (hm : lastMarks [op, op'] [b, c] = false := by with_unfolding_all rfl) : QE X (.Compare a [op, op'] [b, c] pos) (dChain r r' va vb vc) :=
  PE.imp (pe_chain ho ho' ha hb hc hm) fun _ _ _ q => lChain q
theorem qt_chain {op op' : CmpOp} {r r' : DO2} (ho : O2 X (compareOp op) r) (ho' : O2 X (compareOp op') r') (ha : QE X a va) (hb : QE X b vb) (hc : QE X c vc)
    (hm : lastMarks [op, op'] [b, c] = false := by with_unfolding_all rfl) : QT X (.Compare a [op, op'] [b, c] pos) (dTB (dChain r r' va vb vc)) := by
  refine PT.imp (pt_chain ho ho' ha hb hc hm) fun σ H Q q => ?_
  obtain ⟨δ, M, s, m, q⟩ := q
  refine lChain (Q := fun x H' => ∃ k, x = .bl k ∧ Q k H') ⟨δ, M, s, m, (dChain r r' va vb vc).mono q fun d M1 q v H1 x1 m1 d1 => ?_⟩
  revert q; split <;> intro q
  · exact ⟨_, lbl d1, q H1 x1 m1⟩
  · exact q.elim
end

/-! ### subscripts -/
theorem atI_dens {K : PySem.W.Frag} {H : Hp} {vs : List V} {ds : List D} {i : Int} {d : D} (h : dens K H vs ds) (e : atI ds i = some d) : ∃ v, atI vs i = some v ∧ den K H v d := by
  unfold atI at e ⊢
  rw [dens_length h]
  cases q : ixN ds.length i with
  | none => rw [q] at e; cases e
  | some j =>
    rw [q] at e
    exact dens_get (i := j) h e
def oIx : DO2 where
  run x y M Q := match x, y with
    | .str z, .int i => ∃ c, z.length ≤ sizeLine ∧ atI z.cps.toList i = some c ∧ Q (.str ⟨#[c]⟩) M
    | x, .int i => ∃ ds d, isSeq M x ds ∧ atI ds i = some d ∧ Q d M
    | _, _ => False
  mono {x y M Q Q'} h k := by
    revert h
    split <;> intro h
    · obtain ⟨c, h1, h2, h3⟩ := h; exact ⟨c, h1, h2, k _ _ h3⟩
    · obtain ⟨ds, d, h1, h2, h3⟩ := h; exact ⟨ds, d, h1, h2, k _ _ h3⟩
    · exact h
section
variable {X : Cx} {a b : Expr} {ta tb : DE} {pos : Pos}
theorem ix_d : IxR X (l2 X.K oIx) := by
  intro value slice pins s σ H x y v u Q I rx ry h hs
  obtain ⟨dx, dy, M, hx, hy, m, q⟩ := h
  dsimp only [oIx] at q
  split at q
  · cases lstr hx; cases lint hy
    obtain ⟨c, h1, h2, h3⟩ := q
    exact ix_str value slice pins s σ H _ _ v u Q I rx ry ⟨_, _, c, rfl, rfl, h1, h2, h3 _ _ (.refl H) m dstr⟩ hs
  · cases lint hy
    obtain ⟨ds, d, h1, h2, h3⟩ := q
    obtain ⟨p, vs, rfl, hq, dv⟩ := isSeq_sq m hx h1
    obtain ⟨w, h4, h5⟩ := atI_dens dv h2
    rcases hq with hq | hq
    · exact ix_list value slice pins s σ H _ _ v u Q I rx ry ⟨p, vs, _, w, rfl, rfl, hq, h4, h3 _ _ (.refl H) m h5⟩ hs
    · exact ix_tup value slice pins s σ H _ _ v u Q I rx ry ⟨p, vs, _, w, rfl, rfl, hq, h4, h3 _ _ (.refl H) m h5⟩ hs
  · exact q.elim
theorem qe_ix (ha : QE X a ta) (hb : QE X b tb) (hs : PlainIx b) : QE X (.Subscript a b pos) (dOp oIx ta tb) :=
  PE.imp (pe_ix ix_d ha hb hs) fun _ _ _ q => lOp q
end
/-- what a slice cuts out -/
def cutD {α : Type} (xs : List α) (lo hi : Option Int) : List α := (xs.drop (HT.sIx xs.length 0 lo)).take (HT.sIx xs.length xs.length hi - HT.sIx xs.length 0 lo)
theorem cutD_V (xs : List V) (lo hi : Option Int) : cutV xs lo hi = cutD xs lo hi := rfl
theorem dens_cut {K : PySem.W.Frag} {H : Hp} {vs : List V} {ds : List D} (lo hi : Option Int) (h : dens K H vs ds) : dens K H (cutV vs lo hi) (cutD ds lo hi) := by
  unfold cutV cutD
  rw [dens_length h]
  exact dens_take _ (dens_drop _ h)
structure DP where
  run : DSt → DM → (Option Int → DM → Prop) → Prop
  mono : ∀ {δ : DSt} {M : DM} {Q Q' : Option Int → DM → Prop}, run δ M Q → (∀ d M', Q d M' → Q' d M') → run δ M Q'
def dNoP : DP := ⟨fun _ M Q => Q none M, fun h k => k _ _ h⟩
def dPart (t : DE) : DP where
  run δ M Q := t.run δ M fun d M1 => match d with | .int i => Q (some i) M1 | _ => False
  mono h k := t.mono h fun d M1 q => by
    revert q; split <;> intro q
    · exact k _ _ q
    · exact q
def lP (K : PySem.W.Frag) (t : DP) : TO := fun σ H Q => ∃ δ M, SRel K H σ δ ∧ MRel K H M ∧ t.run δ M (fun b M' => ∀ H', Ext H H' → MRel K H' M' → Q b H')
def sliceD (x : D) (lo hi : Option Int) (M : DM) (Q : D → DM → Prop) : Prop := match x with
  | .tup ds => Q (.tup (cutD ds lo hi)) M
  | .str z => z.length ≤ sizeLine ∧ Q (.str (cutS z lo hi)) M
  | x => ∃ ds, isL M x ds ∧ ∀ p, M p = none → Q (.ref p) (put M p (.lst (cutD ds lo hi)))
theorem sliceD_mono {x : D} {lo hi : Option Int} {M : DM} {Q Q' : D → DM → Prop} (h : sliceD x lo hi M Q) (k : ∀ d M', Q d M' → Q' d M') : sliceD x lo hi M Q' := by
  unfold sliceD at h ⊢
  revert h
  split <;> intro h
  · exact k _ _ h
  · exact ⟨h.1, k _ _ h.2⟩
  · obtain ⟨ds, h1, h2⟩ := h; exact ⟨ds, h1, fun p hp => k _ _ (h2 p hp)⟩
def dSlice (t : DE) (lo hi : DP) : DE where
  run δ M Q := t.run δ M fun x M1 => lo.run δ M1 fun l M2 => hi.run δ M2 fun h M3 => sliceD x l h M3 Q
  mono h k := t.mono h fun x M1 q => lo.mono q fun l M2 q => hi.mono q fun h M3 q => sliceD_mono q k
def rSl (K : PySem.W.Frag) : V → Option Int → Option Int → Hp → VK → Prop := fun x lo hi H Q => ∃ d M, den K H x d ∧ MRel K H M ∧ sliceD d lo hi M (lQ K H Q)
section
variable {X : Cx} {e : Expr} {lo hi : Option Expr} {t : DE} {tl th : DP} {pos p2 : Pos}
theorem sl_d : SlR X (rSl X.K) := by
  intro pins s σ H x v vl vu lo hi sl Q I rx hs pl pu h
  obtain ⟨d, M, hx, m, q⟩ := h
  unfold sliceD at q
  split at q
  · rw [den] at hx
    obtain ⟨a, vs, rfl, sq, dv⟩ := hx
    refine sl_tupA pins s σ H _ v vl vu lo hi sl Q I rx hs pl pu ⟨a, vs, rfl, sq, fun hw => ?_, fun hw p hp => ?_⟩
    · refine q _ _ (.refl H) m ?_
      rw [den]
      refine ⟨a, vs, rfl, sq, ?_⟩
      have e : vs = cutV vs lo hi := by unfold cutV; rw [hw.1, hw.2]; simp
      rw [e]
      exact dens_cut lo hi dv
    · refine q _ _ (.new hp) (m.grow hp) ?_
      rw [den]
      exact ⟨p, _, rfl, .of upd_same, dens_ext (.new hp) _ _ (dens_cut lo hi dv)⟩
  · cases lstr hx
    exact sl_str pins s σ H _ v vl vu lo hi sl Q I rx hs pl pu ⟨_, rfl, q.1, q.2 _ _ (.refl H) m dstr⟩
  · obtain ⟨ds, h1, h2⟩ := q
    obtain ⟨a, vs, rfl, sq, dv⟩ := isL_rd m hx h1
    exact sl_list pins s σ H _ v vl vu lo hi sl Q I rx hs pl pu ⟨a, vs, rfl, sq, fun p hp => h2 p (m.free hp) _ _ (.new hp) (m.new hp ⟨_, upd_same, dens_ext (.new hp) _ _ (dens_cut lo hi dv)⟩) dref⟩
theorem qo_none : PO X none (lP X.K dNoP) := by
  refine ⟨fun pins s σ H Q I h => po_none.run pins s σ H Q I ?_⟩
  obtain ⟨δ, M, sr, m, q⟩ := h
  exact q H (.refl H) m
theorem qo_some (h : QE X e t) : PO X (some e) (lP X.K (dPart t)) := by
  refine ⟨fun pins s σ H Q I hq => (po_some h).run pins s σ H Q I ?_⟩
  obtain ⟨δ, M, sr, m, q⟩ := hq
  refine lE_step sr m q fun d M1 v H1 x1 m1 d1 q1 => ?_
  revert q1; split <;> intro q1
  · exact ⟨_, lint d1, q1 H1 x1 m1⟩
  · exact q1.elim
theorem qe_slice (he : QE X e t) (hl : PO X lo (lP X.K tl)) (hu : PO X hi (lP X.K th)) : QE X (.Subscript e (.Slice lo hi none p2) pos) (dSlice t tl th) := by
  refine PE.imp (pe_slice sl_d he hl hu) fun σ H Q q => ?_
  obtain ⟨δ, M, s, m, q⟩ := q
  refine lE_step s m q fun d M1 v H1 x1 m1 d1 q1 => ?_
  refine ⟨δ, M1, s.ext x1, m1, tl.mono q1 fun l M2 q2 H2 x2 m2 => ?_⟩
  refine ⟨δ, M2, s.ext (x1.trans x2), m2, th.mono q2 fun u M3 q3 H3 x3 m3 => ?_⟩
  exact ⟨d, M3, den_ext (x2.trans x3) _ _ d1, m3, sliceD_mono q3 fun _ _ h => lQ_ext ((x1.trans x2).trans x3) h⟩
end

/-! ### built-ins by values -/
structure DC where
  run : List D → DM → (D → DM → Prop) → Prop
  mono : ∀ {xs : List D} {M : DM} {Q Q' : D → DM → Prop}, run xs M Q → (∀ d M', Q d M' → Q' d M') → run xs M Q'
def lC (K : PySem.W.Frag) (r : DC) : List V → Hp → VK → Prop := fun vs H Q => ∃ ds M, dens K H vs ds ∧ MRel K H M ∧ r.run ds M (lQ K H Q)
abbrev OC (X : Cx) (f : Value) (r : DC) : Prop := CallR X f (lC X.K r)
def dCB (r : DC) (t : DA) : DE where
  run δ M Q := t.run δ M fun ds M1 => r.run ds M1 Q
  mono h k := t.mono h fun ds M1 q => r.mono q k
theorem lCB {K : PySem.W.Frag} {r : DC} {t : DA} {σ : L2.St} {H : Hp} {Q : VK} (q : lE K (dCB r t) σ H Q) : tCB (lC K r) (lA K t) σ H Q := by
  obtain ⟨δ, M, s, m, q⟩ := q
  refine lA_step s m q fun ds M1 vs H1 x1 m1 d1 q1 => ?_
  exact ⟨ds, M1, d1, m1, r.mono q1 fun _ _ h => lQ_ext x1 h⟩
section
variable {X : Cx} {x : Str} {p pos : Pos} {e : Expr} {es : List Expr} {t : DA} {id T : String} {r : DC}
theorem qe_callB (hc : OC X (.builtin id) r) (hg : Gl X x) (hm : X.mg x = none) (hv : bootBuiltins x = some (.builtin id)) (ha : QA X (e :: es) t) (hn : x ≠ "__name__" := by decide) (hdb : (x == ("__debug__" : Str)) = false := by decide)
    (he : starEach (e :: es) X.env = (false, eval e X.env) :: starEach es X.env := by rfl) (hpl : (backTo pos (starEach es X.env)).any (·.1) = false := by rfl) : QE X (.Call (.Name x p) (e :: es) [] pos) (dCB r t) :=
  PE.imp (pe_callB hc hg hm hv ha hn hdb he hpl) fun _ _ _ q => lCB q
theorem qe_callTy (hc : OC X (.type T) r) (hg : Gl X x) (hm : X.mg x = none) (hv : bootBuiltins x = some (.type T)) (ha : QA X (e :: es) t) (hn : x ≠ "__name__" := by decide) (hdb : (x == ("__debug__" : Str)) = false := by decide)
    (he : starEach (e :: es) X.env = (false, eval e X.env) :: starEach es X.env := by rfl) (hpl : (backTo pos (starEach es X.env)).any (·.1) = false := by rfl) : QE X (.Call (.Name x p) (e :: es) [] pos) (dCB r t) :=
  PE.imp (pe_callTy hc hg hm hv ha hn hdb he hpl) fun _ _ _ q => lCB q
end
theorem dens1 {K : PySem.W.Frag} {H : Hp} {vs : List V} {d : D} (h : dens K H vs [d]) : ∃ v, vs = [v] ∧ den K H v d := by
  rw [dens] at h
  obtain ⟨v, r, e, h1, h2⟩ := h
  rw [dens] at h2
  subst h2 e
  exact ⟨v, rfl, h1⟩
theorem dens2 {K : PySem.W.Frag} {H : Hp} {vs : List V} {d d' : D} (h : dens K H vs [d, d']) : ∃ v w, vs = [v, w] ∧ den K H v d ∧ den K H w d' := by
  rw [dens] at h
  obtain ⟨v, r, e, h1, h2⟩ := h
  obtain ⟨w, e2, h3⟩ := dens1 h2
  subst e2 e
  exact ⟨v, w, rfl, h1, h3⟩
/-- len -/
def rLen : DC where
  run xs M Q := match xs with
    | [.str z] => z.length ≤ sizeLine ∧ Q (.int z.length) M
    | [.tup ds] => Q (.int ds.length) M
    | [.lst ds] => Q (.int ds.length) M
    | [.ref p] => ∃ ds, isL M (.ref p) ds ∧ Q (.int ds.length) M
    | _ => False
  mono {xs M Q Q'} h k := by
    revert h
    split <;> intro h
    · exact ⟨h.1, k _ _ h.2⟩
    · exact k _ _ h
    · exact k _ _ h
    · obtain ⟨ds, h1, h2⟩ := h; exact ⟨ds, h1, k _ _ h2⟩
    · exact h
def rAbs : DC where
  run xs M Q := match xs with
    | [.int i] => Q (.int (i.natAbs : Int)) M
    | _ => False
  mono {xs M Q Q'} h k := by
    revert h
    split <;> intro h
    · exact k _ _ h
    · exact h
def rInt : DC where
  run xs M Q := match xs with
    | [.int i] => Q (.int i) M
    | [.bl b] => Q (.int (b2i b)) M
    | _ => False
  mono {xs M Q Q'} h k := by
    revert h
    split <;> intro h
    · exact k _ _ h
    · exact k _ _ h
    · exact h
def rList : DC where
  run xs M Q := match xs with
    | [x] => ∃ ds, isSeq M x ds ∧ ∀ p, M p = none → Q (.ref p) (put M p (.lst ds))
    | _ => False
  mono {xs M Q Q'} h k := by
    revert h
    split <;> intro h
    · obtain ⟨ds, h1, h2⟩ := h; exact ⟨ds, h1, fun p hp => k _ _ (h2 p hp)⟩
    · exact h
def rTuple : DC where
  run xs M Q := match xs with
    | [x] => ∃ ds, isSeq M x ds ∧ Q (.tup ds) M
    | _ => False
  mono {xs M Q Q'} h k := by
    revert h
    split <;> intro h
    · obtain ⟨ds, h1, h2⟩ := h; exact ⟨ds, h1, k _ _ h2⟩
    · exact h
section
variable {X : Cx}
theorem c_len : OC X (.builtin "len") rLen := by
  intro pins s σ H vs us Q I r h
  obtain ⟨ds, M, hd, m, q⟩ := h
  dsimp only [rLen] at q
  split at q
  · obtain ⟨v, rfl, d1⟩ := dens1 hd
    cases lstr d1
    exact call_len_str pins s σ H _ us Q I r ⟨_, rfl, q.1, q.2 _ _ (.refl H) m dint⟩
  · obtain ⟨v, rfl, d1⟩ := dens1 hd
    rw [den] at d1
    obtain ⟨a, ws, rfl, sq, dv⟩ := d1
    rw [← dens_length dv] at q
    exact call_len_seq pins s σ H _ us Q I r ⟨a, ws, rfl, .inr sq, q _ _ (.refl H) m dint⟩
  · obtain ⟨v, rfl, d1⟩ := dens1 hd
    rw [den] at d1
    obtain ⟨a, ws, rfl, sq, dv⟩ := d1
    rw [← dens_length dv] at q
    exact call_len_seq pins s σ H _ us Q I r ⟨a, ws, rfl, .inl sq.sq, q _ _ (.refl H) m dint⟩
  · obtain ⟨v, rfl, d1⟩ := dens1 hd
    obtain ⟨es, h1, q⟩ := q
    obtain ⟨a, ws, rfl, sq, dv⟩ := isL_rd m d1 h1
    rw [← dens_length dv] at q
    exact call_len_seq pins s σ H _ us Q I r ⟨a, ws, rfl, .inl sq, q _ _ (.refl H) m dint⟩
  · exact q.elim
theorem c_abs : OC X (.builtin "abs") rAbs := by
  intro pins s σ H vs us Q I r h
  obtain ⟨ds, M, hd, m, q⟩ := h
  dsimp only [rAbs] at q
  split at q
  · obtain ⟨v, rfl, d1⟩ := dens1 hd
    cases lint d1
    rename_i i
    have e : (i.natAbs : Int) = if i < 0 then -i else i := by split <;> omega
    rw [e] at q
    exact call_abs pins s σ H _ us Q I r ⟨i, rfl, q _ _ (.refl H) m dint⟩
  · exact q.elim
theorem c_int : OC X (.type "int") rInt := by
  intro pins s σ H vs us Q I r h
  obtain ⟨ds, M, hd, m, q⟩ := h
  dsimp only [rInt] at q
  split at q
  · obtain ⟨v, rfl, d1⟩ := dens1 hd
    cases lint d1
    exact call_int1 pins s σ H _ us Q I r (.inl ⟨_, rfl, q _ _ (.refl H) m dint⟩)
  · obtain ⟨v, rfl, d1⟩ := dens1 hd
    cases lbl d1
    rename_i b
    refine call_int1 pins s σ H _ us Q I r (.inr ⟨b, rfl, ?_⟩)
    have e : (if b = true then (1 : Int) else 0) = b2i b := by cases b <;> rfl
    rw [e]
    exact q _ _ (.refl H) m dint
  · exact q.elim
theorem c_list : OC X (.type "list") rList := by
  intro pins s σ H vs us Q I r h
  obtain ⟨ds, M, hd, m, q⟩ := h
  dsimp only [rList] at q
  split at q
  · obtain ⟨v, rfl, d1⟩ := dens1 hd
    obtain ⟨es, h1, q⟩ := q
    obtain ⟨a, ws, rfl, sq, dv⟩ := isSeq_sq m d1 h1
    exact call_list_of pins s σ H _ us Q I r ⟨a, ws, rfl, sq, fun p hp => q p (m.free hp) _ _ (.new hp) (m.new hp ⟨_, upd_same, dens_ext (.new hp) _ _ dv⟩) dref⟩
  · exact q.elim
theorem c_tuple : OC X (.type "tuple") rTuple := by
  intro pins s σ H vs us Q I r h
  obtain ⟨ds, M, hd, m, q⟩ := h
  dsimp only [rTuple] at q
  split at q
  · obtain ⟨v, rfl, d1⟩ := dens1 hd
    obtain ⟨es, h1, q⟩ := q
    obtain ⟨a, ws, rfl, sq, dv⟩ := isSeq_sq m d1 h1
    refine call_tuple_of pins s σ H _ us Q I r ⟨a, ws, rfl, ?_⟩
    rcases sq with sq | sq
    · refine .inl ⟨sq, fun p hp => q _ _ (.new hp) (m.grow hp) ?_⟩
      rw [den]
      exact ⟨p, _, rfl, .of upd_same, dens_ext (.new hp) _ _ dv⟩
    · refine .inr ⟨sq, q _ _ (.refl H) m ?_⟩
      rw [den]
      exact ⟨a, ws, rfl, sq, dv⟩
  · exact q.elim
end

/-! ### isinstance -/
inductive Ty where
  | none | bool | int | str | tuple | list | dict
  deriving DecidableEq
def Ty.name : Ty → String
  | .none => "NoneType" | .bool => "bool" | .int => "int" | .str => "str" | .tuple => "tuple" | .list => "list" | .dict => "dict"
def isi (a b : Ty) : Bool := match a, b with
  | .bool, .int => true
  | .none, .none => true | .bool, .bool => true | .int, .int => true | .str, .str => true | .tuple, .tuple => true | .list, .list => true | .dict, .dict => true
  | _, _ => false
theorem kitB_isi (a b : Ty) : kitB a.name b.name = some (isi a b) := by
  cases a <;> cases b <;> decide +kernel
/-- the type of a value -/
def tyQ (d : D) (M : DM) (Q : Ty → Prop) : Prop := match d with
  | .non => Q .none
  | .bl _ => Q .bool
  | .int _ => Q .int
  | .str _ => Q .str
  | .tup _ => Q .tuple
  | .lst _ => Q .list
  | .dct _ => Q .dict
  | .ref p => (∃ ds, isL M (.ref p) ds ∧ Q .list) ∨ ∃ kvs, M p = some (.dct kvs) ∧ Q .dict
  | .ty _ => False
theorem tyQ_mono {d : D} {M : DM} {Q Q' : Ty → Prop} (h : tyQ d M Q) (k : ∀ t, Q t → Q' t) : tyQ d M Q' := by
  unfold tyQ at h ⊢
  revert h
  split <;> intro h <;> first
    | exact k _ h
    | exact h.elim (fun ⟨ds, h1, h2⟩ => .inl ⟨ds, h1, k _ h2⟩) fun ⟨kvs, h1, h2⟩ => .inr ⟨kvs, h1, k _ h2⟩
    | exact h
theorem tyQ_ty {K : PySem.W.Frag} {H : Hp} {M : DM} {v : V} {d : D} {Q : Ty → Prop} (m : MRel K H M) (hd : den K H v d) (h : tyQ d M Q) : ∃ t : Ty, TyX K H v (.type t.name) ∧ Q t := by
  unfold tyQ at h
  split at h
  · rw [den] at hd; subst hd; exact ⟨.none, .base .non, h⟩
  · rw [den] at hd; subst hd; exact ⟨.bool, .base (.bl _), h⟩
  · rw [den] at hd; subst hd; exact ⟨.int, .base (.int _), h⟩
  · rw [den] at hd; subst hd; exact ⟨.str, .base (.str _), h⟩
  · rw [den] at hd
    obtain ⟨a, vs, rfl, sq, _⟩ := hd
    refine ⟨.tuple, ?_, h⟩
    rcases sq with (sq | ⟨o, sq⟩) | ⟨o, its, n, sq, c, _⟩
    · exact .base (.tup sq)
    · exact .fTuple sq
    · exact .kTuple sq c
  · rw [den] at hd
    obtain ⟨a, vs, rfl, sq, _⟩ := hd
    refine ⟨.list, ?_, h⟩
    rcases sq with ⟨o, sq⟩ | ⟨o, its, n, sq, c, _⟩
    · exact .base (.frz sq)
    · exact .kList sq c
  · rw [den] at hd
    obtain ⟨a, o, vs, rfl, sq, _⟩ := hd
    exact ⟨.dict, .fDict sq, h⟩
  · rcases h with ⟨ds, h1, h2⟩ | ⟨kvs, h1, h2⟩
    · obtain ⟨a, vs, rfl, sq, _⟩ := isL_rd m hd h1
      refine ⟨.list, ?_, h2⟩
      rcases sq with (sq | ⟨o, sq⟩) | ⟨o, its, n, sq, c, _⟩
      · exact .base (.lst sq)
      · exact .base (.frz sq)
      · exact .kList sq c
    · rw [den] at hd; subst hd
      obtain ⟨vs, q, _⟩ := m _ _ h1
      exact ⟨.dict, .base (.dK q), h2⟩
  · exact h.elim
def dIsi (c : Ty) (t : DE) : DE where
  run δ M Q := t.run δ M fun d M1 => tyQ d M1 fun T => Q (.bl (isi T c)) M1
  mono h k := t.mono h fun d M1 q => tyQ_mono q fun T q => k _ _ q
section
variable {X : Cx} {a : Expr} {t : DE} {p p2 pos : Pos} {n : Str}
theorem qe_isi (c : Ty) (ha : QE X a t) (hg : Gl X "isinstance") (hm : X.mg "isinstance" = none) (hg2 : Gl X n) (hm2 : X.mg n = none) (hv : bootBuiltins "isinstance" = some (.builtin "isinstance")) (hv2 : bootBuiltins n = some (.type c.name)) (hn : n ≠ "__name__" := by decide) (hdb : (n == ("__debug__" : Str)) = false := by decide)
    (hs1 : starEach [a, .Name n p2] X.env = (false, eval a X.env) :: starEach [.Name n p2] X.env := by rfl) (hs2 : starEach [.Name n p2] X.env = (false, eval (.Name n p2) X.env) :: starEach [] X.env := by rfl) (hpl : (backTo pos (starEach [.Name n p2] X.env)).any (·.1) = false := by rfl) :
    QE X (.Call (.Name "isinstance" p) [a, .Name n p2] [] pos) (dIsi c t) := by
  have hb : PE X (.Name n p2) (tC (.ty c.name)) := pe_bltn hg2 hm2 hv2 rfl hn hdb
  refine PE.imp (pe_callB call_isi hg hm hv (pa_cons ha (pa_cons hb pa_nil hs2) hs1) (by decide) (by decide) hs1 hpl) fun σ H Q q => ?_
  obtain ⟨δ, M, s, m, q⟩ := q
  refine lE_step s m q fun d M1 v H1 x1 m1 d1 q1 => ?_
  obtain ⟨T, h1, h2⟩ := tyQ_ty m1 d1 q1
  exact ⟨v, .ty c.name, _, _, isi T c, rfl, .ty _, h1, kit_ty (kitB_isi T c), h2 _ _ x1 m1 dbl⟩
end
end LD

/-! LD3: frozen objects, statements, loops -/
namespace LD
open PySem PySem.Spec PyProof.Rows L2

/-! ### some objects are never written from here on -/
structure Froz (h : Heap) (H H' : Hp) : Prop where
  at_ : ∀ a, H' a = H a ∨ ∃ u o, H a = some u ∧ Mut (some u) ∧ h.get? a = some o ∧ H' a = some (.frz o u)
theorem Froz.refl {h : Heap} {H : Hp} : Froz h H H := ⟨fun _ => .inl rfl⟩
theorem Froz.same {h : Heap} {H H' : Hp} (f : Froz h H H') {a : Addr} {u : HO} (e : H a = some u) (n : ¬ Mut (some u)) : H' a = some u := by
  rcases f.at_ a with q | ⟨w, o, e2, m, _, _⟩
  · rw [q, e]
  · rw [e] at e2; cases e2; exact (n m).elim
theorem Froz.none {h : Heap} {H H' : Hp} (f : Froz h H H') {a : Addr} (e : H a = none) : H' a = none := by
  rcases f.at_ a with q | ⟨w, o, e2, _⟩
  · rw [q, e]
  · rw [e] at e2; cases e2
theorem Froz.ext {h : Heap} {H H' : Hp} (f : Froz h H H') : Ext H H' := ⟨fun _ _ e => f.same e id, fun _ _ _ e => f.same e id⟩
theorem Froz.trans {h : Heap} {H H1 H2 : Hp} (f : Froz h H H1) (g : Froz h H1 H2) : Froz h H H2 := ⟨fun a => by
  rcases f.at_ a with q | ⟨w, o, e, m, e2, e3⟩
  · rcases g.at_ a with r | ⟨w, o, e, m, e2, e3⟩
    · exact .inl (r.trans q)
    · exact .inr ⟨w, o, q ▸ e, m, e2, e3⟩
  · exact .inr ⟨w, o, e, m, e2, g.same e3 id⟩⟩
theorem Froz.hok {P : Program} {w : World} {h : Heap} {H H' : Hp} (f : Froz h H H') (ok : HOk P w H h) : HOk P w H' h := fun a u e => by
  have st : ∀ v, H a = some v → ObjOk P w H' h a v := fun v hv => (ok a v hv).stay (fun _ _ _ q => q) (fun b q => f.same q id) fun b xs q => f.same q id
  rcases f.at_ a with q | ⟨v, o, e1, _, e2, e3⟩
  · exact st u (q ▸ e)
  · rw [e3] at e; cases e
    exact ⟨e2, st v e1⟩
theorem Froz.inv {X : Cx} {pins : List (Addr × Obj)} {σ : L2.St} {H H' : Hp} {s : Shared} (f : Froz s.heap H H') (I : Inv X pins σ H s) : Inv X pins σ H' s := by
  refine ⟨I.ok, I.os, I.bare, ⟨I.base.keep, I.base.slot, fun b o e n hx => f.none (I.base.free b o e n hx), I.base.there, fun b xs e => f.same (I.base.tups b xs e) id, fun b o u e => f.same (I.base.frzs b o u e) id, fun b ps e => ?_⟩,
    I.loc, I.cell, f.none I.free, fun x c e => f.none (I.freeC x c e), fun p hp => ?_, f.hok I.hok, I.len⟩
  · obtain ⟨more, q⟩ := I.base.tbls b ps e
    exact ⟨more, f.same q id⟩
  · obtain ⟨a1, a2, a3⟩ := I.pin p hp
    exact ⟨a1, f.none a2, a3⟩

/-- the state may be told otherwise -/
def Imp (δ : DSt) (M : DM) (δ' : DSt) (M' : DM) : Prop :=
  ∀ (P : Program) (w : World) (K : PySem.W.Frag) (H : Hp) (h : Heap) (σ : L2.St), HOk P w H h → SRel K H σ δ → MRel K H M → ∃ H', Froz h H H' ∧ SRel K H' σ δ' ∧ MRel K H' M'
def ImpV (vs : List D) (M : DM) (vs' : List D) (M' : DM) : Prop :=
  ∀ (P : Program) (w : World) (K : PySem.W.Frag) (H : Hp) (h : Heap) (us : List V), HOk P w H h → dens K H us vs → MRel K H M → ∃ H', Froz h H H' ∧ dens K H' us vs' ∧ MRel K H' M'
/-- told otherwise, P -/
def Gh (δ : DSt) (M : DM) (P : DSt → DM → Prop) : Prop := ∃ δ' M', Imp δ M δ' M' ∧ P δ' M'
def GhV (vs : List D) (M : DM) (P : List D → DM → Prop) : Prop := ∃ vs' M', ImpV vs M vs' M' ∧ P vs' M'
theorem Imp.refl {δ : DSt} {M : DM} : Imp δ M δ M := fun _ _ _ H _ _ _ s m => ⟨H, .refl, s, m⟩
theorem ImpV.refl {vs : List D} {M : DM} : ImpV vs M vs M := fun _ _ _ H _ _ _ s m => ⟨H, .refl, s, m⟩
theorem Gh.here {δ : DSt} {M : DM} {P : DSt → DM → Prop} (h : P δ M) : Gh δ M P := ⟨δ, M, .refl, h⟩
theorem GhV.here {vs : List D} {M : DM} {P : List D → DM → Prop} (h : P vs M) : GhV vs M P := ⟨vs, M, .refl, h⟩
theorem Gh.mono {δ : DSt} {M : DM} {P P' : DSt → DM → Prop} (h : Gh δ M P) (k : ∀ δ M, P δ M → P' δ M) : Gh δ M P' := let ⟨a, b, c, d⟩ := h; ⟨a, b, c, k _ _ d⟩
theorem GhV.mono {vs : List D} {M : DM} {P P' : List D → DM → Prop} (h : GhV vs M P) (k : ∀ δ M, P δ M → P' δ M) : GhV vs M P' := let ⟨a, b, c, d⟩ := h; ⟨a, b, c, k _ _ d⟩
theorem Imp.trans {δ δ1 δ2 : DSt} {M M1 M2 : DM} (a : Imp δ M δ1 M1) (b : Imp δ1 M1 δ2 M2) : Imp δ M δ2 M2 := fun P w K H h σ ok s m =>
  let ⟨H1, f1, s1, m1⟩ := a P w K H h σ ok s m
  let ⟨H2, f2, s2, m2⟩ := b P w K H1 h σ (f1.hok ok) s1 m1
  ⟨H2, f1.trans f2, s2, m2⟩
theorem Gh.by {δ δ' : DSt} {M M' : DM} {P : DSt → DM → Prop} (a : Imp δ M δ' M') (h : Gh δ' M' P) : Gh δ M P := let ⟨x, y, b, q⟩ := h; ⟨x, y, a.trans b, q⟩
/-- forget a part of the objects -/
theorem Imp.sub {δ : DSt} {M M' : DM} (s : Sub M' M) : Imp δ M δ M' := fun _ _ _ H _ _ _ sr m => ⟨H, .refl, sr, m.sub s⟩
theorem ImpV.sub {δ : List D} {M M' : DM} (s : Sub M' M) : ImpV δ M δ M' := fun _ _ _ H _ _ _ sr m => ⟨H, .refl, sr, m.sub s⟩
/-- the list at p is never written again -/
theorem freeze {P : Program} {w : World} {K : PySem.W.Frag} {H : Hp} {h : Heap} {M : DM} {p : Addr} {ds : List D} (ok : HOk P w H h) (m : MRel K H M) (e : M p = some (.lst ds)) :
    ∃ H', Froz h H H' ∧ MRel K H' (put M p (.rol ds)) ∧ den K H' (.ref p) (.lst ds) := by
  obtain ⟨vs, q, dv⟩ := m p _ e
  obtain ⟨_, its, n, _, eo⟩ := ok p _ q
  have f : Froz h H (upd H p (.frz { cls := .type "list", data := .seq its.toArray n } (.lst vs))) := ⟨fun a => by
    by_cases ha : a = p
    · subst ha; exact .inr ⟨_, _, q, trivial, eo, upd_same⟩
    · exact .inl (upd_ne ha)⟩
  refine ⟨_, f, m.put q trivial ⟨_, vs, upd_same, dens_ext f.ext _ _ dv⟩, ?_⟩
  rw [den]
  exact ⟨p, vs, rfl, .inl ⟨_, upd_same⟩, dens_ext f.ext _ _ dv⟩
theorem Imp.frz {δ : DSt} {M : DM} {p : Addr} {ds : List D} (e : M p = some (.lst ds)) : Imp δ M δ (put M p (.rol ds)) := fun P w K H h σ ok s m =>
  let ⟨H', f, m', _⟩ := freeze ok m e
  ⟨H', f, s.ext f.ext, m'⟩
/-- a frozen list in a slot, told as its items -/
theorem rol_den {K : PySem.W.Frag} {H : Hp} {M : DM} {p : Addr} {ds : List D} (m : MRel K H M) (e : M p = some (.rol ds)) : den K H (.ref p) (.lst ds) := by
  obtain ⟨o, vs, q, dv⟩ := m p _ e
  rw [den]
  exact ⟨p, vs, rfl, .inl ⟨o, q⟩, dv⟩
theorem Imp.view {δ : DSt} {M : DM} {p : Addr} {ds : List D} {i : Nat} (e : M p = some (.rol ds)) (hi : δ[i]? = some (some (.ref p))) : Imp δ M (δ.set i (some (.lst ds))) M := fun P w K H h σ ok s m => by
  refine ⟨H, .refl, ⟨by rw [List.length_set]; exact s.len, fun j d hj => ?_⟩, m⟩
  by_cases hij : i = j
  · subst hij
    have hl : i < δ.length := (List.getElem?_eq_some_iff.mp hi).1
    rw [List.getElem?_set_self hl] at hj
    cases hj
    obtain ⟨v, h1, h2⟩ := s.get i _ hi
    rw [den] at h2
    subst h2
    exact ⟨_, h1, rol_den m e⟩
  · rw [List.getElem?_set_ne hij] at hj
    exact s.get j d hj
/-- the list at p, in the slot i, is frozen -/
theorem Gh.frz {δ : DSt} {M : DM} {P : DSt → DM → Prop} {p : Addr} {ds : List D} (i : Nat) (e : M p = some (.lst ds)) (hi : δ[i]? = some (some (.ref p))) (h : Gh (δ.set i (some (.lst ds))) (put M p (.rol ds)) P) : Gh δ M P :=
  .by (.trans (.frz e) (.view put_same hi)) h
theorem GhV.one {M : DM} {P : List D → DM → Prop} {p : Addr} {ds : List D} (e : M p = some (.lst ds)) (h : P [.lst ds] (put M p (.rol ds))) : GhV [.ref p] M P :=
  ⟨_, _, fun P w K H hp us ok d m => by
    obtain ⟨H', f, m', dn⟩ := freeze ok m e
    obtain ⟨v, e2, d1⟩ := dens1 d
    rw [den] at d1
    subst d1 e2
    exact ⟨H', f, dens_cons dn dens_nil, m'⟩, h⟩

/-! ### readings with such a step behind them -/
def dEnd (t : DS) : DS where
  run E δ M := t.run { E with nx := fun δ' M' => Gh δ' M' E.nx } δ M
  mono h k := t.mono h ⟨fun _ _ q => q.mono k.nx, k.rt, k.bk, k.ct⟩
def dSeq (t u : DS) : DS where
  run E δ M := t.run { E with nx := fun δ' M' => Gh δ' M' (u.run E) } δ M
  mono h k := t.mono h ⟨fun _ _ q => q.mono fun _ _ q => u.mono q k, k.rt, k.bk, k.ct⟩
def dSNil : DS := ⟨fun E δ M => E.nx δ M, fun h k => k.nx _ _ h⟩
/-- a value, told otherwise -/
def dGh (t : DE) : DE where
  run δ M Q := t.run δ M fun d M1 => GhV [d] M1 fun ds M2 => match ds with | [e] => Q e M2 | _ => False
  mono h k := t.mono h fun d M1 q => q.mono fun ds M2 q => by
    revert q; split <;> intro q
    · exact k _ _ q
    · exact q
section
variable {X : Cx}
theorem qss_nil : QSs X [] dSNil := by
  refine PSs.imp pss_nil fun D σ H q => ?_
  obtain ⟨δ, M, s, m, q⟩ := q
  exact q σ H (.refl H) s m
/-- the state behind a statement that went on, told otherwise -/
theorem nx_gh {pins : List (Addr × Obj)} {P : DSt → DM → Prop} {H0 H' : Hp} {δ : DSt} {M : DM} {σ : L2.St} {s : Shared} (I : Inv X pins σ H' s) (x : Ext H0 H') (sr : SRel X.K H' σ δ) (m : MRel X.K H' M) (g : Gh δ M P) :
    ∃ H2 δ2 M2, Inv X pins σ H2 s ∧ Ext H0 H2 ∧ SRel X.K H2 σ δ2 ∧ MRel X.K H2 M2 ∧ P δ2 M2 := by
  obtain ⟨δ2, M2, imp, p⟩ := g
  obtain ⟨H2, f, s2, m2⟩ := imp X.prog X.w X.K H' s.heap σ I.hok sr m
  exact ⟨H2, δ2, M2, f.inv I, x.trans f.ext, s2, m2, p⟩
theorem lEnds_ext {K : PySem.W.Frag} {H H' : Hp} {D : Ends} (x : Ext H H') : (lEnds K H D).Le (lEnds K H' D) :=
  ⟨fun _ _ q σ H2 x2 => q σ H2 (x.trans x2), fun _ _ q v H2 x2 => q v H2 (x.trans x2), fun _ _ q σ H2 x2 => q σ H2 (x.trans x2), fun _ _ q σ H2 x2 => q σ H2 (x.trans x2)⟩
/-- a statement, with D-ends -/
theorem run_s {st : Stmt} {t : DS} (h : QS X st t) {pins : List (Addr × Obj)} {s : Shared} {σ : L2.St} {H : Hp} {δ : DSt} {M : DM} {E : DEnds} (I : Inv X pins σ H s) (sr : SRel X.K H σ δ) (m : MRel X.K H M) (q : t.run E δ M) :
    wpAny (model X.prog X.w) X.A (exec st X.env) (fun f s' => match f with
      | .next => ∃ σ' H' δ' M', Inv X pins σ' H' s' ∧ Ext H H' ∧ SRel X.K H' σ' δ' ∧ MRel X.K H' M' ∧ E.nx δ' M'
      | .brk => ∃ σ' H' δ' M', Inv X pins σ' H' s' ∧ Ext H H' ∧ SRel X.K H' σ' δ' ∧ MRel X.K H' M' ∧ E.bk δ' M'
      | .cont => ∃ σ' H' δ' M', Inv X pins σ' H' s' ∧ Ext H H' ∧ SRel X.K H' σ' δ' ∧ MRel X.K H' M' ∧ E.ct δ' M'
      | .ret u => ∃ v d σ' H' M', Inv X pins σ' H' s' ∧ Ext H H' ∧ MRel X.K H' M' ∧ L2.RelV v u ∧ den X.K H' v d ∧ E.rt d M') X.xe s := by
  let D : Ends :=
    { nx := fun σ' H' => (∃ δ' M', Ext H H' ∧ SRel X.K H' σ' δ' ∧ MRel X.K H' M' ∧ E.nx δ' M')
      rt := fun v H' => (∃ d M', Ext H H' ∧ MRel X.K H' M' ∧ den X.K H' v d ∧ E.rt d M')
      bk := fun σ' H' => (∃ δ' M', Ext H H' ∧ SRel X.K H' σ' δ' ∧ MRel X.K H' M' ∧ E.bk δ' M')
      ct := fun σ' H' => (∃ δ' M', Ext H H' ∧ SRel X.K H' σ' δ' ∧ MRel X.K H' M' ∧ E.ct δ' M') }
  refine thn (h.run pins s σ H D I ⟨δ, M, sr, m, t.mono q ?_⟩) fun f s' hs => ?_
  · exact ⟨fun δ M q σ' H' x s m => ⟨δ, M, x, s, m, q⟩, fun d M q v H' x m dn => ⟨d, M, x, m, dn, q⟩, fun δ M q σ' H' x s m => ⟨δ, M, x, s, m, q⟩, fun δ M q σ' H' x s m => ⟨δ, M, x, s, m, q⟩⟩
  · cases f with
    | next => obtain ⟨σ', H', I', δ', M', x, s, m, q⟩ := hs; exact ⟨σ', H', δ', M', I', x, s, m, q⟩
    | brk => obtain ⟨σ', H', I', δ', M', x, s, m, q⟩ := hs; exact ⟨σ', H', δ', M', I', x, s, m, q⟩
    | cont => obtain ⟨σ', H', I', δ', M', x, s, m, q⟩ := hs; exact ⟨σ', H', δ', M', I', x, s, m, q⟩
    | ret u => obtain ⟨v, σ', H', I', r, d, M', x, m, dn, q⟩ := hs; exact ⟨v, d, σ', H', M', I', x, m, r, dn, q⟩
theorem sp_of {pins : List (Addr × Obj)} {H : Hp} {D : Ends} {f : Flow} {s' : Shared} (h : match f with
      | .next => ∃ σ' H' δ' M', Inv X pins σ' H' s' ∧ Ext H H' ∧ SRel X.K H' σ' δ' ∧ MRel X.K H' M' ∧ (lEnds X.K H D).nx δ' M'
      | .brk => ∃ σ' H' δ' M', Inv X pins σ' H' s' ∧ Ext H H' ∧ SRel X.K H' σ' δ' ∧ MRel X.K H' M' ∧ (lEnds X.K H D).bk δ' M'
      | .cont => ∃ σ' H' δ' M', Inv X pins σ' H' s' ∧ Ext H H' ∧ SRel X.K H' σ' δ' ∧ MRel X.K H' M' ∧ (lEnds X.K H D).ct δ' M'
      | .ret u => ∃ v d σ' H' M', Inv X pins σ' H' s' ∧ Ext H H' ∧ MRel X.K H' M' ∧ L2.RelV v u ∧ den X.K H' v d ∧ (lEnds X.K H D).rt d M') : SP X pins D f s' := by
  cases f with
  | next => obtain ⟨σ', H', δ', M', I', x, s, m, q⟩ := h; exact ⟨σ', H', I', q σ' H' x s m⟩
  | brk => obtain ⟨σ', H', δ', M', I', x, s, m, q⟩ := h; exact ⟨σ', H', I', q σ' H' x s m⟩
  | cont => obtain ⟨σ', H', δ', M', I', x, s, m, q⟩ := h; exact ⟨σ', H', I', q σ' H' x s m⟩
  | ret u => obtain ⟨v, d, σ', H', M', I', x, m, r, dn, q⟩ := h; exact ⟨v, σ', H', I', r, q v H' x m dn⟩
theorem qss_cons {st : Stmt} {rest : List Stmt} {t u : DS} (h1 : QS X st t) (h2 : QSs X rest u) : QSs X (st :: rest) (dSeq t u) := by
  refine ⟨fun pins s σ H D I h => ?_⟩
  obtain ⟨δ, M, sr, m, q⟩ := h
  refine wpAny_execs_cons (thn (run_s h1 I sr m q) fun f s1 q => ?_)
  cases f with
  | next =>
    obtain ⟨σ', H', δ', M', I', x, s2, m2, q⟩ := q
    obtain ⟨H2, δ2, M2, I2, x2, sr2, m3, q⟩ := nx_gh I' x s2 m2 q
    exact h2.run pins s1 σ' H2 D I2 ⟨δ2, M2, sr2, m3, u.mono q (lEnds_ext x2)⟩
  | ret v => exact sp_of (f := .ret v) q
  | brk => exact sp_of (f := .brk) q
  | cont => exact sp_of (f := .cont) q
theorem qss_one {st : Stmt} {t : DS} (h1 : QS X st t) : QSs X [st] (dEnd t) := by
  refine ⟨fun pins s σ H D I h => ?_⟩
  obtain ⟨δ, M, sr, m, q⟩ := h
  refine wpAny_execs_cons (thn (run_s h1 I sr m q) fun f s1 q => ?_)
  cases f with
  | next =>
    obtain ⟨σ', H', δ', M', I', x, s2, m2, q⟩ := q
    obtain ⟨H2, δ2, M2, I2, x2, sr2, m3, q⟩ := nx_gh I' x s2 m2 q
    exact wpAny_execs_nil ⟨σ', H2, I2, q σ' H2 x2 sr2 m3⟩
  | ret v => exact sp_of (f := .ret v) q
  | brk => exact sp_of (f := .brk) q
  | cont => exact sp_of (f := .cont) q
theorem qe_gh {e : Expr} {t : DE} (h : QE X e t) : QE X e (dGh t) := by
  refine ⟨fun pins s σ H Q I hq => ?_⟩
  obtain ⟨δ, M, sr, m, q⟩ := hq
  refine thn (h.run pins s σ H (fun v H' => ∃ d M', Ext H H' ∧ MRel X.K H' M' ∧ den X.K H' v d ∧ GhV [d] M' fun ds M2 => match ds with | [e] => lQ X.K H Q e M2 | _ => False) I
    ⟨δ, M, sr, m, t.mono q fun d M1 q v H1 x1 m1 d1 => ⟨d, M1, x1, m1, d1, q⟩⟩) fun u s1 ⟨v, H1, I1, r, d, M1, x1, m1, d1, g⟩ => ?_
  obtain ⟨ds, M2, imp, q⟩ := g
  obtain ⟨H2, f, d2, m2⟩ := imp X.prog X.w X.K H1 s1.heap [v] I1.hok (dens_cons d1 dens_nil) m1
  revert q; split <;> intro q
  · obtain ⟨v', e, d3⟩ := dens1 d2
    cases e
    exact ⟨v, H2, f.inv I1, r, q v H2 (x1.trans f.ext) m2 d3⟩
  · exact q.elim
end

/-! ### small statements -/
def dPass : DS := ⟨fun E δ M => E.nx δ M, fun h k => k.nx _ _ h⟩
def dBreak : DS := ⟨fun E δ M => E.bk δ M, fun h k => k.bk _ _ h⟩
def dCont : DS := ⟨fun E δ M => E.ct δ M, fun h k => k.ct _ _ h⟩
def dNever : DS := ⟨fun _ _ _ => False, fun h _ => h⟩
def dDrop (t : DE) : DS := ⟨fun E δ M => t.run δ M fun _ M1 => E.nx δ M1, fun h k => t.mono h fun _ M1 q => k.nx _ _ q⟩
def dRet (t : DE) : DS := ⟨fun E δ M => t.run δ M E.rt, fun h k => t.mono h k.rt⟩
def dRetN : DS := ⟨fun E δ M => E.rt .non M, fun h k => k.rt _ _ h⟩
def dIfS (c : DT) (a b : DS) : DS := ⟨fun E δ M => c.run δ M fun k M1 => bcase k (a.run E δ M1) (b.run E δ M1), fun h k => c.mono h fun _ M1 q => bcase_mono q (fun q => a.mono q k) fun q => b.mono q k⟩
def dName (i : Nat) : DG := ⟨fun d δ M Q => Q (δ.set i (some d)) M, fun h k => k _ _ h⟩
def dAsg (t : DE) (g : DG) : DS := ⟨fun E δ M => t.run δ M fun d M1 => g.run d δ M1 E.nx, fun h k => t.mono h fun d M1 q => g.mono q k.nx⟩
def dSet (i : Nat) (t : DE) : DS := ⟨fun E δ M => t.run δ M fun d M1 => E.nx (δ.set i (some d)) M1, fun h k => t.mono h fun d M1 q => k.nx _ _ q⟩
/-- several targets -/
structure DGs where
  run : List D → DSt → DM → (DSt → DM → Prop) → Prop
  mono : ∀ {ds : List D} {δ : DSt} {M : DM} {Q Q' : DSt → DM → Prop}, run ds δ M Q → (∀ δ' M', Q δ' M' → Q' δ' M') → run ds δ M Q'
def dGNil : DGs := ⟨fun ds δ M Q => match ds with | [] => Q δ M | _ => False, fun {ds δ M Q Q'} h k => by
  cases ds with
  | nil => exact k _ _ h
  | cons => exact h⟩
def dGCons (g : DG) (r : DGs) : DGs := ⟨fun ds δ M Q => match ds with | d :: ds => g.run d δ M fun δ1 M1 => r.run ds δ1 M1 Q | _ => False, fun {ds δ M Q Q'} h k => by
  cases ds with
  | nil => exact h
  | cons => exact g.mono h fun _ _ q => r.mono q k⟩
def dGTup (r : DGs) : DG := ⟨fun d δ M Q => match d with | .tup ds => r.run ds δ M Q | _ => False, fun {d δ M Q Q'} h k => by
  revert h; split <;> intro h
  · exact r.mono h k
  · exact h⟩
def lGs (K : PySem.W.Frag) (t : DGs) : TGs := fun vs σ H Q => ∃ ds δ M, dens K H vs ds ∧ SRel K H σ δ ∧ MRel K H M ∧ t.run ds δ M (fun δ' M' => ∀ σ' H', Ext H H' → SRel K H' σ' δ' → MRel K H' M' → Q σ' H')
abbrev QGs (X : Cx) (es : List Expr) (t : DGs) : Prop := PGs X es (lGs X.K t)
section
variable {X : Cx} {e : Expr} {t : DE} {pos : Pos}
theorem qs_pass : QS X (.Pass pos) dPass := PS.imp ps_pass fun D σ H ⟨δ, M, s, m, q⟩ => q σ H (.refl H) s m
theorem qs_break : QS X (.Break pos) dBreak := PS.imp ps_break fun D σ H ⟨δ, M, s, m, q⟩ => q σ H (.refl H) s m
theorem qs_cont : QS X (.Continue pos) dCont := PS.imp ps_continue fun D σ H ⟨δ, M, s, m, q⟩ => q σ H (.refl H) s m
theorem qs_never {st : Stmt} : QS X st dNever := PS.imp ps_never fun D σ H ⟨δ, M, s, m, q⟩ => q
theorem qss_never {st : List Stmt} : QSs X st dNever := PSs.imp pss_never fun D σ H ⟨δ, M, s, m, q⟩ => q
theorem qs_expr (he : QE X e t) (hs : swapsWith e none pos.line X.env = pure false := by rfl) : QS X (.Expr e pos) (dDrop t) := by
  refine PS.imp (ps_expr he hs) fun D σ H q => ?_
  obtain ⟨δ, M, s, m, q⟩ := q
  exact lE_step s m q fun d M1 v H1 x1 m1 d1 q1 => q1 σ H1 x1 (s.ext x1) m1
theorem qs_ret (he : QE X e t) : QS X (.Return (some e) pos) (dRet t) := by
  refine PS.imp (ps_ret he) fun D σ H q => ?_
  obtain ⟨δ, M, s, m, q⟩ := q
  exact lE_step s m q fun d M1 v H1 x1 m1 d1 q1 => q1 v H1 x1 m1 d1
theorem qs_retN : QS X (.Return none pos) dRetN := PS.imp ps_retN fun D σ H ⟨δ, M, s, m, q⟩ => q _ H (.refl H) m dnon
theorem qs_if {c : Expr} {a b : List Stmt} {tc : DT} {ta tb : DS} (hc : QT X c tc) (ha : QSs X a ta) (hb : QSs X b tb) : QS X (.If c a b pos) (dIfS tc ta tb) := by
  refine PS.imp (ps_if hc ha hb) fun D σ H q => ?_
  obtain ⟨δ, M, s, m, q⟩ := q
  refine lT_step s m q fun k M1 H1 x1 m1 q1 => bcase_if ?_
  exact bcase_mono q1 (fun q => ⟨δ, M1, s.ext x1, m1, ta.mono q (lEnds_ext x1)⟩) fun q => ⟨δ, M1, s.ext x1, m1, tb.mono q (lEnds_ext x1)⟩
theorem qg_name {i : Nat} {x : Str} (hN : X.N.Nodup) (hi : X.N[i]? = some x) (hx : Loc X.env.scope x) (hf : X.fn x = true ∨ X.env.scope.names.lookup x = some .local := by first | exact .inl rfl | exact .inr rfl | assumption) : QG X (.Name x pos) (dName i) := by
  refine PG.imp (pg_name hN hi hx hf) fun v σ H Q q => ?_
  obtain ⟨d, δ, M, dn, s, m, q⟩ := q
  exact q _ H (.refl H) (s.set dn i) m
theorem qs_set {i : Nat} {x : Str} {pos' : Pos} (hN : X.N.Nodup) (hi : X.N[i]? = some x) (hx : Loc X.env.scope x) (he : QE X e t) (hs : swapsWith e (some (.Name x pos')) pos.line X.env = pure false := by rfl) (hf : X.fn x = true ∨ X.env.scope.names.lookup x = some .local := by first | exact .inl rfl | exact .inr rfl | assumption) :
    QS X (.Assign [.Name x pos'] e pos) (dSet i t) := by
  refine PS.imp (ps_set hN hi hx he hs hf) fun D σ H q => ?_
  obtain ⟨δ, M, s, m, q⟩ := q
  exact lE_step s m q fun d M1 v H1 x1 m1 d1 q1 => q1 _ H1 x1 ((s.ext x1).set d1 i) m1
theorem qs_asg {tg : Expr} {g : DG} (he : QE X e t) (hg : QG X tg g) (hs : swapsWithSole [tg] e pos.line X.env = pure false := by rfl) (hw : swappedStores [tg] e X.env = pure none := by rfl)
    (h1 : (assignEach [tg] X.env).map (·.2) = [assign tg X.env] := by rfl) : QS X (.Assign [tg] e pos) (dAsg t g) := by
  refine PS.imp (ps_asg he hg hs hw h1) fun D σ H q => ?_
  obtain ⟨δ, M, s, m, q⟩ := q
  refine lE_step s m q fun d M1 v H1 x1 m1 d1 q1 => ?_
  exact lG_step d1 (s.ext x1) m1 q1 fun δ' M' σ' H' x' s' m' q' => q' σ' H' (x1.trans x') s' m'
theorem qgs_nil : QGs X [] dGNil := by
  refine ⟨fun pins s σ H vs us Q I r h => pgs_nil.run pins s σ H vs us Q I r ?_⟩
  obtain ⟨ds, δ, M, dn, sr, m, q⟩ := h
  cases ds with
  | nil => rw [dens] at dn; exact ⟨dn, q σ H (.refl H) sr m⟩
  | cons => exact q.elim
theorem qgs_cons {es : List Expr} {g : DG} {r : DGs} (h1 : QG X e g) (h2 : QGs X es r)
    (hs : (assignEach (e :: es) X.env).map (·.2) = assign e X.env :: (assignEach es X.env).map (·.2) := by rfl) : QGs X (e :: es) (dGCons g r) := by
  refine ⟨fun pins s σ H vs us Q I rv h => (pgs_cons h1 h2 hs).run pins s σ H vs us Q I rv ?_⟩
  obtain ⟨ds, δ, M, dn, sr, m, q⟩ := h
  cases ds with
  | nil => exact q.elim
  | cons d ds =>
    rw [dens] at dn
    obtain ⟨v, w, e1, d1, d2⟩ := dn
    subst e1
    refine ⟨v, w, rfl, lG_step d1 sr m q fun δ' M' σ' H' x' s' m' q' => ?_⟩
    exact ⟨ds, δ', M', dens_ext x' _ _ d2, s', m', r.mono q' fun δ2 M2 q2 σ2 H2 x2 => q2 σ2 H2 (x'.trans x2)⟩
theorem qg_tup {es : List Expr} {k : Nat} {r : DGs} {n : Nat} (hc : X.calm = true) (h : QGs X es r) (hn : (assignEach es X.env).length = n := by rfl) (hst : (assignEach es X.env).findIdx? (·.1) = none := by rfl)
    (hl : ∀ ds δ M Q, r.run ds δ M Q → ds.length = n) : QG X (.Tuple es k pos) (dGTup r) := by
  refine PG.imp (pg_tup (n := n) hc h hn hst) fun v σ H Q q => ?_
  obtain ⟨d, δ, M, dn, s, m, q⟩ := q
  dsimp only [dGTup] at q
  split at q
  · rw [den] at dn
    obtain ⟨a, vs, rfl, sq, dv⟩ := dn
    exact ⟨a, vs, rfl, sq, (dens_length dv).trans (hl _ _ _ _ q), _, δ, M, dv, s, m, q⟩
  · exact q.elim
theorem dGs_len0 : ∀ ds δ M Q, dGNil.run ds δ M Q → ds.length = 0 := fun ds δ M Q h => by cases ds with | nil => rfl | cons => exact h.elim
theorem dGs_len {g : DG} {r : DGs} {n : Nat} (hr : ∀ ds δ M Q, r.run ds δ M Q → ds.length = n) (gn : ∀ d δ M Q, g.run d δ M Q → ∃ δ' M', Q δ' M') : ∀ ds δ M Q, (dGCons g r).run ds δ M Q → ds.length = n + 1 := fun ds δ M Q h => by
  cases ds with
  | nil => exact h.elim
  | cons d ds =>
    obtain ⟨δ', M', q⟩ := gn _ _ _ _ h
    rw [List.length_cons, hr _ _ _ _ q]
theorem dName_go {i : Nat} : ∀ d δ M Q, (dName i).run d δ M Q → ∃ δ' M', Q δ' M' := fun d δ M Q h => ⟨_, _, h⟩
theorem dGTup_go {r : DGs} (hr : ∀ ds δ M Q, r.run ds δ M Q → ∃ δ' M', Q δ' M') : ∀ d δ M Q, (dGTup r).run d δ M Q → ∃ δ' M', Q δ' M' := fun d δ M Q h => by
  dsimp only [dGTup] at h
  split at h
  · exact hr _ _ _ _ h
  · exact h.elim
theorem dGNil_go : ∀ ds δ M Q, dGNil.run ds δ M Q → ∃ δ' M', Q δ' M' := fun ds δ M Q h => by cases ds with | nil => exact ⟨_, _, h⟩ | cons => exact h.elim
theorem dGCons_go {g : DG} {r : DGs} (gn : ∀ d δ M Q, g.run d δ M Q → ∃ δ' M', Q δ' M') (hr : ∀ ds δ M Q, r.run ds δ M Q → ∃ δ' M', Q δ' M') : ∀ ds δ M Q, (dGCons g r).run ds δ M Q → ∃ δ' M', Q δ' M' := fun ds δ M Q h => by
  cases ds with
  | nil => exact h.elim
  | cons d ds =>
    obtain ⟨δ', M', q⟩ := gn _ _ _ _ h
    exact hr _ _ _ _ q
end
def dPar2 (i j : Nat) (t : DA) : DS := ⟨fun E δ M => t.run δ M fun ds M1 => match ds with | [a, b] => E.nx ((δ.set i (some a)).set j (some b)) M1 | _ => False, fun h k => t.mono h fun ds M1 q => by
  revert q; split <;> intro q
  · exact k.nx _ _ q
  · exact q⟩
def dPar3 (i j l : Nat) (t : DA) : DS := ⟨fun E δ M => t.run δ M fun ds M1 => match ds with | [a, b, c] => E.nx (((δ.set i (some a)).set j (some b)).set l (some c)) M1 | _ => False, fun h k => t.mono h fun ds M1 q => by
  revert q; split <;> intro q
  · exact k.nx _ _ q
  · exact q⟩
section
variable {X : Cx} {pos : Pos}
theorem qs_par2 {i j : Nat} {x y : Str} {a b : Expr} {ta : DA} {px py pt : Pos} {kt k2 pt2} (hc : X.calm = true) (hN : X.N.Nodup) (hi : X.N[i]? = some x) (hj : X.N[j]? = some y) (hij : i ≠ j)
    (hx : X.env.scope.names.lookup x = some .local) (hy : X.env.scope.names.lookup y = some .local) (ha : QA X [a, b] ta)
    (hw : swappedStores [.Tuple [.Name x px, .Name y py] kt pt] (.Tuple [a, b] k2 pt2) X.env = pure (some [x, y]))
    (hs : swapsWithSole [.Tuple [.Name x px, .Name y py] kt pt] (.Tuple [a, b] k2 pt2) pos.line X.env = pure false := by rfl) :
    QS X (.Assign [.Tuple [.Name x px, .Name y py] kt pt] (.Tuple [a, b] k2 pt2) pos) (dPar2 i j ta) := by
  refine PS.imp (ps_par hc hN hi hj hij hx hy ha hw hs) fun D σ H q => ?_
  obtain ⟨δ, M, s, m, q⟩ := q
  refine lA_step s m q fun ds M1 vs H1 x1 m1 d1 q1 => ?_
  revert q1; split <;> intro q1
  · obtain ⟨v, w, e, h1, h2⟩ := dens2 d1
    exact ⟨v, w, e, q1 _ H1 x1 (((s.ext x1).set h1 i).set h2 j) m1⟩
  · exact q1.elim
theorem qs_par3 {i j l : Nat} {x y z : Str} {a b c : Expr} {ta : DA} {px py pz pt : Pos} {kt k2 pt2} (hc : X.calm = true) (hN : X.N.Nodup) (hi : X.N[i]? = some x) (hj : X.N[j]? = some y) (hl : X.N[l]? = some z) (hij : i ≠ j) (hil : i ≠ l) (hjl : j ≠ l)
    (hx : X.env.scope.names.lookup x = some .local) (hy : X.env.scope.names.lookup y = some .local) (hz : X.env.scope.names.lookup z = some .local) (ha : QA X [a, b, c] ta)
    (hw : swappedStores [.Tuple [.Name x px, .Name y py, .Name z pz] kt pt] (.Tuple [a, b, c] k2 pt2) X.env = pure (some [x, y, z]))
    (hs : swapsWithSole [.Tuple [.Name x px, .Name y py, .Name z pz] kt pt] (.Tuple [a, b, c] k2 pt2) pos.line X.env = pure false := by rfl) :
    QS X (.Assign [.Tuple [.Name x px, .Name y py, .Name z pz] kt pt] (.Tuple [a, b, c] k2 pt2) pos) (dPar3 i j l ta) := by
  refine PS.imp (ps_par3 hc hN hi hj hl hij hil hjl hx hy hz ha hw hs) fun D σ H q => ?_
  obtain ⟨δ, M, s, m, q⟩ := q
  refine lA_step s m q fun ds M1 vs H1 x1 m1 d1 q1 => ?_
  revert q1; split <;> intro q1
  · rw [dens] at d1
    obtain ⟨v, r, e, h1, d2⟩ := d1
    obtain ⟨w, u, e2, h2, h3⟩ := dens2 d2
    subst e e2
    exact ⟨v, w, u, rfl, q1 _ H1 x1 ((((s.ext x1).set h1 i).set h2 j).set h3 l) m1⟩
  · exact q1.elim
end
/-- xs[i] = e -/
def dSubL (o i : DE) : DG where
  run d δ M Q := o.run δ M fun x M1 => i.run δ M1 fun y M2 => match x, y with
    | .ref p, .int k => ∃ ds j, M2 p = some (.lst ds) ∧ ixN ds.length k = some j ∧ Q δ (put M2 p (.lst (ds.set j d)))
    | _, _ => False
  mono h k := o.mono h fun x M1 q => i.mono q fun y M2 q => by
    revert q; split <;> intro q
    · obtain ⟨ds, j, h1, h2, h3⟩ := q; exact ⟨ds, j, h1, h2, k _ _ h3⟩
    · exact q
section
variable {X : Cx} {o i : Expr} {pos : Pos} {to ti : DE}
theorem qg_subL (ho : QE X o to) (hi : QE X i ti) (ha : ∀ v, assign (.Subscript o i pos) X.env v = (do
      let ov ← holding [v] (eval o X.env)
      let iv ← holding [v, ov] (eval i X.env)
      standAt pos
      holding [v, ov, iv] (setItem ov iv v)
      release [v, ov, iv] []) := by intro _; rfl) : QG X (.Subscript o i pos) (dSubL to ti) := by
  refine PG.imp (pg_sub ho hi set_list ha) fun v σ H Q q => ?_
  obtain ⟨d, δ, M, dn, s, m, q⟩ := q
  refine lE_step s m q fun x M1 vx H1 x1 m1 d1 q1 => ?_
  refine lE_step (s.ext x1) m1 q1 fun y M2 vy H2 x2 m2 d2 q2 => ?_
  revert q2; split <;> intro q2
  · obtain ⟨ds, j, h1, h2, h3⟩ := q2
    rw [den] at d1
    cases lint d2
    obtain ⟨vs, h4, h5⟩ := m2 _ _ h1
    refine ⟨_, vs, _, j, d1, rfl, h4, by rw [dens_length h5]; exact h2, ?_⟩
    have x3 : Ext H2 (upd H2 _ (.lst (vs.set j v))) := .put h4 trivial
    exact h3 σ _ ((x1.trans x2).trans x3) (s.ext ((x1.trans x2).trans x3)) (m2.put h4 trivial ⟨_, upd_same, dens_ext x3 _ _ (dens_set (den_ext (x1.trans x2) _ _ dn) j h5)⟩)
  · exact q2.elim
end

/-! ### while -/
def whRun (c : DT) (b : DS) (E : DEnds) : Nat → DSt → DM → Prop
  | 0, _, _ => False
  | n + 1, δ, M => c.run δ M fun k M1 => bcase k (b.run { E with nx := whRun c b E n, ct := whRun c b E n } δ M1) (E.nx δ M1)
theorem whRun_mono {c : DT} {b : DS} {E E' : DEnds} (k : E.Le E') : ∀ (n : Nat) (δ : DSt) (M : DM), whRun c b { E with bk := E.nx } n δ M → whRun c b { E' with bk := E'.nx } n δ M
  | 0, _, _, h => h
  | n + 1, δ, M, h => c.mono h fun _ M1 q => bcase_mono q (fun q => b.mono q ⟨whRun_mono k n, k.rt, k.nx, whRun_mono k n⟩) (k.nx _ _)
def dWhile (c : DT) (b : DS) : DS := ⟨fun E δ M => ∃ n, whRun c b { E with bk := E.nx } n δ M, fun ⟨n, h⟩ k => ⟨n, whRun_mono k n _ _ h⟩⟩
section
variable {X : Cx} {pos : Pos}
theorem qs_while {c : Expr} {body : List Stmt} {tc : DT} {tb : DS} (hp : PassesOwn (model X.prog X.w) X.A X.env X.xe) (hc : QT X c tc) (hb : QSs X body tb) : QS X (.While c body [] pos) (dWhile tc tb) := by
  refine PS.imp (ps_while hp hc hb) fun D σ H q => ?_
  obtain ⟨δ, M, s, m, n, q⟩ := q
  refine ⟨fun n σ' H' => ∃ δ' M', Ext H H' ∧ SRel X.K H' σ' δ' ∧ MRel X.K H' M' ∧ whRun tc tb { lEnds X.K H D with bk := (lEnds X.K H D).nx } n δ' M', ⟨n, δ, M, .refl H, s, m, q⟩, ?_⟩
  rintro n σ1 H1 ⟨δ1, M1, x1, s1, m1, q1⟩
  cases n with
  | zero => exact q1.elim
  | succ n =>
    refine lT_step s1 m1 q1 fun k M2 H2 x2 m2 q2 => bcase_if (bcase_mono q2 (fun q3 => ?_) fun q3 => q3 σ1 H2 (x1.trans x2) (s1.ext x2) m2)
    refine ⟨fun σ' H' => ∃ δ' M', Ext H H' ∧ SRel X.K H' σ' δ' ∧ MRel X.K H' M' ∧ whRun tc tb { lEnds X.K H D with bk := (lEnds X.K H D).nx } n δ' M', fun σ' H' ⟨δ', M', a⟩ => ⟨n, Nat.lt_succ_self n, δ', M', a⟩, ?_⟩
    have y := x1.trans x2
    exact ⟨δ1, M2, s1.ext x2, m2, tb.mono q3 ⟨fun δ' M' r σ' H' x s m => ⟨δ', M', y.trans x, s, m, r⟩, fun d M' r v H' x m dn => r v H' (y.trans x) m dn, fun δ' M' r σ' H' x s m => r σ' H' (y.trans x) s m, fun δ' M' r σ' H' x s m => ⟨δ', M', y.trans x, s, m, r⟩⟩⟩
end
theorem wh_now {c : DT} {b : DS} {E : DEnds} {δ : DSt} {M : DM} (h : ∃ n, c.run δ M fun k M1 => bcase k (b.run { E with nx := whRun c b { E with bk := E.nx } n, ct := whRun c b { E with bk := E.nx } n, bk := E.nx } δ M1) (E.nx δ M1)) : (dWhile c b).run E δ M :=
  let ⟨n, h⟩ := h; ⟨n + 1, h⟩

/-! ### for -/
/-- what is walked: its items, and what must hold of the objects at each turn -/
structure DI where
  run : DSt → DM → (List D → (DM → Prop) → DM → Prop) → Prop
  mono : ∀ {δ : DSt} {M : DM} {Q Q' : List D → (DM → Prop) → DM → Prop}, run δ M Q → (∀ ds c M', Q ds c M' → Q' ds c M') → run δ M Q'
structure ItOk (K : PySem.W.Frag) (H0 : Hp) (J : It) (items : List D) (chk : DM → Prop) : Prop where
  go : ∀ i H M, Ext H0 H → MRel K H M → chk M → i < items.length → J.go i H
  yld : ∀ i H M x H', Ext H0 H → MRel K H M → chk M → J.yld i H x H' → Ext H H' ∧ (∀ M2, MRel K H M2 → MRel K H' M2) ∧ ∀ d, items[i]? = some d → den K H' x d
  stop : ∀ i H M, Ext H0 H → MRel K H M → chk M → items.length ≤ i → J.stop i H
def lI (K : PySem.W.Frag) (t : DI) : TI := fun σ H R => ∃ δ M, SRel K H σ δ ∧ MRel K H M ∧ t.run δ M fun items chk M' => ∀ J H', Ext H H' → MRel K H' M' → ItOk K H' J items chk → R J H'
abbrev QI (X : Cx) (tg e : Expr) (t : DI) : Prop := PI X tg e (lI X.K t)
def forRun (g : DG) (b : DS) (E : DEnds) (chk : DM → Prop) : List D → DSt → DM → Prop
  | [], δ, M => chk M ∧ E.nx δ M
  | x :: xs, δ, M => chk M ∧ g.run x δ M fun δ1 M1 => b.run { E with nx := forRun g b E chk xs, ct := forRun g b E chk xs, bk := E.nx } δ1 M1
theorem forRun_mono {g : DG} {b : DS} {E E' : DEnds} (k : E.Le E') {chk : DM → Prop} : ∀ (xs : List D) (δ : DSt) (M : DM), forRun g b E chk xs δ M → forRun g b E' chk xs δ M
  | [], _, _, h => ⟨h.1, k.nx _ _ h.2⟩
  | x :: xs, δ, M, h => ⟨h.1, g.mono h.2 fun δ1 M1 q => b.mono q ⟨forRun_mono k xs, k.rt, k.nx, forRun_mono k xs⟩⟩
def dFor (w : DI) (g : DG) (b : DS) : DS := ⟨fun E δ M => w.run δ M fun items chk M1 => forRun g b E chk items δ M1, fun h k => w.mono h fun items chk M1 q => forRun_mono k items _ _ q⟩
section
variable {X : Cx} {pos : Pos}
theorem qs_for {tg iter : Expr} {body : List Stmt} {w : DI} {g : DG} {tb : DS} (hp : PassesOwn (model X.prog X.w) X.A X.env X.xe) (hc : X.calm = true) (hi : QI X tg iter w) (hg : QG X tg g) (hb : QSs X body tb)
    (hs : ∀ x, foldedSetIterable iter X.env x = pure x := by intro _; rfl) : QS X (.For tg iter body [] pos) (dFor w g tb) := by
  refine PS.imp (ps_for hp hc hi hg hb hs) fun D σ H q => ?_
  obtain ⟨δ, M, s, m, q⟩ := q
  refine ⟨δ, M, s, m, w.mono q fun items chk M1 q1 J H1 x1 m1 ok => ?_⟩
  refine ⟨fun i n σ' H' => n = items.length - i ∧ i ≤ items.length ∧ ∃ δ' M', Ext H1 H' ∧ SRel X.K H' σ' δ' ∧ MRel X.K H' M' ∧ forRun g tb (lEnds X.K H D) chk (items.drop i) δ' M', ⟨items.length, by simp, Nat.zero_le _, δ, M1, .refl H1, s.ext x1, m1, q1⟩, ?_⟩
  rintro i n σ2 H2 ⟨rfl, hi2, δ2, M2, x2, s2, m2, q2⟩
  by_cases hlt : i < items.length
  · have e : items.drop i = items[i] :: items.drop (i + 1) := List.drop_eq_getElem_cons hlt
    rw [e] at q2
    obtain ⟨hchk, q2⟩ := q2
    refine .inr ⟨ok.go i H2 M2 x2 m2 hchk hlt, fun σ' H' => ∃ δ' M', Ext H1 H' ∧ SRel X.K H' σ' δ' ∧ MRel X.K H' M' ∧ forRun g tb (lEnds X.K H D) chk (items.drop (i + 1)) δ' M', fun σ' H' ⟨δ', M', a⟩ => ⟨items.length - (i + 1), by omega, rfl, hlt, δ', M', a⟩, fun x H3 hy => ?_⟩
    obtain ⟨x3, mk, hd⟩ := ok.yld i H2 M2 x H3 x2 m2 hchk hy
    have dn := hd items[i] (List.getElem?_eq_getElem hlt)
    refine lG_step dn (s2.ext x3) (mk M2 m2) q2 fun δ4 M4 σ4 H4 x4 s4 m4 q4 => ?_
    have y := (x2.trans x3).trans x4
    refine ⟨δ4, M4, s4, m4, tb.mono q4 ⟨fun δ' M' r σ' H' x s m => ⟨δ', M', y.trans x, s, m, r⟩, fun d M' r v H' x m dn => r v H' (x1.trans (y.trans x)) m dn, fun δ' M' r σ' H' x s m => r σ' H' (x1.trans (y.trans x)) s m, fun δ' M' r σ' H' x s m => ⟨δ', M', y.trans x, s, m, r⟩⟩⟩
  · have e : i = items.length := by omega
    subst e
    rw [List.drop_length] at q2
    exact .inl ⟨ok.stop _ H2 M2 x2 m2 q2.1 (Nat.le_refl _), q2.2 σ2 H2 (x1.trans x2) s2 m2⟩
end

/-! ### what is walked -/
/-- a tuple or a list -/
def dItSeq (t : DE) : DI where
  run δ M Q := t.run δ M fun d M1 => match d with
    | .tup ds => Q ds (fun _ => True) M1
    | .lst ds => Q ds (fun _ => True) M1
    | .ref p => ∃ ds, isL M1 (.ref p) ds ∧ Q ds (fun M => isL M (.ref p) ds) M1
    | _ => False
  mono h k := t.mono h fun d M1 q => by
    revert q; split <;> intro q
    · exact k _ _ _ q
    · exact k _ _ _ q
    · obtain ⟨ds, h1, h2⟩ := q; exact ⟨ds, h1, k _ _ _ h2⟩
    · exact q
/-- the walks of a tuple, or of a list -/
structure PI2 (X : Cx) (tg iter : Expr) (t : TE) : Prop where
  run : ∀ (pins : List (Addr × Obj)) (s : Shared) (σ : L2.St) (H : Hp) (R : It → Hp → Prop), Inv X pins σ H s → t σ H (fun v H1 => ∃ a, v = .ref a ∧ (((∃ xs, SqL X.K H1 a xs) ∧ R (Itl X.K a) H1) ∨ ((∃ xs, SqT X.K H1 a xs) ∧ R (Itt X.K a) H1))) →
    wpAny (model X.prog X.w) X.A (eval iter X.env) (fun v s1 => wpAny (model X.prog X.w) X.A (pyIter v) (PIE X pins σ tg R) X.xe s1) X.xe s
theorem SqT.inj {K : PySem.W.Frag} {H : Hp} {a : Addr} {xs ys : List V} (h : SqT K H a xs) (g : SqT K H a ys) (hf : H a ≠ none ∨ True) : True := trivial
section
variable {X : Cx} {tg e : Expr} {t : DE} {te : TE}
theorem pi_two (he : PE X e te) : PI2 X tg e te := by
  refine ⟨fun pins s σ H R I h => ?_⟩
  refine thn (he.run pins s σ H _ I h) fun v s1 ⟨x, H1, I1, r1, a, ex, q1⟩ => ?_
  subst ex
  cases r1
  rcases q1 with ⟨⟨xs, hq⟩, q⟩ | ⟨⟨xs, hq⟩, q⟩
  · obtain ⟨its, rv, p, hz⟩ := I1.list hq
    refine wpAny_pyIter_list p.isList ?_
    refine ⟨s1.heap.objs.size, [s1.heap.objs.size], _, _, H1, rfl, I1.kept (t' := s1.toks) fun b o z => Heap.get?_push_of_some _ z, turn_list a _, ⟨_, Heap.get?_push_size _ rfl, rfl, rfl⟩, fun b hb => ?_, q⟩
    rw [List.mem_singleton] at hb
    rw [hb]
    exact I1.fpOk (Nat.le_refl _) I1.fresh
  · obtain ⟨its, rv, p, hz⟩ := I1.tuple hq
    refine wpAny_pyIter_tuple (show s1.heap.IsTuple a its.toArray from p) ?_
    refine ⟨s1.heap.objs.size, [s1.heap.objs.size], _, _, H1, rfl, I1.kept (t' := s1.toks) fun b o z => Heap.get?_push_of_some _ z, turn_tuple a _, ⟨_, Heap.get?_push_size _ rfl, rfl, rfl⟩, fun b hb => ?_, q⟩
    rw [List.mem_singleton] at hb
    rw [hb]
    exact I1.fpOk (Nat.le_refl _) I1.fresh
theorem it_tup {K : PySem.W.Frag} {H0 : Hp} {a : Addr} {vs : List V} {ds : List D} (sq : SqT K H0 a vs) (dv : dens K H0 vs ds) : ItOk K H0 (Itt K a) ds fun _ => True where
  go i H M x m _ hi := by
    obtain ⟨v, h1, _⟩ := dens_get (i := i) dv (List.getElem?_eq_getElem hi)
    exact ⟨vs, v, x.sqT sq, h1⟩
  yld i H M y H' x m _ hy := by
    obtain ⟨e, hy⟩ := hy
    subst e
    refine ⟨.refl _, fun _ h => h, fun d hd => ?_⟩
    obtain ⟨v, h1, h2⟩ := dens_get (i := i) dv hd
    have := hy vs (x.sqT sq)
    rw [h1] at this
    cases this
    exact den_ext x _ _ h2
  stop i H M x m _ hi := ⟨vs, x.sqT sq, by rw [dens_length dv]; exact hi⟩
theorem it_frl {K : PySem.W.Frag} {H0 : Hp} {a : Addr} {vs : List V} {ds : List D} (sq : FrL K H0 a vs) (dv : dens K H0 vs ds) : ItOk K H0 (Itl K a) ds fun _ => True where
  go i H M x m _ hi := by
    obtain ⟨v, h1, _⟩ := dens_get (i := i) dv (List.getElem?_eq_getElem hi)
    exact ⟨vs, v, (x.frL sq).sq, h1⟩
  yld i H M y H' x m _ hy := by
    obtain ⟨e, hy⟩ := hy
    subst e
    refine ⟨.refl _, fun _ h => h, fun d hd => ?_⟩
    obtain ⟨v, h1, h2⟩ := dens_get (i := i) dv hd
    have := hy vs ((x.frL sq).sq)
    rw [h1] at this
    cases this
    exact den_ext x _ _ h2
  stop i H M x m _ hi := ⟨vs, (x.frL sq).sq, by rw [dens_length dv]; exact hi⟩
theorem it_ref {K : PySem.W.Frag} {H0 : Hp} {p : Addr} {ds : List D} : ItOk K H0 (Itl K p) ds fun M => isL M (.ref p) ds where
  go i H M x m hc hi := by
    obtain ⟨a, vs, e, rd, dv⟩ := isL_rd m dref hc
    cases e
    obtain ⟨v, h1, _⟩ := dens_get (i := i) dv (List.getElem?_eq_getElem hi)
    exact ⟨vs, v, rd, h1⟩
  yld i H M y H' x m hc hy := by
    obtain ⟨e, hy⟩ := hy
    subst e
    refine ⟨.refl _, fun _ h => h, fun d hd => ?_⟩
    obtain ⟨a, vs, e, rd, dv⟩ := isL_rd m dref hc
    cases e
    obtain ⟨v, h1, h2⟩ := dens_get (i := i) dv hd
    have := hy vs rd
    rw [h1] at this
    cases this
    exact h2
  stop i H M x m hc hi := by
    obtain ⟨a, vs, e, rd, dv⟩ := isL_rd m dref hc
    cases e
    exact ⟨vs, rd, by rw [dens_length dv]; exact hi⟩
theorem qi_seq (he : QE X e t) : QI X tg e (dItSeq t) := by
  refine ⟨fun pins s σ H R I h => (pi_two (tg := tg) he).run pins s σ H R I ?_⟩
  obtain ⟨δ, M, sr, m, q⟩ := h
  refine lE_step sr m q fun d M1 v H1 x1 m1 d1 q1 => ?_
  revert q1; split <;> intro q1
  · rw [den] at d1
    obtain ⟨a, vs, rfl, sq, dv⟩ := d1
    exact ⟨a, rfl, .inr ⟨⟨vs, sq⟩, q1 _ H1 x1 m1 (it_tup sq dv)⟩⟩
  · rw [den] at d1
    obtain ⟨a, vs, rfl, sq, dv⟩ := d1
    exact ⟨a, rfl, .inl ⟨⟨vs, sq.sq⟩, q1 _ H1 x1 m1 (it_frl sq dv)⟩⟩
  · obtain ⟨ds, h1, q1⟩ := q1
    obtain ⟨a, vs, e, rd, dv⟩ := isL_rd m1 d1 h1
    rw [den] at d1
    subst e
    cases d1
    exact ⟨_, rfl, .inl ⟨⟨vs, rd⟩, q1 _ H1 x1 m1 it_ref⟩⟩
  · exact q1.elim
end
/-- range(n), range(a, b) -/
def rngD (lo : Int) (n : Nat) : List D := (List.range n).map fun (i : Nat) => D.int (lo + (i : Int))
theorem rngD_len {lo : Int} {n : Nat} : (rngD lo n).length = n := by unfold rngD; rw [List.length_map, List.length_range]
def dItR1 (t : DE) : DI where
  run δ M Q := t.run δ M fun d M1 => match d with
    | .int j => (-(2 ^ 62) ≤ j ∧ j < 2 ^ 62) ∧ Q (rngD 0 j.toNat) (fun _ => True) M1
    | _ => False
  mono h k := t.mono h fun d M1 q => by
    revert q; split <;> intro q
    · exact ⟨q.1, k _ _ _ q.2⟩
    · exact q
def dItR2 (t u : DE) : DI where
  run δ M Q := t.run δ M fun c M1 => u.run δ M1 fun d M2 => match c, d with
    | .int i, .int j => (-(2 ^ 62) ≤ i ∧ i < 2 ^ 62 ∧ -(2 ^ 62) ≤ j ∧ j < 2 ^ 62) ∧ Q (rngD i (j - i).toNat) (fun _ => True) M2
    | _, _ => False
  mono h k := t.mono h fun d M1 q => u.mono q fun d M1 q => by
    revert q; split <;> intro q
    · exact ⟨q.1, k _ _ _ q.2⟩
    · exact q
theorem it_rng {K : PySem.W.Frag} {H0 : Hp} {lo : Int} {n : Nat} : ItOk K H0 (Itr lo n) (rngD lo n) fun _ => True where
  go i H M x m hc hi := by rw [rngD_len] at hi; exact hi
  yld i H M y H' x m hc hy := by
    obtain ⟨e, hy⟩ := hy
    subst e hy
    refine ⟨.refl _, fun _ h => h, fun d hd => ?_⟩
    unfold rngD at hd
    rw [List.getElem?_map] at hd
    cases e : (List.range n)[i]? with
    | none => rw [e] at hd; cases hd
    | some j =>
      rw [e] at hd
      cases hd
      obtain ⟨h1, h2⟩ := List.getElem?_eq_some_iff.mp e
      rw [List.getElem_range] at h2
      subst h2
      exact dint
  stop i H M x m hc hi := by rw [rngD_len] at hi; exact hi
section
variable {X : Cx} {tg a b : Expr} {t u : DE} {p pos : Pos}
theorem qi_r1 (hg : Gl X "range") (hm : X.mg "range" = none) (ha : QE X a t) (hs : starEach [a] X.env = [(false, eval a X.env)] := by rfl) : QI X tg (.Call (.Name "range" p) [a] [] pos) (dItR1 t) := by
  refine ⟨fun pins s σ H R I h => (pi_range1 hg hm (pa_cons ha pa_nil hs) hs).run pins s σ H R I ?_⟩
  obtain ⟨δ, M, sr, m, q⟩ := h
  refine lE_step sr m q fun d M1 v H1 x1 m1 d1 q1 => ?_
  revert q1; split <;> intro q1
  · cases lint d1
    exact ⟨_, rfl, q1.1.1, q1.1.2, q1.2 _ H1 x1 m1 it_rng⟩
  · exact q1.elim
theorem qi_r2 (hg : Gl X "range") (hm : X.mg "range" = none) (ha : QE X a t) (hb : QE X b u) (hs : starEach [a, b] X.env = [(false, eval a X.env), (false, eval b X.env)] := by rfl) (hs2 : starEach [b] X.env = [(false, eval b X.env)] := by rfl) : QI X tg (.Call (.Name "range" p) [a, b] [] pos) (dItR2 t u) := by
  refine ⟨fun pins s σ H R I h => (pi_range2 hg hm (pa_cons ha (pa_cons hb pa_nil hs2) (by rw [hs2]; exact hs)) hs hs2).run pins s σ H R I ?_⟩
  obtain ⟨δ, M, sr, m, q⟩ := h
  refine lE_step sr m q fun d M1 v H1 x1 m1 d1 q1 => ?_
  refine lE_step (sr.ext x1) m1 q1 fun e M2 w H2 x2 m2 d2 q2 => ?_
  revert q2; split <;> intro q2
  · cases lint d1; cases lint d2
    exact ⟨_, _, rfl, q2.1, q2.2 _ H2 (x1.trans x2) m2 it_rng⟩
  · exact q2.elim
end
end LD

/-! LD4: what a def promises, calls, raise -/
namespace LD
open PySem PySem.Spec PyProof.Rows L2

/-- what is wanted where an error of the class of a name leaves -/
abbrev XD := Str → DM → Prop
def xNo : XD := fun _ _ => False
abbrev DSp := List D → DM → (D → DM → Prop) → XD → Prop
def lX (K : PySem.W.Frag) (mg : Str → Option Value) (H : Hp) (E : XK) : XD := fun x M' => ∀ C H', mg x = some (.ref C) → Ext H H' → MRel K H' M' → E (.ref C) none H'
def lSp (K : PySem.W.Frag) (mg : Str → Option Value) (n : Nat) (sp : DSp) : Sp := fun vs H Q E => vs.length = n ∧ ∃ ds M, dens K H vs ds ∧ MRel K H M ∧
  ∃ (Q0 : D → DM → Prop) (X0 : XD), (∀ d M', Q0 d M' → lQ K H Q d M') ∧ (∀ x M', X0 x M' → lX K mg H E x M') ∧ sp ds M Q0 X0
/-- a smaller part of the objects is told -/
def Wk (M : DM) (P : DM → Prop) : Prop := ∃ M', Sub M' M ∧ P M'
theorem Wk.here {M : DM} {P : DM → Prop} (h : P M) : Wk M P := ⟨M, .refl M, h⟩
theorem Wk.to {M M' : DM} {P : DM → Prop} (s : Sub M' M) (h : P M') : Wk M P := ⟨M', s, h⟩
/-- a body's ends, from a promise's -/
def spEnds (Q : D → DM → Prop) : DEnds where
  nx := fun _ M => Wk M (Q .non)
  rt := fun d M => Wk M (Q d)
def dStart (n : Nat) (ds : List D) : DSt := ds.map some ++ List.replicate (n - ds.length) none
theorem srel_start {K : PySem.W.Frag} {H : Hp} {N : List Str} {vs : List V} {ds : List D} (h : dens K H vs ds) : SRel K H (start N vs) (dStart N.length ds) := by
  have hl := dens_length h
  refine ⟨?_, fun i d e => ?_⟩
  · unfold L2.start dStart
    rw [List.length_append, List.length_append, List.length_map, List.length_map, List.length_replicate, List.length_replicate, hl]
  · unfold dStart at e
    by_cases hi : i < ds.length
    · rw [List.getElem?_append_left (by simpa using hi), List.getElem?_map] at e
      cases q : ds[i]? with
      | none => rw [q] at e; cases e
      | some d' =>
        rw [q] at e
        cases e
        obtain ⟨v, h1, h2⟩ := dens_get h q
        refine ⟨v, ?_, h2⟩
        unfold L2.start
        rw [List.getElem?_append_left (by rw [List.length_map, hl]; exact hi), List.getElem?_map, h1]
        rfl
    · rw [List.getElem?_append_right (by simpa using hi), List.getElem?_replicate] at e
      split at e <;> cases e

/-- the objects that stood at a def's entry and are never written, stand -/
theorem Inv.ext0 {X : Cx} {pins : List (Addr × Obj)} {σ : L2.St} {H : Hp} {s : Shared} (I : Inv X pins σ H s) : Ext X.H_0 H := ⟨I.base.tups, I.base.frzs⟩

section
variable {P : Program} {w : World} {K : PySem.W.Frag} {mg : Str → Option Value} {base : Heap}
/-- an exception's end of a def, with what stood at its entry -/
def lXE (K : PySem.W.Frag) (mg : Str → Option Value) (H0 : Hp) (X : XD) : XK := fun cls d H' => d = none ∧ ∃ x C M', cls = .ref C ∧ mg x = some (.ref C) ∧ MRel K H' M' ∧ X x M' ∧ Ext H0 H'
end

/-- what may be raised, a smaller part of the objects told -/
def wkX (X : XD) : XD := fun x M => Wk M (X x)

/-! ### promises -/
/-- room for calls, and no repr runs around -/
structure Rm (gb : Bool) (k : Nat) (A : Around) : Prop where
  room : Room k A
  gd : gb = true → A.guards = some []
theorem Rm.mono {j k : Nat} {A : Around} (r : Rm gb k A) (h : j ≤ k) : Rm gb j A := ⟨r.room.mono h, r.gd⟩
theorem Rm.deeper {k : Nat} {A : Around} (r : Rm gb (k + 1) A) (env : Env) : Rm gb k (A.deeper env) := ⟨r.room.deeper env, r.gd⟩
theorem Rm.hu {k : Nat} {A : Around} (r : Rm gb k A) : A.units + 64 < cLine := r.room.units
/-- the def at f keeps a promise, where such room is -/
structure FnG (gb : Bool) (P : Program) (w : World) (K : PySem.W.Frag) (mg : Str → Option Value) (base : Heap) (k : Nat) (f : Addr) (fd : FuncData) (ps : List Str) (sp : Sp) : Prop where
  len : ∀ vs H Q E, sp vs H Q E → vs.length = ps.length
  run : ∀ {A : Around} {outer : List Env} {s : Shared} {H : Hp} {args : Args} {us : List Value} {vs : List V} {Q : VK} {E : XK}, Rm gb k A → Env0 P w K mg base A outer s H →
    BindsTo s fd args (ps.zip us) → L2.Vals vs us → sp vs H Q E → codeAny (model P w) A (.call (.ref f) args) (CR (L2.CX P w) outer P w H s Q E) s
/-- the context of a body -/
abbrev bx (P : Program) (w : World) (K : PySem.W.Frag) (mg : Str → Option Value) (base : Heap) (N : List Str) (qual : Str) (scope : Scope) (f : Addr) (cd : Value) (A : Around) (outer : List Env) (s : Shared) (H : Hp) (E : XK) : Cx :=
  cxOf (L2.CX P w) P w K mg base N qual scope f cd A outer s H E
/-- the code object of the def at f -/
def CodeF (K : PySem.W.Frag) (f : Addr) (cdv : Value) : Prop := ∃ (oc : Value) (od : Option Addr) (fd : FuncData) (osl : Array (Option Value)), K.lookup f = some ⟨oc, od, .func fd, osl⟩ ∧ fd.code = cdv
theorem fnG_of {P : Program} {w : World} {K : PySem.W.Frag} {mg : Str → Option Value} {base : Heap} {k : Nat} {f : Addr} {x qual : Str} {params : Arguments} {body : List Stmt} {scope : Scope} {dvs : List V} {kws : List (Str × V)} {fd : FuncData} {N ps : List Str} {sp : Sp}
    (F : FunD K x qual params body scope dvs kws f fd) (S : FnScope N ps scope) (len : ∀ vs H Q E, sp vs H Q E → vs.length = ps.length)
    (hb : ∀ (cdv : Value) (A : Around) (outer : List Env) (s : Shared) (H : Hp) (vs : List V) (Q : VK) (E : XK), CodeF K f cdv → Rm gb k (A.deeper (envOfC qual scope s.heap.objs.size f cdv)) → sp vs H Q E →
      ∃ t, PSs (bx P w K mg base N qual scope f cdv A outer s H E) body t ∧ t { nx := fun _ H' => Q .non H', rt := Q } (start N vs) H) : FnG gb P w K mg base (k + 1) f fd ps sp := by
  obtain ⟨oc, od, dV, kV, doc, pm, an, cdv, ct, osl, rfl, lk, hcd, _, _⟩ := F.ex
  constructor
  · exact len
  · intro A outer s H args us vs Q E hr e0 hbind r hsp
    have stay : ∀ b o, base.get? b = some o → s.heap.get? b = some o := fun b o e => (e0.bs b o e).1
    have KX : K.In s.heap := PySem.W.Frag.In.keeps e0.mod.kin stay
    have lim := Heap.NoLimit.keeps e0.mod.nolimit stay
    have kinds : ∀ y ∈ ps.zip us, scope.names.lookup y.1 = some .local ∨
        (scope.names.lookup y.1 = some .cell ∧ ((cellsFrom (s.heap.objs.size + 1) scope.names []).lookup y.1).isSome = true) := by
      intro y hy
      rcases S.par y.1 (List.of_mem_zip hy).1 with q | q
      · exact Or.inl q
      · exact Or.inr ⟨q, PySem.W.cellsFrom_some _ _ _ (Or.inl q)⟩
    refine codeAny_call_function hr.room.depth (KX f _ lk) rfl S.co S.gen rfl (PySem.W.codeRec_of KX hcd) (hbind _ _ _ _ ?_)
    refine wpAny_newFunctionEnv_cells S.kind kinds fun env he s1 ic => ?_
    subst he
    refine And.intro (lim.keeps ic.toInCall.keep) (codeAny_func ?_)
    obtain ⟨t, ht, hq⟩ := hb cdv A outer s H vs Q E ⟨_, _, _, _, lk, rfl⟩ (hr.deeper _) hsp
    have I0 := inv_start (CX := L2.CX P w) (E := E) S hr.room.hd e0 (len _ _ _ _ hsp) r ic
    refine wpAny_mono (ht.run [] s1 _ H _ I0 hq) (fun fl s' hs => ?_) fun e s' hs => hs
    cases fl with
    | next =>
      obtain ⟨σ', H', J, q⟩ := hs
      exact ⟨.non, H', J.os, J.bare, J.base, J.hok, rfl, q⟩
    | ret u =>
      obtain ⟨v, σ', H', J, rv, q⟩ := hs
      exact ⟨v, H', J.os, J.bare, J.base, J.hok, rv, q⟩
    | brk => exact hs.elim fun _ z => z.elim fun _ z => z.2.elim
    | cont => exact hs.elim fun _ z => z.elim fun _ z => z.2.elim
theorem FnG.mono {P : Program} {w : World} {K : PySem.W.Frag} {mg : Str → Option Value} {base : Heap} {j k : Nat} {f : Addr} {fd : FuncData} {ps : List Str} {sp : Sp} (F : FnG gb P w K mg base j f fd ps sp) (h : j ≤ k) : FnG gb P w K mg base k f fd ps sp :=
  ⟨F.len, fun hr => F.run (hr.mono h)⟩
/-- a name of the module is a def that keeps a promise -/
structure Good (gb : Bool) (P : Program) (w : World) (K : PySem.W.Frag) (mg : Str → Option Value) (base : Heap) (x : Str) (k : Nat) (ps : List Str) (sp : DSp) : Prop where
  ex : ∃ f fd, mg x = some (.ref f) ∧ PySem.W.keepIn K (.ref f) = true ∧ Binds K fd ps [] ∧ FnG gb P w K mg base k f fd ps (lSp K mg ps.length sp)
theorem Good.mono {P : Program} {w : World} {K : PySem.W.Frag} {mg : Str → Option Value} {base : Heap} {x : Str} {j k : Nat} {ps : List Str} {sp : DSp} (g : Good gb P w K mg base x j ps sp) (h : j ≤ k) : Good gb P w K mg base x k ps sp :=
  let ⟨f, fd, h1, h2, h3, h4⟩ := g.ex; ⟨f, fd, h1, h2, h3, h4.mono h⟩

/-! ### calls -/
def callQ (sp : DSp) (ds : List D) (M : DM) (Q : D → DM → Prop) (X : XD) : Prop :=
  ∃ Q0 : D → DM → Prop, ∃ X0 : XD, (∀ d M', Q0 d M' → Q d M') ∧ (∀ x M', X0 x M' → X x M') ∧ GhV ds M fun ds' M' => sp ds' M' Q0 X0
theorem callQ.go {sp : DSp} {ds : List D} {M : DM} {Q : D → DM → Prop} {X : XD} (h : sp ds M Q X) : callQ sp ds M Q X := ⟨Q, X, fun _ _ q => q, fun _ _ q => q, .here h⟩
theorem callQ.gh {sp : DSp} {ds : List D} {M : DM} {Q : D → DM → Prop} {X : XD} (h : GhV ds M fun ds' M' => sp ds' M' Q X) : callQ sp ds M Q X := ⟨Q, X, fun _ _ q => q, fun _ _ q => q, h⟩
theorem callQ.mono {sp : DSp} {ds : List D} {M : DM} {Q Q' : D → DM → Prop} {X : XD} (h : callQ sp ds M Q X) (k : ∀ d M', Q d M' → Q' d M') : callQ sp ds M Q' X := by
  obtain ⟨Q0, X0, h1, h2, h3⟩ := h
  exact ⟨Q0, X0, fun d M' q => k _ _ (h1 d M' q), h2, h3⟩
/-- f(e, ..) -/
def dCall (sp : DSp) (t : DA) (X : XD) : DE where
  run δ M Q := t.run δ M fun ds M1 => callQ sp ds M1 Q X
  mono h k := t.mono h fun ds M1 q => q.mono k
/-- what is raised is taken as the body wishes -/
def Lets (X : Cx) (E : XD) : Prop := Takes X (fun cls d _ H => lXE X.K X.mg X.H_0 E cls d H)
section
variable {X : Cx}
theorem lets_no : Lets X xNo := takes0.imp fun cls d σ H h => by
  obtain ⟨_, _, _, _, _, _, _, z, _⟩ := h
  exact z
theorem lets_bx {P : Program} {w : World} {K : PySem.W.Frag} {mg : Str → Option Value} {base : Heap} {N : List Str} {qual : Str} {scope : Scope} {f : Addr} {cd : Value} {A : Around} {outer : List Env} {s : Shared} {H : Hp} {E : XK} {X0 : XD} (h : ∀ x M', X0 x M' → lX K mg H E x M') :
    Lets (bx P w K mg base N qual scope f cd A outer s H E) (wkX X0) := (takes_of (E := E) rfl rfl rfl rfl).imp fun cls d σ H' q => by
  obtain ⟨rfl, x, C, M', rfl, e, m, ⟨M2, sub, q⟩, x0⟩ := q
  exact h x M2 q C H' e x0 (m.sub sub)
/-- a call, from a body -/
theorem run_call {k : Nat} {ps : List Str} {sp : DSp} {E : XD} {f : Addr} {fd : FuncData} (F : FnG gb X.prog X.w X.K X.mg X.base k f fd ps (lSp X.K X.mg ps.length sp)) (hr : Rm gb k X.A) (hb : Binds X.K fd ps []) (lt : Lets X E)
    {pins : List (Addr × Obj)} {σ : L2.St} {H : Hp} {s : Shared} {Q : VK} {us : List Value} {vs : List V} {ds : List D} {M : DM} (hn : vs.length = ps.length) (I : Inv X pins σ H s) (r : L2.Vals vs us) (dv : dens X.K H vs ds) (m : MRel X.K H M) (q : callQ sp ds M (lQ X.K H Q) E) :
    wpAny (model X.prog X.w) X.A (call (.ref f) us) (EP X pins σ Q) X.xe s := by
  obtain ⟨Q0, X0, h1, h2, ds', M', imp, q⟩ := q
  obtain ⟨H', fz, d', m'⟩ := imp X.prog X.w X.K H s.heap vs I.hok dv m
  have I' := fz.inv I
  have i0 := Inv.ext0 I'
  have hsp : lSp X.K X.mg ps.length sp vs H' Q (lXE X.K X.mg X.H_0 X0) := ⟨hn, ds', M', d', m', Q0, X0, fun d M2 q2 v H2 x2 => h1 d M2 q2 v H2 (fz.ext.trans x2), fun y M2 q2 C H2 e x2 m2 => ⟨rfl, y, C, M2, rfl, e, m2, q2, i0.trans x2⟩, q⟩
  have hl : (us ++ ([] : List Value)).length = ps.length := by rw [List.append_nil, ← r.length]; exact hn
  have hbind := hb s us I'.kIn hl
  rw [List.append_nil] at hbind
  refine wpAny_call (codeAny_mono (F.run hr I'.env0 hbind r hsp) fun rs s' hq => ?_)
  cases rs with
  | error e => exact passes_call lt (fun cls d σ H2 hE => ⟨hE.1, hE.2.elim fun y z => z.elim fun C z => z.elim fun M2 z => ⟨y, C, M2, z.1, z.2.1, z.2.2.1, h2 _ _ z.2.2.2.1, z.2.2.2.2⟩⟩) pins σ H' s e s' I' hq
  | ok fl =>
    cases fl with
    | ret u => exact I'.after hq
    | next => exact False.elim hq
    | brk => exact False.elim hq
    | cont => exact False.elim hq
variable {x : Str} {p pos : Pos} {e : Expr} {es : List Expr} {t : DA} {k : Nat} {ps : List Str} {sp : DSp} {E : XD}
theorem qe_call (G : Good gb X.prog X.w X.K X.mg X.base x k ps sp) (hr : Rm gb k X.A) (lt : Lets X E) (hg : Gl X x) (ha : QA X (e :: es) t) (hn : (e :: es).length = ps.length)
    (hl : ∀ pins s σ H Q, Inv X pins σ H s → lA X.K t σ H Q → lA X.K t σ H fun vs H1 => vs.length = (e :: es).length ∧ Q vs H1)
    (hdb : (x == ("__debug__" : Str)) = false := by decide) (he : starEach (e :: es) X.env = (false, eval e X.env) :: starEach es X.env := by rfl) (hpl : (backTo pos (starEach es X.env)).any (·.1) = false := by rfl) :
    QE X (.Call (.Name x p) (e :: es) [] pos) (dCall sp t E) := by
  obtain ⟨f, fd, hm, hk, hb, F⟩ := G.ex
  refine ⟨fun pins s σ H Q I h => ?_⟩
  obtain ⟨δ, M, sr, m, q⟩ := h
  refine wpAny_Call_Name_kw (ld_glob I hg hm ?_ hdb)
  have q2 : lA X.K t σ H fun vs H1 => ∃ ds M1, Ext H H1 ∧ dens X.K H1 vs ds ∧ MRel X.K H1 M1 ∧ callQ sp ds M1 (lQ X.K H Q) E := lA_step sr m q fun ds M1 vs H1 x1 m1 d1 q1 => ⟨ds, M1, x1, d1, m1, q1⟩
  refine PySem.W.callWith_K (h₀ := X.base) I.ok.mod.kin hk (thn (ha.run pos pins s σ H _ I (hl pins s σ H _ I q2)) fun us s1 ⟨vs, H1, I1, r, hv, ds, M1, x1, d1, m1, q1⟩ => ⟨I1.kIn, ?_⟩) he hpl
  exact run_call F hr hb lt (hv.trans hn) I1 r d1 m1 (q1.mono fun _ _ h => lQ_ext x1 h)
theorem qe_call0 (G : Good gb X.prog X.w X.K X.mg X.base x k [] sp) (hr : Rm gb k X.A) (lt : Lets X E) (hg : Gl X x) (hdb : (x == ("__debug__" : Str)) = false := by decide) : QE X (.Call (.Name x p) [] [] pos) (dCall sp dNil E) := by
  obtain ⟨f, fd, hm, hk, hb, F⟩ := G.ex
  refine ⟨fun pins s σ H Q I h => ?_⟩
  obtain ⟨δ, M, sr, m, q⟩ := h
  refine wpAny_Call_Name_kw (ld_glob I hg hm ?_ hdb)
  exact PySem.W.callWith_K0 I.kIn hk (run_call F hr hb lt rfl I .nil dens_nil m q)
/-! the number of arguments -/
theorem la_nil : ∀ pins s σ H Q, Inv X pins σ H s → lA X.K dNil σ H Q → lA X.K dNil σ H fun vs H1 => vs.length = ([] : List Expr).length ∧ Q vs H1 := fun _ _ σ H Q _ ⟨δ, M, sr, m, q⟩ =>
  ⟨δ, M, sr, m, fun vs H1 x1 m1 d1 => ⟨by rw [dens_length d1]; rfl, q vs H1 x1 m1 d1⟩⟩
end
/-- an argument list gives that many -/
structure DA.Is (t : DA) (n : Nat) : Prop where
  is : ∀ {δ M Q}, t.run δ M Q → t.run δ M fun ds M' => ds.length = n ∧ Q ds M'
theorem is_nil : dNil.Is 0 := ⟨fun h => ⟨rfl, h⟩⟩
theorem is_cons {t : DE} {r : DA} {n : Nat} (h : r.Is n) : (dCons t r).Is (n + 1) := ⟨fun {δ M Q} q => t.mono q fun d M1 q => r.mono (h.is q) fun ds M2 q => ⟨congrArg Nat.succ q.1, q.2⟩⟩
section
variable {X : Cx} {x : Str} {p pos : Pos} {e : Expr} {es : List Expr} {t : DA} {k : Nat} {ps : List Str} {sp : DSp} {E : XD}
/-- f(e, ..) of a def of the module -/
theorem qe_fn (G : Good gb X.prog X.w X.K X.mg X.base x k ps sp) (hr : Rm gb k X.A) (lt : Lets X E) (hg : Gl X x) (ha : QA X (e :: es) t) (hi : t.Is ps.length) (hn : (e :: es).length = ps.length := by rfl)
    (hdb : (x == ("__debug__" : Str)) = false := by decide) (he : starEach (e :: es) X.env = (false, eval e X.env) :: starEach es X.env := by rfl) (hpl : (backTo pos (starEach es X.env)).any (·.1) = false := by rfl) :
    QE X (.Call (.Name x p) (e :: es) [] pos) (dCall sp t E) := by
  refine qe_call G hr lt hg ha hn (fun pins s σ H Q I h => ?_) hdb he hpl
  obtain ⟨δ, M, sr, m, q⟩ := h
  exact ⟨δ, M, sr, m, t.mono (hi.is q) fun ds M1 q1 vs H1 x1 m1 d1 => ⟨by rw [dens_length d1, hn]; exact q1.1, q1.2 vs H1 x1 m1 d1⟩⟩
end

/-! ### a def keeps its promise -/
theorem fn_goodC {P : Program} {w : World} {K : PySem.W.Frag} {mg : Str → Option Value} {base : Heap} {k : Nat} {f : Addr} {x qual : Str} {params : Arguments} {body : List Stmt} {scope : Scope} {dvs : List V} {kws : List (Str × V)} {fd : FuncData} {N ps : List Str} {sp : DSp} {b : XD → DS}
    (F : FunD K x qual params body scope dvs kws f fd) (S : FnScope N ps scope)
    (pure : ∀ ds M Q X, ds.length = ps.length → sp ds M Q X → (b (wkX X)).run (spEnds Q) (dStart N.length ds) M)
    (hd : ∀ (cdv : Value) (A : Around) (outer : List Env) (s : Shared) (H : Hp) (E : XK) (X : XD), CodeF K f cdv → Rm gb k (bx P w K mg base N qual scope f cdv A outer s H E).A → Lets (bx P w K mg base N qual scope f cdv A outer s H E) X → QSs (bx P w K mg base N qual scope f cdv A outer s H E) body (b X)) :
    FnG gb P w K mg base (k + 1) f fd ps (lSp K mg ps.length sp) := by
  refine fnG_of F S (fun vs H Q E h => h.1) fun cdv A outer s H vs Q E hc hr h => ?_
  obtain ⟨hl, ds, M, dv, m, Q0, X0, h1, h2, q⟩ := h
  refine ⟨_, hd cdv A outer s H E (wkX X0) hc hr (lets_bx h2), dStart N.length ds, M, srel_start dv, m, ?_⟩
  refine (b (wkX X0)).mono (pure ds M Q0 X0 ((dens_length dv).symm.trans hl) q) ⟨fun δ M' ⟨M2, sub, z⟩ σ' H' x1 sr m1 => h1 _ _ z _ H' x1 (m1.sub sub) dnon, fun d M' ⟨M2, sub, z⟩ v H' x1 m1 dn => h1 _ _ z v H' x1 (m1.sub sub) dn, fun _ _ z => z.elim, fun _ _ z => z.elim⟩
theorem fn_good {P : Program} {w : World} {K : PySem.W.Frag} {mg : Str → Option Value} {base : Heap} {k : Nat} {f : Addr} {x qual : Str} {params : Arguments} {body : List Stmt} {scope : Scope} {dvs : List V} {kws : List (Str × V)} {fd : FuncData} {N ps : List Str} {sp : DSp} {b : XD → DS}
    (F : FunD K x qual params body scope dvs kws f fd) (S : FnScope N ps scope)
    (pure : ∀ ds M Q X, ds.length = ps.length → sp ds M Q X → (b (wkX X)).run (spEnds Q) (dStart N.length ds) M)
    (hd : ∀ (cdv : Value) (A : Around) (outer : List Env) (s : Shared) (H : Hp) (E : XK) (X : XD), Rm gb k (bx P w K mg base N qual scope f cdv A outer s H E).A → Lets (bx P w K mg base N qual scope f cdv A outer s H E) X → QSs (bx P w K mg base N qual scope f cdv A outer s H E) body (b X)) :
    FnG gb P w K mg base (k + 1) f fd ps (lSp K mg ps.length sp) :=
  fn_goodC F S pure fun cdv A outer s H E X _ hr lt => hd cdv A outer s H E X hr lt
theorem good_of {P : Program} {w : World} {K : PySem.W.Frag} {mg : Str → Option Value} {base : Heap} {k : Nat} {f : Addr} {x qual : Str} {params : Arguments} {body : List Stmt} {scope : Scope} {dvs : List V} {kws : List (Str × V)} {fd : FuncData} {N ps : List Str} {sp : DSp} {b : XD → DS}
    (F : FunD K x qual params body scope dvs kws f fd) (hm : mg x = some (.ref f)) (hbi : Binds K fd ps []) (S : FnScope N ps scope)
    (pure : ∀ ds M Q X, ds.length = ps.length → sp ds M Q X → (b (wkX X)).run (spEnds Q) (dStart N.length ds) M)
    (hd : ∀ (cdv : Value) (A : Around) (outer : List Env) (s : Shared) (H : Hp) (E : XK) (X : XD), Rm gb k (bx P w K mg base N qual scope f cdv A outer s H E).A → Lets (bx P w K mg base N qual scope f cdv A outer s H E) X → QSs (bx P w K mg base N qual scope f cdv A outer s H E) body (b X)) :
    Good gb P w K mg base x (k + 1) ps sp :=
  ⟨f, fd, hm, F.kp, hbi, fn_good F S pure hd⟩
theorem po_bx {P : Program} {w : World} {K : PySem.W.Frag} {mg : Str → Option Value} {base : Heap} {N : List Str} {qual : Str} {scope : Scope} {f : Addr} {cd : Value} {A : Around} {outer : List Env} {s : Shared} {H : Hp} {E : XK} :
    PassesOwn (model P w) (bx P w K mg base N qual scope f cd A outer s H E).A (bx P w K mg base N qual scope f cd A outer s H E).env (bx P w K mg base N qual scope f cd A outer s H E).xe := passes_of (X := bx P w K mg base N qual scope f cd A outer s H E) rfl

/-! ### raise -/
/-- raise C('..'), C an own error class -/
def dRaise (x : Str) (X : XD) : DS := ⟨fun _ _ M => X x M, fun h _ => h⟩
/-- what the text says of an own error class -/
structure ErrC (K : PySem.W.Frag) (mg : Str → Option Value) (x : Str) : Prop where
  ex : ∃ C, mg x = some (.ref C) ∧ PySem.W.excIn K C He.veBase "ValueError.__new__" = true ∧ PySem.W.keepIn K (.ref C) = true ∧ PySem.W.subIn K (.ref C) (.type "BaseException") = some true ∧ PySem.W.typeIn K (.ref C) = some (.type "type")
section
variable {X : Cx} {x m : Str} {j : Nat} {p p2 pos pos2 : Pos} {E : XD}
theorem qs_raise (ex : ErrC X.K X.mg x) (lt : Lets X E) (hc : X.calm = true) (hg : Gl X x) (hdb : (x == ("__debug__" : Str)) = false := by decide) :
    QS X (.Raise (some (.Call (.Name x p) [.Constant (.str m) j p2] [] pos)) none pos2) (dRaise x E) := by
  obtain ⟨C, e1, e2, e3, e4, e5⟩ := ex.ex
  refine ⟨fun pins s σ H Dd I h => ?_⟩
  obtain ⟨δ, M, sr, mr, q⟩ := h
  exact (ps_raise hc lt (pmk_own PySem.F.excBase_ValueError e2 e1 e3 (raises_own e4 e5) hg hdb)).run pins s σ H Dd I ⟨rfl, x, C, M, rfl, e1, mr, q, Inv.ext0 I⟩
end

/-! ### enumerate of a list -/
def enumD : Nat → List D → List D
  | _, [] => []
  | i, d :: ds => .tup [.int (i : Int), d] :: enumD (i + 1) ds
theorem enumD_len : ∀ (ds : List D) (i : Nat), (enumD i ds).length = ds.length
  | [], _ => rfl
  | _ :: ds, i => congrArg Nat.succ (enumD_len ds (i + 1))
theorem enumD_get : ∀ (ds : List D) (i j : Nat), (enumD i ds)[j]? = (ds[j]?).map fun d => D.tup [.int ((i + j : Nat) : Int), d]
  | [], _, _ => by simp [enumD]
  | d :: ds, i, 0 => by simp [enumD]
  | d :: ds, i, j + 1 => by
    simp only [enumD, List.getElem?_cons_succ]
    rw [enumD_get ds (i + 1) j]
    congr 1
    funext e
    rw [show i + 1 + j = i + (j + 1) by omega]
def dItEnum (t : DE) : DI where
  run δ M Q := t.run δ M fun d M1 => match d with
    | .lst ds => Q (enumD 0 ds) (fun _ => True) M1
    | .ref p => ∃ ds, isL M1 (.ref p) ds ∧ Q (enumD 0 ds) (fun M => isL M (.ref p) ds) M1
    | _ => False
  mono h k := t.mono h fun d M1 q => by
    revert q; split <;> intro q
    · exact k _ _ _ q
    · obtain ⟨ds, h1, h2⟩ := q; exact ⟨ds, h1, k _ _ _ h2⟩
    · exact q
theorem it_enum {K : PySem.W.Frag} {H0 : Hp} {a : Addr} {ds : List D} {chk : DM → Prop} (hc : ∀ H M, Ext H0 H → MRel K H M → chk M → ∃ vs, SqL K H a vs ∧ dens K H vs ds) : ItOk K H0 (Ite K a) (enumD 0 ds) chk where
  go i H M x m c hi := by
    rw [enumD_len] at hi
    obtain ⟨vs, rd, dv⟩ := hc H M x m c
    obtain ⟨v, h1, _⟩ := dens_get (i := i) dv (List.getElem?_eq_getElem hi)
    exact ⟨vs, v, rd, h1⟩
  yld i H M y H' x m c hy := by
    obtain ⟨T, v, e1, hT, e2, hv⟩ := hy
    subst e1 e2
    refine ⟨.new hT, fun M2 m2 => m2.grow hT, fun d hd => ?_⟩
    obtain ⟨vs, rd, dv⟩ := hc H M x m c
    rw [enumD_get] at hd
    cases q : ds[i]? with
    | none => rw [q] at hd; cases hd
    | some d0 =>
      rw [q] at hd
      cases hd
      obtain ⟨u, h1, h2⟩ := dens_get (i := i) dv q
      have h3 := hv vs rd
      rw [h1] at h3
      cases h3
      rw [den]
      refine ⟨T, _, rfl, .of upd_same, dens_cons ?_ (dens_cons (den_ext (.new hT) _ _ h2) dens_nil)⟩
      rw [Nat.zero_add]
      exact dint
  stop i H M x m c hi := by
    rw [enumD_len] at hi
    obtain ⟨vs, rd, dv⟩ := hc H M x m c
    exact ⟨vs, rd, by rw [dens_length dv]; exact hi⟩
section
variable {X : Cx} {e : Expr} {t : DE} {p pos tpos : Pos} {elts : List Expr} {kk : Nat}
theorem qi_enum (hg : Gl X "enumerate") (hm : X.mg "enumerate" = none) (ha : QE X e t) (hs : starEach [e] X.env = [(false, eval e X.env)] := by rfl) :
    QI X (.Tuple elts kk tpos) (.Call (.Name "enumerate" p) [e] [] pos) (dItEnum t) := by
  refine ⟨fun pins s σ H R I h => (pi_enum hg hm (pa_cons ha pa_nil hs) hs).run pins s σ H R I ?_⟩
  obtain ⟨δ, M, sr, m, q⟩ := h
  refine lE_step sr m q fun d M1 v H1 x1 m1 d1 q1 => ?_
  revert q1; split <;> intro q1
  · rw [den] at d1
    obtain ⟨a, vs, rfl, sq, dv⟩ := d1
    exact ⟨a, vs, rfl, sq.sq, q1 _ H1 x1 m1 (it_enum fun H M x m _ => ⟨vs, (x.frL sq).sq, dens_ext x _ _ dv⟩)⟩
  · obtain ⟨ds, h1, q1⟩ := q1
    obtain ⟨a, vs, e, rd, dv⟩ := isL_rd m1 d1 h1
    have d2 := d1
    rw [den] at d2
    subst e
    cases d2
    exact ⟨_, vs, rfl, rd, q1 _ H1 x1 m1 (it_enum fun H M x m c => by
      obtain ⟨b, us, e, rd2, dv2⟩ := isL_rd m dref c
      cases e
      exact ⟨us, rd2, dv2⟩)⟩
  · exact q1.elim
end

/-! ### repr -/
def rRepr : DC where
  run xs M Q := match xs with
    | [.str z] => (reprText z).length ≤ sizeLine ∧ Q (.str (reprText z)) M
    | [x] => ∃ t, dat M t x ∧ t.showable = true ∧ t.shown.length ≤ sizeLine ∧ t.depth < 100 ∧ Q (.str t.shown) M
    | _ => False
  mono {xs M Q Q'} h k := by
    revert h
    split <;> intro h
    · exact ⟨h.1, k _ _ h.2⟩
    · obtain ⟨t, h1, h2, h3, h4, h5⟩ := h; exact ⟨t, h1, h2, h3, h4, k _ _ h5⟩
    · exact h
mutual
theorem dat_noDict {M : DM} : ∀ (t : PyData) (d : D), dat M t d → t.hasDict = false
  | .none, d, h => by rw [PyData.hasDict]
  | .bool b, d, h => by rw [PyData.hasDict]
  | .int b, d, h => by rw [PyData.hasDict]
  | .str b, d, h => by rw [PyData.hasDict]
  | .list ts, d, h => by rw [dat] at h; obtain ⟨ds, h1, h2⟩ := h; rw [PyData.hasDict]; exact dats_noDict ts ds h2
  | .tuple ts, d, h => by rw [dat] at h; obtain ⟨ds, h1, h2⟩ := h; rw [PyData.hasDict]; exact dats_noDict ts ds h2
  | .dict _, d, h => by rw [dat] at h; exact h.elim
theorem dats_noDict {M : DM} : ∀ (ts : List PyData) (ds : List D), dats M ts ds → PyData.hasDictAll ts = false
  | [], ds, h => by rw [PyData.hasDictAll]
  | t :: ts, ds, h => by
    rw [dats] at h
    obtain ⟨d, r, e, h1, h2⟩ := h
    rw [PyData.hasDictAll, dat_noDict t d h1, dats_noDict ts r h2]
    rfl
end
section
variable {X : Cx}
theorem c_repr {k : Nat} (hr : Rm true k X.A) : OC X (.builtin "repr") rRepr := by
  intro pins s σ H vs us Q I r h
  obtain ⟨ds, M, hd, m, q⟩ := h
  have hu := hr.room.un
  have hg := hr.gd rfl
  dsimp only [rRepr] at q
  split at q
  · obtain ⟨v, rfl, d1⟩ := dens1 hd
    cases lstr d1
    obtain ⟨u, rfl, t, rfl⟩ := vals1 r
    exact PySem.P.repr_of_str ⟨.str _, H, I.tok _, ⟨_, rfl⟩, q.2 _ _ (.refl H) m dstr⟩ q.1
  · obtain ⟨v, rfl, d1⟩ := dens1 hd
    obtain ⟨t, h1, h2, h3, h4, q⟩ := q
    obtain ⟨u, rfl, ru⟩ := vals1 r
    have dp := dat_dp m t _ _ h1 d1
    obtain ⟨as, rd⟩ := Dp.reads I t v u dp ru
    have fin : ∀ (h' : Heap) (u : Tok) (tk : Nat), (∀ b o, s.heap.get? b = some o → h'.get? b = some o) → EP X pins σ Q (.str t.shown u) { s with heap := h', toks := tk } := fun h' u tk kp =>
      ⟨.str _, H, I.kept (t' := tk) kp, ⟨_, rfl⟩, q _ _ (.refl H) m dstr⟩
    have ref : ∀ a, u = .ref a → wpAny (model X.prog X.w) X.A (call (.builtin "repr") [u]) (EP X pins σ Q) X.xe s := by
      rintro a rfl
      exact repr_of_reads' rd h2 (PyData.noDict_hsm (dat_noDict t _ h1)) hg (by omega) (fun _ _ e => e) fin h3
    cases dp with
    | non =>
      cases ru
      simp only [PyData.shown] at fin
      exact PySem.P.repr_of_none (fin s.heap _ _ fun _ _ e => e)
    | bl b =>
      cases ru
      simp only [PyData.shown] at fin
      exact PySem.P.repr_of_bool (fin s.heap _ _ fun _ _ e => e)
    | int i =>
      obtain ⟨t, rfl⟩ := ru
      simp only [PyData.shown] at fin
      have h2 : decide (i.natAbs.log2 < 1920) = true := by simpa only [PyData.showable] using h2
      exact PySem.P.repr_of_int (of_decide_eq_true h2) (fin s.heap _ _ fun _ _ e => e)
    | str z =>
      obtain ⟨t, rfl⟩ := ru
      simp only [PyData.shown] at fin h3
      exact PySem.P.repr_of_str (fin s.heap _ _ fun _ _ e => e) h3
    | lst h => exact ref _ ru
    | tup h => exact ref _ ru
  · exact q.elim
end
end LD

/-! LD5: the end of a law -/
namespace LD
open PySem PySem.Spec PyProof.Rows L2

/-- the script alone is told, where the module does not hold it itself -/
def scrH (t : Bool) (a : Addr) (u : HO) : Hp := fun b => if b = a then (if t then some u else none) else none
theorem scrH_other {t : Bool} {a b : Addr} {u : HO} (h : b ≠ a) : scrH t a u b = none := if_neg h
theorem scrH_f {a b : Addr} {u : HO} : scrH false a u b = none := by unfold scrH; split <;> rfl
theorem scrH_t {a : Addr} {u : HO} : scrH true a u a = some u := by unfold scrH; rw [if_pos rfl]; rfl
theorem scrH_cases {t : Bool} {a b : Addr} {u v : HO} (h : scrH t a u b = some v) : b = a ∧ t = true ∧ v = u := by
  unfold scrH at h
  split at h
  · rename_i e
    cases t
    · cases h
    · cases h; exact ⟨e, rfl, rfl⟩
  · cases h
section
variable {P : Program} {w : World} {K : PySem.W.Frag} {mg mb : Str → Option Value} {k : Nat} {fa a : Addr} {fd : FuncData} {x : Str} {sp : DSp} {s : Shared} {vs : List Value} {ns : List Int}
/-- the law's def is run at the script -/
theorem law_run (KX : K.In s.heap) (hns : s.heap.Ns mainGlobals mg) (hb : s.heap.Ns builtinsNs mb) (hbb : ∀ y : Str, y ≠ "__name__" → mb y = bootBuiltins y) (hlim : s.heap.NoLimit) (hg : s.gens = #[])
    (ha : s.heap.get? a = some { cls := .type "list", data := .seq vs.toArray }) (hi : IntsAre vs ns) (hl : ns.length ≤ sizeLine) (hr : Rm gb k callerA)
    (F : ∀ base : Heap, K.In base → base.Ns mainGlobals mg → FnG gb P w K mg base k fa fd [x] (lSp K mg 1 sp)) (hbind : ∀ (s : Shared) (u : Value), BindsTo s fd ⟨[u], []⟩ [(x, u)])
    (hsp : sp [.lst (ns.map D.int)] (fun _ => none) (fun d _ => d = .bl true) xNo) :
    codeAny (model P w) callerA (.call (.ref fa) ⟨[.ref a], []⟩) (fun r s' => r = .ok (.ret (.bool true)) ∧ OldK s.heap s'.heap ∧ s'.os = s.os ∧ AllBare s'.gens) s := by
  let ob : Obj := { cls := .type "list", data := .seq vs.toArray }
  let u : HO := .frz ob (.lst (ns.map V.int))
  have rv := vals_ints hi
  have hlen := hi.length
  -- at any choice of t that fits, the run
  have go : ∀ t : Bool, (t = true → K.lookup a = none) → (t = false → K.lookup a = some ob) →
      codeAny (model P w) callerA (.call (.ref fa) ⟨[.ref a], []⟩) (fun r s' => r = .ok (.ret (.bool true)) ∧ OldK s.heap s'.heap ∧ s'.os = s.os ∧ AllBare s'.gens) s := by
    intro t ht hf
    have ok : HOk P w (scrH t a u) s.heap := by
      intro b v e
      obtain ⟨rfl, _, rfl⟩ := scrH_cases e
      exact ⟨ha, by rw [List.length_map]; exact hl, vs, _, rv, ha⟩
    have dict : ∀ {b : Addr} {o : Obj} {es : Array DictEntry} {ep : Nat}, s.heap.get? b = some o → o.data = .dict es ep → scrH t a u b = none := by
      intro b o es ep e d
      refine scrH_other fun z => ?_
      subst z
      rw [ha] at e
      cases e
      exact nomatch (show Data.seq vs.toArray _ = Data.dict es ep from d)
    have nsB : ∀ {b : Addr} {m : Str → Option Value}, s.heap.Ns b m → (hidT s.heap (scrH t a u)).Ns b m := fun ⟨o, es, ep, e, d, r⟩ => ⟨o, es, ep, hidT_get e (dict e d), d, r⟩
    have KB : K.In (hidT s.heap (scrH t a u)) := by
      intro b o e
      refine hidT_get (KX b o e) ?_
      cases q : scrH t a u b with
      | none => rfl
      | some v =>
        obtain ⟨rfl, ht', _⟩ := scrH_cases q
        rw [ht ht'] at e
        cases e
    have md : Mod K mg (hidT s.heap (scrH t a u)) := ⟨KB, nsB hns, ⟨mb, nsB hb, hbb⟩, hlim.elim fun mc z => ⟨mc, nsB z.1, z.2⟩⟩
    have e0 : Env0 P w K mg (hidT s.heap (scrH t a u)) callerA [] s (scrH t a u) :=
      ⟨rfl, md, fun b o e => of_hidT e, Nat.le_of_eq (hidT_size _ _), trivial, fun b hb => (List.not_mem_nil hb).elim, ok, .of_eq hg⟩
    have dn : den K (scrH t a u) (.ref a) (.lst (ns.map D.int)) := by
      rw [den]
      refine ⟨a, ns.map V.int, rfl, ?_, dens_ints⟩
      cases t with
      | true => exact .inl ⟨ob, scrH_t⟩
      | false => exact .inr ⟨ob, vs.toArray, 0, hf rfl, rfl, rfl, rfl, by rw [List.size_toArray, hlen]; exact hl, rv⟩
    have hS : lSp K mg 1 sp [.ref a] (scrH t a u) (fun v _ => v = .bl true) fun _ _ _ => False := by
      refine ⟨rfl, _, fun _ => none, dens_cons dn dens_nil, (fun _ _ e => nomatch e), _, _, fun d M q v H' _ _ d' => ?_, fun _ _ q => q.elim, hsp⟩
      subst q
      exact lbl d'
    refine codeAny_mono ((F _ KB (nsB hns)).run (args := ⟨[.ref a], []⟩) (us := [.ref a]) (vs := [.ref a]) hr e0 (hbind s _) (.cons rfl .nil) hS) fun r s' h => ?_
    cases r with
    | error e => exact h.elim fun _ z => z.elim fun _ z => z.elim fun _ z => z.elim fun _ z => z.elim fun _ z => z.2.2.2.2.2.2.2.elim
    | ok fl =>
      cases fl with
      | next => exact h.elim
      | brk => exact h.elim
      | cont => exact h.elim
      | ret y =>
        obtain ⟨v, H', os, bare, un, ok', r', q⟩ := h
        subst q
        cases r'
        refine ⟨rfl, OldK.of_keep fun b o e => ?_, os, bare⟩
        cases q : scrH t a u b with
        | none => exact un.keep b o e q List.not_mem_nil List.not_mem_nil
        | some v =>
          obtain ⟨rfl, _, rfl⟩ := scrH_cases q
          have e1 := (ok' _ _ (un.frzs _ _ _ q)).1
          rw [ha] at e
          cases e
          exact e1
  cases hk : K.lookup a with
  | none => exact go true (fun _ => hk) fun z => nomatch z
  | some o =>
    have e := KX a o hk
    rw [ha] at e
    cases e
    exact go false (fun z => nomatch z) fun _ => hk
end
theorem rm_caller {k : Nat} (h1 : callerA.depth + 3 * k + 5 < recursionLimit) (h2 : callerA.units + 16 * k + 200 < cLine) : Rm gb k callerA := ⟨⟨rfl, h1, h2⟩, fun _ => rfl⟩
/-- a law, from its def's promise -/
theorem law_end {l : PySem.W.OpenLaw} {n k : Nat} {q : Program} {loose : List Str} {XP : (Str → Option Value) → Heap → Prop} {YP : World → Heap → Prop} {d : DefRec} {x : Str}
    (hn : l.most = some n) (hn2 : n ≤ sizeLine) (hdf : d.params.defaults = []) (hr : Rm gb k callerA)
    (F : ∀ (w : World) (mg : Str → Option Value) (fa : Addr) (h : Heap), YP w h → h.Ns mainGlobals mg → mg d.name = some (.ref fa) →
      ∃ (K : PySem.W.Frag) (fd : FuncData) (sp : DSp), K.In h ∧ (∀ (s : Shared) (u : Value), BindsTo s fd ⟨[u], []⟩ [(x, u)]) ∧
        (∀ ns : List Int, ns.length ≤ n → sp [.lst (ns.map D.int)] (fun _ => none) (fun d _ => d = .bl true) xNo) ∧
        ∀ base : Heap, K.In base → base.Ns mainGlobals mg → FnG gb l.prog w K mg base k fa fd [x] (lSp K mg 1 sp)) :
    PySem.W.WalkO q loose XP YP l.row.toRowW d [] (fun f vs => PySem.call f vs) := by
  apply Att.attach_call hn hdf
  intro w s₀ s₁ mg mb fa o pm cd doc a vs ns G Y ho hd hcd hmg hobj hints hlen hg
  obtain ⟨K, fd, sp, KX, hb, hsp, hF⟩ := F w mg fa _ Y G.T.g hmg
  exact law_run KX G.T.g G.T.b G.T.builtins G.T.nolimit hg hobj hints (Nat.le_trans hlen hn2) hr hF hb (hsp ns hlen)
end LD

/-! LD6: built-in names; numbers -/
namespace LD
open PySem PySem.Spec PyProof.Rows L2

theorem bb_len : bootBuiltins "len" = some (.builtin "len") := by decide +kernel
theorem bb_abs : bootBuiltins "abs" = some (.builtin "abs") := by decide +kernel
theorem bb_repr : bootBuiltins "repr" = some (.builtin "repr") := by decide +kernel
theorem bb_isinstance : bootBuiltins "isinstance" = some (.builtin "isinstance") := by decide +kernel
theorem bb_int : bootBuiltins "int" = some (.type "int") := by decide +kernel
theorem bb_bool : bootBuiltins "bool" = some (.type "bool") := by decide +kernel
theorem bb_str : bootBuiltins "str" = some (.type "str") := by decide +kernel
theorem bb_list : bootBuiltins "list" = some (.type "list") := by decide +kernel
theorem bb_tuple : bootBuiltins "tuple" = some (.type "tuple") := by decide +kernel
theorem bb_dict : bootBuiltins "dict" = some (.type "dict") := by decide +kernel

/-! ### what operations do, by constructors -/
section
variable {i j : Int} {b c : Bool} {x y : Str} {p q : Addr} {d e : D} {ds es : List D} {M : DM} {Q : D → DM → Prop} {neg : Bool} {f : Int → Int → Bool}
theorem r_add_ii : oAdd.run (.int i) (.int j) M Q = Q (.int (i + j)) M := rfl
theorem r_add_ss : oAdd.run (.str x) (.str y) M Q = (x.length + y.length ≤ sizeLine ∧ Q (.str (x ++ y)) M) := rfl
theorem r_add_tt : oAdd.run (.tup ds) (.tup es) M Q = (ds.length + es.length ≤ sizeLine ∧ Q (.tup (ds ++ es)) M) := rfl
theorem r_add_r : oAdd.run (.ref p) d M Q = (∃ a b, isL M (.ref p) a ∧ isL M d b ∧ a.length + b.length ≤ sizeLine ∧ ∀ q, M q = none → Q (.ref q) (put M q (.lst (a ++ b)))) := rfl
theorem r_add_l : oAdd.run (.lst ds) d M Q = (∃ a b, isL M (.lst ds) a ∧ isL M d b ∧ a.length + b.length ≤ sizeLine ∧ ∀ q, M q = none → Q (.ref q) (put M q (.lst (a ++ b)))) := rfl
theorem r_add_ib : oAdd.run (.int i) (.bl b) M Q = Q (.int (i + b2i b)) M := rfl
theorem r_add_bi : oAdd.run (.bl b) (.int i) M Q = Q (.int (b2i b + i)) M := rfl
theorem r_add_bb : oAdd.run (.bl b) (.bl c) M Q = Q (.int (b2i b + b2i c)) M := rfl
theorem r_sub_ii : oSub.run (.int i) (.int j) M Q = Q (.int (i - j)) M := rfl
theorem r_sub_bb : oSub.run (.bl b) (.bl c) M Q = Q (.int (b2i b - b2i c)) M := rfl
theorem r_mul_ii : oMul.run (.int i) (.int j) M Q = (MulOk i j ∧ Q (.int (i * j)) M) := rfl
theorem r_mul_si : oMul.run (.str x) (.int i) M Q = (PySem.MulOk x i ∧ Q (.str (Txt.mul x i)) M) := rfl
theorem r_fdiv_ii : oFdiv.run (.int i) (.int j) M Q = (CDivW i j ∧ Q (.int (i / j)) M) := rfl
theorem r_mod_ii : oMod.run (.int i) (.int j) M Q = (0 < j ∧ Q (.int (i % j)) M) := rfl
theorem r_pow_ii : oPow.run (.int i) (.int j) M Q = (CPow i j ∧ Q (.int (i ^ j.toNat)) M) := rfl
theorem r_neg_i : oNeg.run (.int i) M Q = Q (.int (-i)) M := rfl
theorem r_eq_ii : (oEqN neg).run (.int i) (.int j) M Q = Q (.bl (decide (i = j) ^^ neg)) M := rfl
theorem r_eq_ss : (oEqN neg).run (.str x) (.str y) M Q = Q (.bl (decide (x = y) ^^ neg)) M := rfl
theorem r_eq_t : (oEqN neg).run (.tup ds) d M Q = (∃ t u, dat M t (.tup ds) ∧ dat M u d ∧ SeqAt.shaped t = true ∧ SeqAt.shaped u = true ∧ Q (.bl (PyData.eqv t u ^^ neg)) M) := rfl
theorem r_eq_r : (oEqN neg).run (.ref p) d M Q = (∃ t u, dat M t (.ref p) ∧ dat M u d ∧ SeqAt.shaped t = true ∧ SeqAt.shaped u = true ∧ Q (.bl (PyData.eqv t u ^^ neg)) M) := rfl
theorem r_ord_ii : (oOrd f).run (.int i) (.int j) M Q = Q (.bl (f i j)) M := rfl
theorem r_ix_t : oIx.run (.tup ds) (.int i) M Q = (∃ es d, isSeq M (.tup ds) es ∧ atI es i = some d ∧ Q d M) := rfl
theorem r_ix_l : oIx.run (.lst ds) (.int i) M Q = (∃ es d, isSeq M (.lst ds) es ∧ atI es i = some d ∧ Q d M) := rfl
theorem r_ix_r : oIx.run (.ref p) (.int i) M Q = (∃ es d, isSeq M (.ref p) es ∧ atI es i = some d ∧ Q d M) := rfl
theorem r_ix_s : oIx.run (.str x) (.int i) M Q = (∃ c, x.length ≤ sizeLine ∧ atI x.cps.toList i = some c ∧ Q (.str ⟨#[c]⟩) M) := rfl
theorem r_len_s : rLen.run [.str x] M Q = (x.length ≤ sizeLine ∧ Q (.int x.length) M) := rfl
theorem r_len_t : rLen.run [.tup ds] M Q = Q (.int ds.length) M := rfl
theorem r_len_l : rLen.run [.lst ds] M Q = Q (.int ds.length) M := rfl
theorem r_len_r : rLen.run [.ref p] M Q = (∃ ds, isL M (.ref p) ds ∧ Q (.int ds.length) M) := rfl
theorem r_abs_i : rAbs.run [.int i] M Q = Q (.int (i.natAbs : Int)) M := rfl
theorem r_int_i : rInt.run [.int i] M Q = Q (.int i) M := rfl
theorem r_int_b : rInt.run [.bl b] M Q = Q (.int (b2i b)) M := rfl
theorem r_list : rList.run [d] M Q = (∃ ds, isSeq M d ds ∧ ∀ p, M p = none → Q (.ref p) (put M p (.lst ds))) := rfl
theorem r_tuple : rTuple.run [d] M Q = (∃ ds, isSeq M d ds ∧ Q (.tup ds) M) := rfl
theorem r_repr_s : rRepr.run [.str x] M Q = ((reprText x).length ≤ sizeLine ∧ Q (.str (reprText x)) M) := rfl
theorem r_repr_i : rRepr.run [.int i] M Q = (∃ t, dat M t (.int i) ∧ t.showable = true ∧ t.shown.length ≤ sizeLine ∧ t.depth < 100 ∧ Q (.str t.shown) M) := rfl
theorem r_repr_t : rRepr.run [.tup ds] M Q = (∃ t, dat M t (.tup ds) ∧ t.showable = true ∧ t.shown.length ≤ sizeLine ∧ t.depth < 100 ∧ Q (.str t.shown) M) := rfl
theorem r_repr_r : rRepr.run [.ref p] M Q = (∃ t, dat M t (.ref p) ∧ t.showable = true ∧ t.shown.length ≤ sizeLine ∧ t.depth < 100 ∧ Q (.str t.shown) M) := rfl
end

/-! ### types of values -/
theorem tyQ_get {d : D} {M : DM} {Q : Ty → Prop} (h : tyQ d M Q) : ∃ T, Q T ∧ ∀ Q' : Ty → Prop, Q' T → tyQ d M Q' := by
  cases d with
  | ref p =>
    rcases h with ⟨ds, h1, h2⟩ | ⟨kvs, h1, h2⟩
    · exact ⟨.list, h2, fun Q' q => .inl ⟨ds, h1, q⟩⟩
    · exact ⟨.dict, h2, fun Q' q => .inr ⟨kvs, h1, q⟩⟩
  | ty n => exact h.elim
  | _ => exact ⟨_, h, fun Q' q => q⟩
/-- its type can be told -/
def Kn (M : DM) (d : D) : Prop := tyQ d M fun _ => True
def isIntD : D → Bool
  | .int _ => true
  | _ => false
theorem Kn.go {M : DM} {d : D} (h : Kn M d) : ∃ T, (isi T .int && !isi T .bool) = isIntD d ∧ (T = .tuple ↔ ∃ ds, d = .tup ds) ∧ ∀ Q' : Ty → Prop, Q' T → tyQ d M Q' := by
  cases d with
  | ref p =>
    rcases h with ⟨ds, h1, h2⟩ | ⟨kvs, h1, h2⟩
    · exact ⟨.list, rfl, ⟨nofun, nofun⟩, fun Q' q => .inl ⟨ds, h1, q⟩⟩
    · exact ⟨.dict, rfl, ⟨nofun, nofun⟩, fun Q' q => .inr ⟨kvs, h1, q⟩⟩
  | ty n => exact h.elim
  | tup ds => exact ⟨.tuple, rfl, ⟨fun _ => ⟨ds, rfl⟩, fun _ => rfl⟩, fun Q' q => q⟩
  | non => exact ⟨.none, rfl, ⟨nofun, nofun⟩, fun Q' q => q⟩
  | bl b => exact ⟨.bool, rfl, ⟨nofun, nofun⟩, fun Q' q => q⟩
  | int i => exact ⟨.int, rfl, ⟨nofun, nofun⟩, fun Q' q => q⟩
  | str i => exact ⟨.str, rfl, ⟨nofun, nofun⟩, fun Q' q => q⟩
  | lst i => exact ⟨.list, rfl, ⟨nofun, nofun⟩, fun Q' q => q⟩
  | dct i => exact ⟨.dict, rfl, ⟨nofun, nofun⟩, fun Q' q => q⟩

/-! ### numbers -/
abbrev S_is_integer : DSp := fun ds M Q X => ∃ x, ds = [x] ∧ Kn M x ∧ Q (.bl (isIntD x)) M
abbrev S_common : DSp := fun ds M Q X => ∃ a b : Nat, ds = [.int a, .int b] ∧ Q (.int (Nat.gcd a b : Nat)) M
/-- the number n / d -/
def numD (n d : Int) : D := .tup [.int (n / (Nat.gcd n.natAbs d.natAbs : Nat)), .int (d / (Nat.gcd n.natAbs d.natAbs : Nat))]
def Sm (k : Nat) (i : Int) : Prop := i.natAbs < 2 ^ k
abbrev S_reduced : DSp := fun ds M Q X => ∃ n d : Int, ds = [.int n, .int d] ∧ 0 < d ∧ Sm 9000 d ∧ Q (numD n d) M
/-- a value that is a number -/
def isNum : D → Bool
  | .tup [.int n, .int d] => decide (1 ≤ d) && decide (Nat.gcd n.natAbs d.natAbs = 1)
  | _ => false
/-- so much is known that is_number can be asked -/
def KnN (M : DM) : D → Prop
  | .tup ds => ds.length ≤ sizeLine ∧ ∀ d ∈ ds, Kn M d
  | d => Kn M d
abbrev S_is_number : DSp := fun ds M Q X => ∃ x, ds = [x] ∧ KnN M x ∧ Q (.bl (isNum x)) M
abbrev S_need_number : DSp := fun ds M Q X => ∃ x, ds = [x] ∧ KnN M x ∧ bcase (isNum x) (Q .non M) (X "NoNumber" M)
abbrev S_number_of : DSp := fun ds M Q X => ∃ n d, ds = [n, d] ∧ Kn M n ∧ Kn M d ∧ match n, d with
  | .int n, .int d => bcase (decide (d < 1)) (X "NoDivisor" M) (Sm 9000 d ∧ Q (numD n d) M)
  | .int _, _ => X "NoDivisor" M
  | _, _ => X "NoNumber" M
abbrev S_raw_plus : DSp := fun ds M Q X => ∃ a b c d : Int, ds = [.tup [.int a, .int b], .tup [.int c, .int d]] ∧ 0 < b ∧ 0 < d ∧ Sm 4000 a ∧ Sm 4000 b ∧ Sm 4000 c ∧ Sm 4000 d ∧ Q (numD (a * d + c * b) (b * d)) M
abbrev S_raw_minus : DSp := fun ds M Q X => ∃ a b c d : Int, ds = [.tup [.int a, .int b], .tup [.int c, .int d]] ∧ 0 < b ∧ 0 < d ∧ Sm 4000 a ∧ Sm 4000 b ∧ Sm 4000 c ∧ Sm 4000 d ∧ Q (numD (a * d - c * b) (b * d)) M
def cmpN (a b c d : Int) : Int := b2i (decide (a * d > c * b)) - b2i (decide (a * d < c * b))
abbrev S_raw_compared : DSp := fun ds M Q X => ∃ a b c d : Int, ds = [.tup [.int a, .int b], .tup [.int c, .int d]] ∧ Sm 4000 a ∧ Sm 4000 b ∧ Sm 4000 c ∧ Sm 4000 d ∧ Q (.int (cmpN a b c d)) M
/-- plus, minus, compared, by the answer for numbers -/
def twoN (f : Int → Int → Int → Int → D) (x y : D) (M : DM) (Q : D → DM → Prop) (X : XD) : Prop := KnN M x ∧ bcase (isNum x) (KnN M y ∧ bcase (isNum y)
  (∃ a b c d : Int, x = .tup [.int a, .int b] ∧ y = .tup [.int c, .int d] ∧ Sm 4000 a ∧ Sm 4000 b ∧ Sm 4000 c ∧ Sm 4000 d ∧ Q (f a b c d) M) (X "NoNumber" M)) (X "NoNumber" M)
abbrev S_plus : DSp := fun ds M Q X => ∃ x y, ds = [x, y] ∧ twoN (fun a b c d => numD (a * d + c * b) (b * d)) x y M Q X
abbrev S_minus : DSp := fun ds M Q X => ∃ x y, ds = [x, y] ∧ twoN (fun a b c d => numD (a * d - c * b) (b * d)) x y M Q X
abbrev S_compared : DSp := fun ds M Q X => ∃ x y, ds = [x, y] ∧ twoN (fun a b c d => .int (cmpN a b c d)) x y M Q X

def b_is_integer (X : XD) : DS :=
  dEnd (dRet (dAndV (dIsi .int (dVar 0)) (dNotV (dIsi .bool (dVar 0)))))
def b_common (X : XD) : DS :=
  dSeq (dWhile (dTB (dOp oNe (dVar 1) (dC (.int 0)))) (dEnd (dPar2 0 1 (dCons (dVar 1) (dCons (dOp oMod (dVar 0) (dVar 1)) (dNil))))))
  (dEnd (dRet (dVar 0)))
def b_reduced (X : XD) : DS :=
  dSeq (dSet 2 (dCall S_common (dCons (dCB rAbs (dCons (dVar 0) (dNil))) (dCons (dVar 1) (dNil))) X))
  (dEnd (dRet (dTup (dCons (dOp oFdiv (dVar 0) (dVar 2)) (dCons (dOp oFdiv (dVar 1) (dVar 2)) (dNil))))))
def b_is_number (X : XD) : DS :=
  dSeq (dIfS (dOrT (dNotT (dTB (dIsi .tuple (dVar 0)))) (dOrT (dTB (dOp oNe (dCB rLen (dCons (dVar 0) (dNil))) (dC (.int 2)))) (dOrT (dNotT (dTB (dCall S_is_integer (dCons (dOp oIx (dVar 0) (dC (.int 0))) (dNil)) X))) (dNotT (dTB (dCall S_is_integer (dCons (dOp oIx (dVar 0) (dC (.int 1))) (dNil)) X)))))) (dEnd (dRet (dC (.bl false)))) (dSNil))
  (dEnd (dRet (dAndV (dOp oGe (dOp oIx (dVar 0) (dC (.int 1))) (dC (.int 1))) (dOp oEq (dCall S_common (dCons (dCB rAbs (dCons (dOp oIx (dVar 0) (dC (.int 0))) (dNil))) (dCons (dOp oIx (dVar 0) (dC (.int 1))) (dNil))) X) (dC (.int 1))))))
def b_need_number (X : XD) : DS :=
  dEnd (dIfS (dNotT (dTB (dCall S_is_number (dCons (dVar 0) (dNil)) X))) (dEnd (dRaise "NoNumber" X)) (dSNil))
def b_number_of (X : XD) : DS :=
  dSeq (dIfS (dNotT (dTB (dCall S_is_integer (dCons (dVar 0) (dNil)) X))) (dEnd (dRaise "NoNumber" X)) (dSNil))
  (dSeq (dIfS (dOrT (dNotT (dTB (dCall S_is_integer (dCons (dVar 1) (dNil)) X))) (dTB (dOp oLt (dVar 1) (dC (.int 1))))) (dEnd (dRaise "NoDivisor" X)) (dSNil))
  (dEnd (dRet (dCall S_reduced (dCons (dVar 0) (dCons (dVar 1) (dNil))) X))))
def b_raw_plus (X : XD) : DS :=
  dEnd (dRet (dCall S_reduced (dCons (dOp oAdd (dOp oMul (dOp oIx (dVar 0) (dC (.int 0))) (dOp oIx (dVar 1) (dC (.int 1)))) (dOp oMul (dOp oIx (dVar 1) (dC (.int 0))) (dOp oIx (dVar 0) (dC (.int 1))))) (dCons (dOp oMul (dOp oIx (dVar 0) (dC (.int 1))) (dOp oIx (dVar 1) (dC (.int 1)))) (dNil))) X))
def b_raw_minus (X : XD) : DS :=
  dEnd (dRet (dCall S_reduced (dCons (dOp oSub (dOp oMul (dOp oIx (dVar 0) (dC (.int 0))) (dOp oIx (dVar 1) (dC (.int 1)))) (dOp oMul (dOp oIx (dVar 1) (dC (.int 0))) (dOp oIx (dVar 0) (dC (.int 1))))) (dCons (dOp oMul (dOp oIx (dVar 0) (dC (.int 1))) (dOp oIx (dVar 1) (dC (.int 1)))) (dNil))) X))
def b_raw_compared (X : XD) : DS :=
  dSeq (dPar2 2 3 (dCons (dOp oMul (dOp oIx (dVar 0) (dC (.int 0))) (dOp oIx (dVar 1) (dC (.int 1)))) (dCons (dOp oMul (dOp oIx (dVar 1) (dC (.int 0))) (dOp oIx (dVar 0) (dC (.int 1)))) (dNil))))
  (dEnd (dRet (dOp oSub (dOp oGt (dVar 2) (dVar 3)) (dOp oLt (dVar 2) (dVar 3)))))
def b_plus (X : XD) : DS :=
  dSeq (dDrop (dCall S_need_number (dCons (dVar 0) (dNil)) X))
  (dSeq (dDrop (dCall S_need_number (dCons (dVar 1) (dNil)) X))
  (dEnd (dRet (dCall S_raw_plus (dCons (dVar 0) (dCons (dVar 1) (dNil))) X))))
def b_minus (X : XD) : DS :=
  dSeq (dDrop (dCall S_need_number (dCons (dVar 0) (dNil)) X))
  (dSeq (dDrop (dCall S_need_number (dCons (dVar 1) (dNil)) X))
  (dEnd (dRet (dCall S_raw_minus (dCons (dVar 0) (dCons (dVar 1) (dNil))) X))))
def b_compared (X : XD) : DS :=
  dSeq (dDrop (dCall S_need_number (dCons (dVar 0) (dNil)) X))
  (dSeq (dDrop (dCall S_need_number (dCons (dVar 1) (dNil)) X))
  (dEnd (dRet (dCall S_raw_compared (dCons (dVar 0) (dCons (dVar 1) (dNil))) X))))

theorem p_is_integer (ds : List D) (M : DM) (Q : D → DM → Prop) (X : XD) (hl : ds.length = 1) (h : S_is_integer ds M Q X) : (b_is_integer (wkX X)).run (spEnds Q) (dStart 1 ds) M := by
  obtain ⟨x, rfl, kn, q⟩ := h
  show (b_is_integer _).run (spEnds Q) [some x] M
  obtain ⟨T, e, _, go⟩ := kn.go
  dsimp only [dSeq, dEnd, dSNil, dPass, dBreak, dCont, dNever, dDrop, dRet, dRetN, dIfS, dName, dAsg, dSet, dPar2, dPar3, dGNil, dGCons, dGTup, dSubL, dWhile, dFor, dItSeq, dItR1, dItR2, dItEnum, dVar, dC, dNil, dCons, dTup, dLst, dOp, dUn, dTB, dAndT, dOrT, dNotT, dAndV, dOrV, dNotV, dIf, dChain, dSlice, dNoP, dPart, dCB, dIsi, dCall, dRaise, oEq, oNe, oLt, oLe, oGt, oGe, oIsN, r_add_ii, r_add_ss, r_add_tt, r_add_r, r_add_l, r_add_ib, r_add_bi, r_add_bb, r_sub_ii, r_sub_bb, r_mul_ii, r_mul_si, r_fdiv_ii, r_mod_ii, r_pow_ii, r_neg_i, r_eq_ii, r_eq_ss, r_ord_ii, r_ix_t, r_ix_l, r_ix_r, r_ix_s, r_len_s, r_len_t, r_len_l, r_len_r, r_abs_i, r_int_i, r_int_b, r_list, r_tuple, r_repr_s, spEnds, wkX, List.getElem?_cons_zero, List.getElem?_cons_succ, List.set_cons_zero, List.set_cons_succ, b_is_integer]
  refine go _ ?_
  rw [← e] at q
  cases h : isi T .int
  · rw [h] at q
    exact .here q
  · rw [h] at q
    refine bcase_t rfl (go _ ?_)
    exact .here q
theorem gcd_step (a b : Nat) (h : b ≠ 0) : Nat.gcd b (a % b) = Nat.gcd a b := by rw [Nat.gcd_comm b (a % b), ← Nat.gcd_rec, Nat.gcd_comm]
theorem common_loop {E : DEnds} {M : DM} : ∀ n a b : Nat, b ≤ n → E.nx [some (.int (Nat.gcd a b : Nat)), some (.int 0)] M →
    whRun (dTB (dOp oNe (dVar 1) (dC (.int 0)))) (dEnd (dPar2 0 1 (dCons (dVar 1) (dCons (dOp oMod (dVar 0) (dVar 1)) (dNil))))) E (n + 1) [some (.int a), some (.int b)] M := by
  intro n
  induction n with
  | zero =>
    intro a b hb q
    have e : b = 0 := by omega
    subst e
    rw [Nat.gcd_zero_right] at q
    exact q
  | succ n ih =>
    intro a b hb q
    rw [whRun]
    dsimp only [dSeq, dEnd, dSNil, dPass, dBreak, dCont, dNever, dDrop, dRet, dRetN, dIfS, dName, dAsg, dSet, dPar2, dPar3, dGNil, dGCons, dGTup, dSubL, dWhile, dFor, dItSeq, dItR1, dItR2, dItEnum, dVar, dC, dNil, dCons, dTup, dLst, dOp, dUn, dTB, dAndT, dOrT, dNotT, dAndV, dOrV, dNotV, dIf, dChain, dSlice, dNoP, dPart, dCB, dIsi, dCall, dRaise, oEq, oNe, oLt, oLe, oGt, oGe, oIsN, r_add_ii, r_add_ss, r_add_tt, r_add_r, r_add_l, r_add_ib, r_add_bi, r_add_bb, r_sub_ii, r_sub_bb, r_mul_ii, r_mul_si, r_fdiv_ii, r_mod_ii, r_pow_ii, r_neg_i, r_eq_ii, r_eq_ss, r_ord_ii, r_ix_t, r_ix_l, r_ix_r, r_ix_s, r_len_s, r_len_t, r_len_l, r_len_r, r_abs_i, r_int_i, r_int_b, r_list, r_tuple, r_repr_s, spEnds, wkX, List.getElem?_cons_zero, List.getElem?_cons_succ, List.set_cons_zero, List.set_cons_succ]
    by_cases e : b = 0
    · subst e
      rw [Nat.gcd_zero_right] at q
      exact bcase_f (by decide) q
    · refine bcase_t (by simpa using e) ⟨by omega, .here ?_⟩
      refine ih b (a % b) ?_ ?_
      · have := Nat.mod_lt a (show b > 0 by omega)
        omega
      · rw [gcd_step a b e]; exact q
theorem p_common (ds : List D) (M : DM) (Q : D → DM → Prop) (X : XD) (hl : ds.length = 2) (h : S_common ds M Q X) : (b_common (wkX X)).run (spEnds Q) (dStart 2 ds) M := by
  obtain ⟨a, b, rfl, q⟩ := h
  show (b_common _).run (spEnds Q) [some (.int a), some (.int b)] M
  dsimp only [b_common, dSeq, dWhile]
  refine ⟨b + 1, common_loop b a b (Nat.le_refl b) (.here ?_)⟩
  exact .here q
theorem szle {n : Nat} (h : n ≤ 100000 := by decide) : n ≤ sizeLine := Nat.le_trans h (by decide)
theorem cdivw {i j : Int} (h : 0 < j) (s : Sm 9000 j) : CDivW i j := ⟨h, by
  by_cases e : j.natAbs = 0
  · omega
  · exact (Nat.log2_lt e).mpr s⟩
theorem Sm.le {k : Nat} {i j : Int} (h : Sm k i) (e : j.natAbs ≤ i.natAbs) : Sm k j := Nat.lt_of_le_of_lt e h
theorem Sm.mono {k l : Nat} {i : Int} (h : Sm k i) (e : k ≤ l) : Sm l i := Nat.lt_of_lt_of_le h (Nat.pow_le_pow_right (by decide) e)
theorem Sm.mul {k l : Nat} {i j : Int} (h : Sm k i) (g : Sm l j) : Sm (k + l) (i * j) := by
  unfold Sm at *
  rw [Int.natAbs_mul, Nat.pow_add]
  exact Nat.mul_lt_mul_of_lt_of_lt h g
theorem Sm.add {k : Nat} {i j : Int} (h : Sm k i) (g : Sm k j) : Sm (k + 1) (i + j) := by
  unfold Sm at *
  have := Int.natAbs_add_le i j
  rw [Nat.pow_succ]
  omega
theorem Sm.sub {k : Nat} {i j : Int} (h : Sm k i) (g : Sm k j) : Sm (k + 1) (i - j) := by
  unfold Sm at *
  have := Int.natAbs_sub_le i j
  rw [Nat.pow_succ]
  omega
theorem Sm.log {k : Nat} {i : Int} (h : Sm k i) (hk : 0 < k) : i.natAbs.log2 < k := by
  by_cases e : i.natAbs = 0
  · rw [e]; exact hk
  · exact (Nat.log2_lt e).mpr h
theorem mulok {k l : Nat} {i j : Int} (h : Sm k i) (g : Sm l j) (hk : 0 < k) (hl : 0 < l) (e : k + l ≤ 1000000) : MulOk i j := .inr (by
  have h1 := h.log hk
  have h2 := g.log hl
  show _ + _ < _
  omega)
theorem mulokR {i j : Int} (h : j.natAbs < 2 ^ 64) : MulOk i j := .inl (.inr ⟨by omega, by omega⟩)
theorem gcd_pos_r {n d : Int} (h : 0 < d) : 0 < (Nat.gcd n.natAbs d.natAbs : Int) := by
  have := Nat.gcd_pos_of_pos_right n.natAbs (show 0 < d.natAbs by omega)
  omega
theorem gcd_sm {k : Nat} {n d : Int} (h : 0 < d) (s : Sm k d) : Sm k (Nat.gcd n.natAbs d.natAbs : Nat) := by
  refine s.le ?_
  rw [Int.natAbs_natCast]
  exact Nat.gcd_le_right _ (by omega)
theorem nat_of_pos {d : Int} (h : 0 < d) : ((d.natAbs : Nat) : Int) = d := by omega
theorem p_reduced (ds : List D) (M : DM) (Q : D → DM → Prop) (X : XD) (hl : ds.length = 2) (h : S_reduced ds M Q X) : (b_reduced (wkX X)).run (spEnds Q) (dStart 3 ds) M := by
  obtain ⟨n, d, rfl, hd, sm, q⟩ := h
  show (b_reduced _).run (spEnds Q) [some (.int n), some (.int d), none] M
  dsimp only [dSeq, dEnd, dSNil, dPass, dBreak, dCont, dNever, dDrop, dRet, dRetN, dIfS, dName, dAsg, dSet, dPar2, dPar3, dGNil, dGCons, dGTup, dSubL, dWhile, dFor, dItSeq, dItR1, dItR2, dItEnum, dVar, dC, dNil, dCons, dTup, dLst, dOp, dUn, dTB, dAndT, dOrT, dNotT, dAndV, dOrV, dNotV, dIf, dChain, dSlice, dNoP, dPart, dCB, dIsi, dCall, dRaise, oEq, oNe, oLt, oLe, oGt, oGe, oIsN, r_add_ii, r_add_ss, r_add_tt, r_add_r, r_add_l, r_add_ib, r_add_bi, r_add_bb, r_sub_ii, r_sub_bb, r_mul_ii, r_mul_si, r_fdiv_ii, r_mod_ii, r_pow_ii, r_neg_i, r_eq_ii, r_eq_ss, r_ord_ii, r_ix_t, r_ix_l, r_ix_r, r_ix_s, r_len_s, r_len_t, r_len_l, r_len_r, r_abs_i, r_int_i, r_int_b, r_list, r_tuple, r_repr_s, spEnds, wkX, List.getElem?_cons_zero, List.getElem?_cons_succ, List.set_cons_zero, List.set_cons_succ, b_reduced]
  refine .go ⟨n.natAbs, d.natAbs, by rw [nat_of_pos hd], .here ?_⟩
  have g := gcd_pos_r (n := n) hd
  have s := gcd_sm (n := n) hd sm
  exact ⟨cdivw g s, cdivw g s, szle (n := 2), .here q⟩
theorem isNum2 (a b : D) (h : isIntD a = true) (g : isIntD b = true) : ∃ n d : Int, a = .int n ∧ b = .int d := by
  cases a <;> first | (cases h; done) | skip
  cases b <;> first | (cases g; done) | skip
  exact ⟨_, _, rfl, rfl⟩
theorem isNum_not {a b : D} (h : isIntD a = false ∨ isIntD b = false) : isNum (.tup [a, b]) = false := by
  cases a with
  | int n => cases b with
    | int d => rcases h with h | h <;> cases h
    | _ => rfl
  | _ => rfl
theorem p_is_number (ds : List D) (M : DM) (Q : D → DM → Prop) (X : XD) (hl : ds.length = 1) (h : S_is_number ds M Q X) : (b_is_number (wkX X)).run (spEnds Q) (dStart 1 ds) M := by
  obtain ⟨x, rfl, kn, q⟩ := h
  show (b_is_number _).run (spEnds Q) [some x] M
  dsimp only [dSeq, dEnd, dSNil, dPass, dBreak, dCont, dNever, dDrop, dRet, dRetN, dIfS, dName, dAsg, dSet, dPar2, dPar3, dGNil, dGCons, dGTup, dSubL, dWhile, dFor, dItSeq, dItR1, dItR2, dItEnum, dVar, dC, dNil, dCons, dTup, dLst, dOp, dUn, dTB, dAndT, dOrT, dNotT, dAndV, dOrV, dNotV, dIf, dChain, dSlice, dNoP, dPart, dCB, dIsi, dCall, dRaise, oEq, oNe, oLt, oLe, oGt, oGe, oIsN, r_add_ii, r_add_ss, r_add_tt, r_add_r, r_add_l, r_add_ib, r_add_bi, r_add_bb, r_sub_ii, r_sub_bb, r_mul_ii, r_mul_si, r_fdiv_ii, r_mod_ii, r_pow_ii, r_neg_i, r_eq_ii, r_eq_ss, r_ord_ii, r_ix_t, r_ix_l, r_ix_r, r_ix_s, r_len_s, r_len_t, r_len_l, r_len_r, r_abs_i, r_int_i, r_int_b, r_list, r_tuple, r_repr_s, spEnds, wkX, List.getElem?_cons_zero, List.getElem?_cons_succ, List.set_cons_zero, List.set_cons_succ, b_is_number]
  by_cases hx : ∃ ds, x = .tup ds
  · obtain ⟨ds, rfl⟩ := hx
    obtain ⟨hz, kn⟩ := kn
    show bcase (decide ((ds.length : Int) = 2) ^^ true) _ _
    by_cases h2 : ds.length = 2
    · refine bcase_f (by simp [h2]) ?_
      obtain ⟨a, b, rfl⟩ : ∃ a b, ds = [a, b] := by
        match ds, h2 with
        | [a, b], _ => exact ⟨a, b, rfl⟩
      refine ⟨_, a, rfl, rfl, .go ⟨a, rfl, kn a (by simp), ?_⟩⟩
      cases ha : isIntD a
      · rw [isNum_not (.inl ha)] at q
        exact .here q
      · refine bcase_f (by rfl) ⟨_, b, rfl, rfl, .go ⟨b, rfl, kn b (by simp), ?_⟩⟩
        cases hb : isIntD b
        · rw [isNum_not (.inr hb)] at q
          exact .here q
        · obtain ⟨n, d, rfl, rfl⟩ := isNum2 a b ha hb
          refine .here ⟨_, _, rfl, rfl, ?_⟩
          dsimp only [dSeq, dEnd, dSNil, dPass, dBreak, dCont, dNever, dDrop, dRet, dRetN, dIfS, dName, dAsg, dSet, dPar2, dPar3, dGNil, dGCons, dGTup, dSubL, dWhile, dFor, dItSeq, dItR1, dItR2, dItEnum, dVar, dC, dNil, dCons, dTup, dLst, dOp, dUn, dTB, dAndT, dOrT, dNotT, dAndV, dOrV, dNotV, dIf, dChain, dSlice, dNoP, dPart, dCB, dIsi, dCall, dRaise, oEq, oNe, oLt, oLe, oGt, oGe, oIsN, r_add_ii, r_add_ss, r_add_tt, r_add_r, r_add_l, r_add_ib, r_add_bi, r_add_bb, r_sub_ii, r_sub_bb, r_mul_ii, r_mul_si, r_fdiv_ii, r_mod_ii, r_pow_ii, r_neg_i, r_eq_ii, r_eq_ss, r_ord_ii, r_ix_t, r_ix_l, r_ix_r, r_ix_s, r_len_s, r_len_t, r_len_l, r_len_r, r_abs_i, r_int_i, r_int_b, r_list, r_tuple, r_repr_s, spEnds, wkX, List.getElem?_cons_zero, List.getElem?_cons_succ, List.set_cons_zero, List.set_cons_succ]
          by_cases hd : 1 ≤ d
          · refine bcase_t (by simpa using hd) ⟨_, _, rfl, rfl, ⟨_, _, rfl, rfl, .go ⟨n.natAbs, d.natAbs, by rw [nat_of_pos hd], ?_⟩⟩⟩
            dsimp only [dSeq, dEnd, dSNil, dPass, dBreak, dCont, dNever, dDrop, dRet, dRetN, dIfS, dName, dAsg, dSet, dPar2, dPar3, dGNil, dGCons, dGTup, dSubL, dWhile, dFor, dItSeq, dItR1, dItR2, dItEnum, dVar, dC, dNil, dCons, dTup, dLst, dOp, dUn, dTB, dAndT, dOrT, dNotT, dAndV, dOrV, dNotV, dIf, dChain, dSlice, dNoP, dPart, dCB, dIsi, dCall, dRaise, oEq, oNe, oLt, oLe, oGt, oGe, oIsN, r_add_ii, r_add_ss, r_add_tt, r_add_r, r_add_l, r_add_ib, r_add_bi, r_add_bb, r_sub_ii, r_sub_bb, r_mul_ii, r_mul_si, r_fdiv_ii, r_mod_ii, r_pow_ii, r_neg_i, r_eq_ii, r_eq_ss, r_ord_ii, r_ix_t, r_ix_l, r_ix_r, r_ix_s, r_len_s, r_len_t, r_len_l, r_len_r, r_abs_i, r_int_i, r_int_b, r_list, r_tuple, r_repr_s, spEnds, wkX, List.getElem?_cons_zero, List.getElem?_cons_succ, List.set_cons_zero, List.set_cons_succ]
            refine .here ?_
            have e : isNum (.tup [.int n, .int d]) = (decide (((Nat.gcd n.natAbs d.natAbs : Nat) : Int) = 1) ^^ false) := by
              rw [Bool.xor_false]
              show (decide (1 ≤ d) && decide (Nat.gcd n.natAbs d.natAbs = 1)) = _
              rw [decide_eq_true hd, Bool.true_and]
              exact decide_eq_decide.mpr (by omega)
            rw [← e]; exact q
          · refine bcase_f (by simpa using hd) (.here ?_)
            have e : isNum (.tup [.int n, .int d]) = false := by
              show (decide (1 ≤ d) && _) = _
              rw [decide_eq_false hd]; rfl
            rw [← e]; exact q
    · refine bcase_t (by rw [decide_eq_false (by omega)]; rfl) ?_
      refine .here ?_
      have e : isNum (.tup ds) = false := by
        unfold isNum
        split
        · rename_i e; cases e; exact (h2 rfl).elim
        · rfl
      rw [← e]; exact q
  · have kn : Kn M x := by
      cases x with
      | tup ds => exact (hx ⟨ds, rfl⟩).elim
      | _ => exact kn
    obtain ⟨T, _, e, go⟩ := kn.go
    refine go _ ?_
    have n : T ≠ .tuple := fun z => hx (e.mp z)
    refine bcase_t (by cases T <;> first | rfl | exact (n rfl).elim) (.here ?_)
    have e : isNum x = false := by
      cases x with
      | tup ds => exact (hx ⟨ds, rfl⟩).elim
      | _ => rfl
    rw [← e]; exact q
theorem p_need_number (ds : List D) (M : DM) (Q : D → DM → Prop) (X : XD) (hl : ds.length = 1) (h : S_need_number ds M Q X) : (b_need_number (wkX X)).run (spEnds Q) (dStart 1 ds) M := by
  obtain ⟨x, rfl, kn, q⟩ := h
  show (b_need_number _).run (spEnds Q) [some x] M
  dsimp only [dSeq, dEnd, dSNil, dPass, dBreak, dCont, dNever, dDrop, dRet, dRetN, dIfS, dName, dAsg, dSet, dPar2, dPar3, dGNil, dGCons, dGTup, dSubL, dWhile, dFor, dItSeq, dItR1, dItR2, dItEnum, dVar, dC, dNil, dCons, dTup, dLst, dOp, dUn, dTB, dAndT, dOrT, dNotT, dAndV, dOrV, dNotV, dIf, dChain, dSlice, dNoP, dPart, dCB, dIsi, dCall, dRaise, oEq, oNe, oLt, oLe, oGt, oGe, oIsN, r_add_ii, r_add_ss, r_add_tt, r_add_r, r_add_l, r_add_ib, r_add_bi, r_add_bb, r_sub_ii, r_sub_bb, r_mul_ii, r_mul_si, r_fdiv_ii, r_mod_ii, r_pow_ii, r_neg_i, r_eq_ii, r_eq_ss, r_ord_ii, r_ix_t, r_ix_l, r_ix_r, r_ix_s, r_len_s, r_len_t, r_len_l, r_len_r, r_abs_i, r_int_i, r_int_b, r_list, r_tuple, r_repr_s, spEnds, wkX, List.getElem?_cons_zero, List.getElem?_cons_succ, List.set_cons_zero, List.set_cons_succ, b_need_number]
  refine .go ⟨x, rfl, kn, ?_⟩
  cases h : isNum x
  · rw [h] at q
    exact .here q
  · rw [h] at q
    exact .here (.here q)
theorem p_number_of (ds : List D) (M : DM) (Q : D → DM → Prop) (X : XD) (hl : ds.length = 2) (h : S_number_of ds M Q X) : (b_number_of (wkX X)).run (spEnds Q) (dStart 2 ds) M := by
  obtain ⟨n, d, rfl, kn, kd, q⟩ := h
  show (b_number_of _).run (spEnds Q) [some n, some d] M
  dsimp only [dSeq, dEnd, dSNil, dPass, dBreak, dCont, dNever, dDrop, dRet, dRetN, dIfS, dName, dAsg, dSet, dPar2, dPar3, dGNil, dGCons, dGTup, dSubL, dWhile, dFor, dItSeq, dItR1, dItR2, dItEnum, dVar, dC, dNil, dCons, dTup, dLst, dOp, dUn, dTB, dAndT, dOrT, dNotT, dAndV, dOrV, dNotV, dIf, dChain, dSlice, dNoP, dPart, dCB, dIsi, dCall, dRaise, oEq, oNe, oLt, oLe, oGt, oGe, oIsN, r_add_ii, r_add_ss, r_add_tt, r_add_r, r_add_l, r_add_ib, r_add_bi, r_add_bb, r_sub_ii, r_sub_bb, r_mul_ii, r_mul_si, r_fdiv_ii, r_mod_ii, r_pow_ii, r_neg_i, r_eq_ii, r_eq_ss, r_ord_ii, r_ix_t, r_ix_l, r_ix_r, r_ix_s, r_len_s, r_len_t, r_len_l, r_len_r, r_abs_i, r_int_i, r_int_b, r_list, r_tuple, r_repr_s, spEnds, wkX, List.getElem?_cons_zero, List.getElem?_cons_succ, List.set_cons_zero, List.set_cons_succ, b_number_of]
  refine .go ⟨n, rfl, kn, ?_⟩
  cases n with
  | int n =>
    refine .here (.go ⟨d, rfl, kd, ?_⟩)
    cases d with
    | int d =>
      dsimp only at q
      refine bcase_f (by rfl) ?_
      dsimp only [dSeq, dEnd, dSNil, dPass, dBreak, dCont, dNever, dDrop, dRet, dRetN, dIfS, dName, dAsg, dSet, dPar2, dPar3, dGNil, dGCons, dGTup, dSubL, dWhile, dFor, dItSeq, dItR1, dItR2, dItEnum, dVar, dC, dNil, dCons, dTup, dLst, dOp, dUn, dTB, dAndT, dOrT, dNotT, dAndV, dOrV, dNotV, dIf, dChain, dSlice, dNoP, dPart, dCB, dIsi, dCall, dRaise, oEq, oNe, oLt, oLe, oGt, oGe, oIsN, r_add_ii, r_add_ss, r_add_tt, r_add_r, r_add_l, r_add_ib, r_add_bi, r_add_bb, r_sub_ii, r_sub_bb, r_mul_ii, r_mul_si, r_fdiv_ii, r_mod_ii, r_pow_ii, r_neg_i, r_eq_ii, r_eq_ss, r_ord_ii, r_ix_t, r_ix_l, r_ix_r, r_ix_s, r_len_s, r_len_t, r_len_l, r_len_r, r_abs_i, r_int_i, r_int_b, r_list, r_tuple, r_repr_s, spEnds, wkX, List.getElem?_cons_zero, List.getElem?_cons_succ, List.set_cons_zero, List.set_cons_succ]
      by_cases e : d < 1
      · rw [decide_eq_true e] at q ⊢
        exact .here q
      · rw [decide_eq_false e] at q ⊢
        exact .here (.go ⟨n, d, rfl, by omega, q.1, .here q.2⟩)
    | _ => exact .here q
  | _ => exact .here q
theorem p_raw_plus (ds : List D) (M : DM) (Q : D → DM → Prop) (X : XD) (hl : ds.length = 2) (h : S_raw_plus ds M Q X) : (b_raw_plus (wkX X)).run (spEnds Q) (dStart 2 ds) M := by
  obtain ⟨a, b, c, d, rfl, hb, hd, sa, sb, sc, sd, q⟩ := h
  show (b_raw_plus _).run (spEnds Q) [some (.tup [.int a, .int b]), some (.tup [.int c, .int d])] M
  dsimp only [dSeq, dEnd, dSNil, dPass, dBreak, dCont, dNever, dDrop, dRet, dRetN, dIfS, dName, dAsg, dSet, dPar2, dPar3, dGNil, dGCons, dGTup, dSubL, dWhile, dFor, dItSeq, dItR1, dItR2, dItEnum, dVar, dC, dNil, dCons, dTup, dLst, dOp, dUn, dTB, dAndT, dOrT, dNotT, dAndV, dOrV, dNotV, dIf, dChain, dSlice, dNoP, dPart, dCB, dIsi, dCall, dRaise, oEq, oNe, oLt, oLe, oGt, oGe, oIsN, r_add_ii, r_add_ss, r_add_tt, r_add_r, r_add_l, r_add_ib, r_add_bi, r_add_bb, r_sub_ii, r_sub_bb, r_mul_ii, r_mul_si, r_fdiv_ii, r_mod_ii, r_pow_ii, r_neg_i, r_eq_ii, r_eq_ss, r_ord_ii, r_ix_t, r_ix_l, r_ix_r, r_ix_s, r_len_s, r_len_t, r_len_l, r_len_r, r_abs_i, r_int_i, r_int_b, r_list, r_tuple, r_repr_s, spEnds, wkX, List.getElem?_cons_zero, List.getElem?_cons_succ, List.set_cons_zero, List.set_cons_succ, b_raw_plus]
  refine ⟨_, _, rfl, rfl, _, _, rfl, rfl, mulok sa sd (by decide) (by decide) (by decide), ?_⟩
  refine ⟨_, _, rfl, rfl, _, _, rfl, rfl, mulok sc sb (by decide) (by decide) (by decide), ?_⟩
  refine ⟨_, _, rfl, rfl, _, _, rfl, rfl, mulok sb sd (by decide) (by decide) (by decide), ?_⟩
  exact .go ⟨_, _, rfl, Int.mul_pos hb hd, (sb.mul sd).mono (by decide), .here q⟩
theorem p_raw_minus (ds : List D) (M : DM) (Q : D → DM → Prop) (X : XD) (hl : ds.length = 2) (h : S_raw_minus ds M Q X) : (b_raw_minus (wkX X)).run (spEnds Q) (dStart 2 ds) M := by
  obtain ⟨a, b, c, d, rfl, hb, hd, sa, sb, sc, sd, q⟩ := h
  show (b_raw_minus _).run (spEnds Q) [some (.tup [.int a, .int b]), some (.tup [.int c, .int d])] M
  dsimp only [dSeq, dEnd, dSNil, dPass, dBreak, dCont, dNever, dDrop, dRet, dRetN, dIfS, dName, dAsg, dSet, dPar2, dPar3, dGNil, dGCons, dGTup, dSubL, dWhile, dFor, dItSeq, dItR1, dItR2, dItEnum, dVar, dC, dNil, dCons, dTup, dLst, dOp, dUn, dTB, dAndT, dOrT, dNotT, dAndV, dOrV, dNotV, dIf, dChain, dSlice, dNoP, dPart, dCB, dIsi, dCall, dRaise, oEq, oNe, oLt, oLe, oGt, oGe, oIsN, r_add_ii, r_add_ss, r_add_tt, r_add_r, r_add_l, r_add_ib, r_add_bi, r_add_bb, r_sub_ii, r_sub_bb, r_mul_ii, r_mul_si, r_fdiv_ii, r_mod_ii, r_pow_ii, r_neg_i, r_eq_ii, r_eq_ss, r_ord_ii, r_ix_t, r_ix_l, r_ix_r, r_ix_s, r_len_s, r_len_t, r_len_l, r_len_r, r_abs_i, r_int_i, r_int_b, r_list, r_tuple, r_repr_s, spEnds, wkX, List.getElem?_cons_zero, List.getElem?_cons_succ, List.set_cons_zero, List.set_cons_succ, b_raw_minus]
  refine ⟨_, _, rfl, rfl, _, _, rfl, rfl, mulok sa sd (by decide) (by decide) (by decide), ?_⟩
  refine ⟨_, _, rfl, rfl, _, _, rfl, rfl, mulok sc sb (by decide) (by decide) (by decide), ?_⟩
  refine ⟨_, _, rfl, rfl, _, _, rfl, rfl, mulok sb sd (by decide) (by decide) (by decide), ?_⟩
  exact .go ⟨_, _, rfl, Int.mul_pos hb hd, (sb.mul sd).mono (by decide), .here q⟩
theorem p_raw_compared (ds : List D) (M : DM) (Q : D → DM → Prop) (X : XD) (hl : ds.length = 2) (h : S_raw_compared ds M Q X) : (b_raw_compared (wkX X)).run (spEnds Q) (dStart 4 ds) M := by
  obtain ⟨a, b, c, d, rfl, sa, sb, sc, sd, q⟩ := h
  show (b_raw_compared _).run (spEnds Q) [some (.tup [.int a, .int b]), some (.tup [.int c, .int d]), none, none] M
  dsimp only [dSeq, dEnd, dSNil, dPass, dBreak, dCont, dNever, dDrop, dRet, dRetN, dIfS, dName, dAsg, dSet, dPar2, dPar3, dGNil, dGCons, dGTup, dSubL, dWhile, dFor, dItSeq, dItR1, dItR2, dItEnum, dVar, dC, dNil, dCons, dTup, dLst, dOp, dUn, dTB, dAndT, dOrT, dNotT, dAndV, dOrV, dNotV, dIf, dChain, dSlice, dNoP, dPart, dCB, dIsi, dCall, dRaise, oEq, oNe, oLt, oLe, oGt, oGe, oIsN, r_add_ii, r_add_ss, r_add_tt, r_add_r, r_add_l, r_add_ib, r_add_bi, r_add_bb, r_sub_ii, r_sub_bb, r_mul_ii, r_mul_si, r_fdiv_ii, r_mod_ii, r_pow_ii, r_neg_i, r_eq_ii, r_eq_ss, r_ord_ii, r_ix_t, r_ix_l, r_ix_r, r_ix_s, r_len_s, r_len_t, r_len_l, r_len_r, r_abs_i, r_int_i, r_int_b, r_list, r_tuple, r_repr_s, spEnds, wkX, List.getElem?_cons_zero, List.getElem?_cons_succ, List.set_cons_zero, List.set_cons_succ, b_raw_compared]
  refine ⟨_, _, rfl, rfl, _, _, rfl, rfl, mulok sa sd (by decide) (by decide) (by decide), ?_⟩
  refine ⟨_, _, rfl, rfl, _, _, rfl, rfl, mulok sc sb (by decide) (by decide) (by decide), ?_⟩
  exact .here (.here q)
theorem num_parts {x : D} (h : isNum x = true) : ∃ a b : Int, x = .tup [.int a, .int b] ∧ 0 < b ∧ Nat.gcd a.natAbs b.natAbs = 1 := by
  unfold isNum at h
  split at h
  · rename_i n d
    rw [Bool.and_eq_true] at h
    exact ⟨n, d, rfl, by have := of_decide_eq_true h.1; omega, of_decide_eq_true h.2⟩
  · cases h
theorem p_plus (ds : List D) (M : DM) (Q : D → DM → Prop) (X : XD) (hl : ds.length = 2) (h : S_plus ds M Q X) : (b_plus (wkX X)).run (spEnds Q) (dStart 2 ds) M := by
  obtain ⟨x, y, rfl, kx, q⟩ := h
  show (b_plus _).run (spEnds Q) [some x, some y] M
  dsimp only [dSeq, dEnd, dSNil, dPass, dBreak, dCont, dNever, dDrop, dRet, dRetN, dIfS, dName, dAsg, dSet, dPar2, dPar3, dGNil, dGCons, dGTup, dSubL, dWhile, dFor, dItSeq, dItR1, dItR2, dItEnum, dVar, dC, dNil, dCons, dTup, dLst, dOp, dUn, dTB, dAndT, dOrT, dNotT, dAndV, dOrV, dNotV, dIf, dChain, dSlice, dNoP, dPart, dCB, dIsi, dCall, dRaise, oEq, oNe, oLt, oLe, oGt, oGe, oIsN, r_add_ii, r_add_ss, r_add_tt, r_add_r, r_add_l, r_add_ib, r_add_bi, r_add_bb, r_sub_ii, r_sub_bb, r_mul_ii, r_mul_si, r_fdiv_ii, r_mod_ii, r_pow_ii, r_neg_i, r_eq_ii, r_eq_ss, r_ord_ii, r_ix_t, r_ix_l, r_ix_r, r_ix_s, r_len_s, r_len_t, r_len_l, r_len_r, r_abs_i, r_int_i, r_int_b, r_list, r_tuple, r_repr_s, spEnds, wkX, List.getElem?_cons_zero, List.getElem?_cons_succ, List.set_cons_zero, List.set_cons_succ, b_plus]
  refine .go ⟨x, rfl, kx, ?_⟩
  cases hx : isNum x
  · rw [hx] at q; exact .here q
  · rw [hx] at q
    refine .here (.go ⟨y, rfl, q.1, ?_⟩)
    cases hy : isNum y
    · have q := q.2; rw [hy] at q; exact .here q
    · have q := q.2; rw [hy] at q
      obtain ⟨a, b, c, d, rfl, rfl, sa, sb, sc, sd, q⟩ := q
      obtain ⟨_, _, e, hb, _⟩ := num_parts hx
      cases e
      obtain ⟨_, _, e, hd, _⟩ := num_parts hy
      cases e
      exact .here (.go ⟨a, b, c, d, rfl, hb, hd, sa, sb, sc, sd, .here q⟩)
theorem p_minus (ds : List D) (M : DM) (Q : D → DM → Prop) (X : XD) (hl : ds.length = 2) (h : S_minus ds M Q X) : (b_minus (wkX X)).run (spEnds Q) (dStart 2 ds) M := by
  obtain ⟨x, y, rfl, kx, q⟩ := h
  show (b_minus _).run (spEnds Q) [some x, some y] M
  dsimp only [dSeq, dEnd, dSNil, dPass, dBreak, dCont, dNever, dDrop, dRet, dRetN, dIfS, dName, dAsg, dSet, dPar2, dPar3, dGNil, dGCons, dGTup, dSubL, dWhile, dFor, dItSeq, dItR1, dItR2, dItEnum, dVar, dC, dNil, dCons, dTup, dLst, dOp, dUn, dTB, dAndT, dOrT, dNotT, dAndV, dOrV, dNotV, dIf, dChain, dSlice, dNoP, dPart, dCB, dIsi, dCall, dRaise, oEq, oNe, oLt, oLe, oGt, oGe, oIsN, r_add_ii, r_add_ss, r_add_tt, r_add_r, r_add_l, r_add_ib, r_add_bi, r_add_bb, r_sub_ii, r_sub_bb, r_mul_ii, r_mul_si, r_fdiv_ii, r_mod_ii, r_pow_ii, r_neg_i, r_eq_ii, r_eq_ss, r_ord_ii, r_ix_t, r_ix_l, r_ix_r, r_ix_s, r_len_s, r_len_t, r_len_l, r_len_r, r_abs_i, r_int_i, r_int_b, r_list, r_tuple, r_repr_s, spEnds, wkX, List.getElem?_cons_zero, List.getElem?_cons_succ, List.set_cons_zero, List.set_cons_succ, b_minus]
  refine .go ⟨x, rfl, kx, ?_⟩
  cases hx : isNum x
  · rw [hx] at q; exact .here q
  · rw [hx] at q
    refine .here (.go ⟨y, rfl, q.1, ?_⟩)
    cases hy : isNum y
    · have q := q.2; rw [hy] at q; exact .here q
    · have q := q.2; rw [hy] at q
      obtain ⟨a, b, c, d, rfl, rfl, sa, sb, sc, sd, q⟩ := q
      obtain ⟨_, _, e, hb, _⟩ := num_parts hx
      cases e
      obtain ⟨_, _, e, hd, _⟩ := num_parts hy
      cases e
      exact .here (.go ⟨a, b, c, d, rfl, hb, hd, sa, sb, sc, sd, .here q⟩)
theorem p_compared (ds : List D) (M : DM) (Q : D → DM → Prop) (X : XD) (hl : ds.length = 2) (h : S_compared ds M Q X) : (b_compared (wkX X)).run (spEnds Q) (dStart 2 ds) M := by
  obtain ⟨x, y, rfl, kx, q⟩ := h
  show (b_compared _).run (spEnds Q) [some x, some y] M
  dsimp only [dSeq, dEnd, dSNil, dPass, dBreak, dCont, dNever, dDrop, dRet, dRetN, dIfS, dName, dAsg, dSet, dPar2, dPar3, dGNil, dGCons, dGTup, dSubL, dWhile, dFor, dItSeq, dItR1, dItR2, dItEnum, dVar, dC, dNil, dCons, dTup, dLst, dOp, dUn, dTB, dAndT, dOrT, dNotT, dAndV, dOrV, dNotV, dIf, dChain, dSlice, dNoP, dPart, dCB, dIsi, dCall, dRaise, oEq, oNe, oLt, oLe, oGt, oGe, oIsN, r_add_ii, r_add_ss, r_add_tt, r_add_r, r_add_l, r_add_ib, r_add_bi, r_add_bb, r_sub_ii, r_sub_bb, r_mul_ii, r_mul_si, r_fdiv_ii, r_mod_ii, r_pow_ii, r_neg_i, r_eq_ii, r_eq_ss, r_ord_ii, r_ix_t, r_ix_l, r_ix_r, r_ix_s, r_len_s, r_len_t, r_len_l, r_len_r, r_abs_i, r_int_i, r_int_b, r_list, r_tuple, r_repr_s, spEnds, wkX, List.getElem?_cons_zero, List.getElem?_cons_succ, List.set_cons_zero, List.set_cons_succ, b_compared]
  refine .go ⟨x, rfl, kx, ?_⟩
  cases hx : isNum x
  · rw [hx] at q; exact .here q
  · rw [hx] at q
    refine .here (.go ⟨y, rfl, q.1, ?_⟩)
    cases hy : isNum y
    · have q := q.2; rw [hy] at q; exact .here q
    · have q := q.2; rw [hy] at q
      obtain ⟨a, b, c, d, rfl, rfl, sa, sb, sc, sd, q⟩ := q
      obtain ⟨_, _, e, hb, _⟩ := num_parts hx
      cases e
      obtain ⟨_, _, e, hd, _⟩ := num_parts hy
      cases e
      exact .here (.go ⟨a, b, c, d, rfl, sa, sb, sc, sd, .here q⟩)
end LD

/-! LD7: the pen -/
namespace LD
open PySem PySem.Spec PyProof.Rows L2

def penO (n : Nat) (o : MO) : Prop := ∃ (cs : List Int) (k rest : Nat), o = .lst [.lst (cs.map .int), .int k, .int rest] ∧ k ≤ n
/-- a pen at p, at most n cells on -/
def Pen (M : DM) (p : Addr) (n : Nat) : Prop := ∃ o, M p = some o ∧ penO n o
theorem Pen.mono {M : DM} {p : Addr} {n m : Nat} (h : Pen M p n) (e : n ≤ m) : Pen M p m := by
  obtain ⟨o, h1, cs, k, r, h2, h3⟩ := h
  exact ⟨o, h1, cs, k, r, h2, by omega⟩
theorem Pen.put {M : DM} {p q : Addr} {n : Nat} {o : MO} (h : Pen M p n) (e : M q = none) : Pen (put M q o) p n := by
  obtain ⟨u, h1, h2⟩ := h
  exact ⟨u, by rw [put_ne (fun z => by rw [z, e] at h1; cases h1)]; exact h1, h2⟩
theorem Pen.now {M : DM} {p : Addr} {n : Nat} {o : MO} (h : penO n o) : Pen (LD.put M p o) p n := ⟨o, put_same, h⟩
theorem Pen.ne {M : DM} {p q : Addr} {n : Nat} (h : Pen M p n) (e : M q = none) : q ≠ p := fun z => by
  obtain ⟨u, h1, h2⟩ := h
  rw [← z, e] at h1; cases h1

abbrev S_law_spread : DSp := fun ds M Q X => ∃ (c : Int) (n : Nat), ds = [.int c, .int n] ∧ n < 1000000 ∧ ∀ r : Nat, Q (.int r) M
abbrev S_law_open : DSp := fun ds M Q X => ∃ ns : List Int, ds = [.lst (ns.map D.int)] ∧ ns.length ≤ 63 ∧ ∀ p o, M p = none → penO 0 o → Q (.ref p) (put M p o)
abbrev S_law_take : DSp := fun ds M Q X => ∃ (p : Addr) (m : Int) (n : Nat), ds = [.ref p, .int m] ∧ 0 < m ∧ Sm 9000 m ∧ Pen M p n ∧ n < 1000000 ∧ ∀ r o, 0 ≤ r → r < m → penO (n + 1) o → Q (.int r) (put M p o)
abbrev S_law_x_pick : DSp := fun ds M Q X => ∃ (p : Addr) (x : D) (es : List D) (n : Nat), ds = [.ref p, x] ∧ (∀ M' : DM, (∀ a, a ≠ p → M' a = M a) → isSeq M' x es) ∧ (∀ r, x = .ref r → r ≠ p) ∧ 0 < es.length ∧ es.length < 1000000 ∧ Pen M p n ∧ n < 1000000 ∧ ∀ d o, d ∈ es → penO (n + 1) o → Q d (put M p o)

theorem ixN_in {n : Nat} {k : Int} (h0 : 0 ≤ k) (h1 : k < n) : ixN n k = some k.toNat := by
  unfold ixN
  rw [if_pos h0, if_pos h1]
theorem atI_in {α : Type} {ds : List α} {k : Int} (h0 : 0 ≤ k) (h1 : k < ds.length) : ∃ d, atI ds k = some d ∧ d ∈ ds := by
  unfold atI
  rw [ixN_in h0 h1]
  have h : k.toNat < ds.length := by omega
  exact ⟨ds[k.toNat], List.getElem?_eq_getElem h, List.getElem_mem h⟩
theorem cpow {i j : Int} (h0 : 0 ≤ j) (h1 : j ≤ 1000000) (h : i.natAbs < 2 ^ 64) : CPow i j := ⟨h0, h1, h⟩

def b_law_spread (X : XD) : DS :=
  dSeq (dIfS (dTB (dOp oGe (dVar 0) (dOp oPow (dC (.int 10)) (dC (.int 18))))) (dEnd (dRet (dVar 0))) (dSNil))
  (dSeq (dSet 2 (dLst (dCons (dC (.int 2147483629)) (dCons (dC (.int 2147483587)) (dCons (dC (.int 2147483579)) (dCons (dC (.int 2147483563)) (dCons (dC (.int 2147483549)) (dCons (dC (.int 2147483543)) (dCons (dC (.int 2147483497)) (dCons (dC (.int 2147483489)) (dNil)))))))))))
  (dSeq (dSet 2 (dOp oAdd (dVar 2) (dLst (dCons (dC (.int 2147483477)) (dCons (dC (.int 2147483423)) (dCons (dC (.int 2147483399)) (dCons (dC (.int 2147483353)) (dCons (dC (.int 2147483323)) (dNil)))))))))
  (dSeq (dSet 3 (dOp oMul (dOp oMod (dCB rInt (dCons (dVar 0) (dNil))) (dC (.int 1000000007))) (dOp oAdd (dOp oMul (dC (.int 2)) (dVar 1)) (dC (.int 69069)))))
  (dSeq (dSet 3 (dOp oMod (dCB rInt (dCons (dOp oPow (dOp oAdd (dOp oAdd (dVar 3) (dOp oMul (dVar 1) (dC (.int 40503)))) (dC (.int 977))) (dC (.int 3))) (dNil))) (dOp oIx (dVar 2) (dOp oMod (dCB rInt (dCons (dVar 1) (dNil))) (dC (.int 13))))))
  (dSeq (dSet 4 (dOp oMod (dCB rInt (dCons (dOp oPow (dOp oAdd (dOp oAdd (dOp oMul (dVar 3) (dOp oAdd (dVar 1) (dC (.int 3)))) (dOp oMod (dCB rInt (dCons (dVar 0) (dNil))) (dC (.int 65537)))) (dC (.int 5))) (dC (.int 5))) (dNil))) (dOp oIx (dVar 2) (dOp oMod (dCB rInt (dCons (dOp oAdd (dVar 1) (dC (.int 5))) (dNil))) (dC (.int 13))))))
  (dSeq (dSet 5 (dOp oMod (dCB rInt (dCons (dOp oPow (dOp oAdd (dOp oAdd (dVar 4) (dOp oMod (dCB rInt (dCons (dVar 3) (dNil))) (dC (.int 1009)))) (dVar 1)) (dC (.int 3))) (dNil))) (dOp oIx (dVar 2) (dOp oMod (dCB rInt (dCons (dOp oAdd (dVar 1) (dC (.int 7))) (dNil))) (dC (.int 13))))))
  (dEnd (dRet (dOp oAdd (dOp oMul (dOp oAdd (dOp oMul (dVar 3) (dC (.int 2147483647))) (dVar 4)) (dC (.int 2147483647))) (dVar 5))))))))))
def b_law_open (X : XD) : DS :=
  dSeq (dSet 1 (dCB rList (dCons (dSlice (dVar 0) dNoP (dPart (dC (.int 12)))) (dNil))))
  (dSeq (dFor (dItEnum (dSlice (dVar 0) (dPart (dC (.int 12))) (dPart (dC (.int 63))))) (dGTup (dGCons (dName 2) (dGCons (dName 3) (dGNil)))) (dEnd (dAsg (dOp oAdd (dOp oIx (dVar 1) (dOp oMod (dCB rInt (dCons (dVar 2) (dNil))) (dC (.int 12)))) (dVar 3)) (dSubL (dVar 1) (dOp oMod (dCB rInt (dCons (dVar 2) (dNil))) (dC (.int 12)))))))
  (dEnd (dRet (dLst (dCons (dVar 1) (dCons (dC (.int 0)) (dCons (dC (.int 0)) (dNil))))))))
def b_law_take (X : XD) : DS :=
  dSeq (dIfS (dTB (dOp oLt (dOp oIx (dVar 0) (dC (.int 2))) (dVar 1))) (dSeq (dSet 2 (dOp oIx (dVar 0) (dC (.int 1))))
  (dSeq (dSet 3 (dC (.int 0)))
  (dSeq (dIfS (dTB (dOp oLt (dVar 2) (dCB rLen (dCons (dOp oIx (dVar 0) (dC (.int 0))) (dNil))))) (dEnd (dSet 3 (dOp oIx (dOp oIx (dVar 0) (dC (.int 0))) (dVar 2)))) (dEnd (dIfS (dTB (dOp oGt (dCB rLen (dCons (dOp oIx (dVar 0) (dC (.int 0))) (dNil))) (dC (.int 0)))) (dEnd (dSet 3 (dOp oMod (dCB rInt (dCons (dOp oIx (dOp oIx (dVar 0) (dC (.int 0))) (dOp oMod (dCB rInt (dCons (dOp oAdd (dOp oMul (dVar 2) (dC (.int 5))) (dC (.int 3))) (dNil))) (dCB rLen (dCons (dOp oIx (dVar 0) (dC (.int 0))) (dNil))))) (dNil))) (dOp oAdd (dOp oPow (dC (.int 10)) (dC (.int 17))) (dVar 2))))) (dSNil))))
  (dSeq (dAsg (dOp oAdd (dVar 2) (dC (.int 1))) (dSubL (dVar 0) (dC (.int 1))))
  (dEnd (dAsg (dCall S_law_spread (dCons (dVar 3) (dCons (dVar 2) (dNil))) X) (dSubL (dVar 0) (dC (.int 2))))))))) (dSNil))
  (dSeq (dSet 4 (dOp oMod (dCB rInt (dCons (dOp oIx (dVar 0) (dC (.int 2))) (dNil))) (dVar 1)))
  (dSeq (dAsg (dOp oFdiv (dOp oIx (dVar 0) (dC (.int 2))) (dVar 1)) (dSubL (dVar 0) (dC (.int 2))))
  (dEnd (dRet (dVar 4)))))
def b_law_x_pick (X : XD) : DS :=
  dEnd (dRet (dOp oIx (dVar 1) (dCall S_law_take (dCons (dVar 0) (dCons (dCB rLen (dCons (dVar 1) (dNil))) (dNil))) X)))

def P8 : List D := [.int 2147483629, .int 2147483587, .int 2147483579, .int 2147483563, .int 2147483549, .int 2147483543, .int 2147483497, .int 2147483489]
def P5 : List D := [.int 2147483477, .int 2147483423, .int 2147483399, .int 2147483353, .int 2147483323]
theorem prime_in {k : Int} (h0 : 0 ≤ k) (h1 : k < 13) : ∃ j : Int, atI (P8 ++ P5) k = some (.int j) ∧ 0 < j ∧ j < 2 ^ 31 := by
  obtain ⟨d, h2, h3⟩ := atI_in (ds := P8 ++ P5) h0 h1
  have h : ∀ d ∈ P8 ++ P5, ∃ j : Int, d = .int j ∧ 0 < j ∧ j < 2 ^ 31 := by
    intro d hd
    simp only [P8, P5, List.cons_append, List.nil_append, List.mem_cons, List.not_mem_nil, or_false] at hd
    rcases hd with rfl | rfl | rfl | rfl | rfl | rfl | rfl | rfl | rfl | rfl | rfl | rfl | rfl <;> exact ⟨_, rfl, by decide, by decide⟩
  obtain ⟨j, rfl, h4⟩ := h d h3
  exact ⟨j, h2, h4⟩
theorem p_law_spread (ds : List D) (M : DM) (Q : D → DM → Prop) (X : XD) (hl : ds.length = 2) (h : S_law_spread ds M Q X) : (b_law_spread (wkX X)).run (spEnds Q) (dStart 6 ds) M := by
  obtain ⟨c, n, rfl, hn, q⟩ := h
  show (b_law_spread _).run (spEnds Q) [some (.int c), some (.int n), none, none, none, none] M
  dsimp only [dSeq, dEnd, dSNil, dPass, dBreak, dCont, dNever, dDrop, dRet, dRetN, dIfS, dName, dAsg, dSet, dPar2, dPar3, dGNil, dGCons, dGTup, dSubL, dWhile, dFor, dItSeq, dItR1, dItR2, dItEnum, dVar, dC, dNil, dCons, dTup, dLst, dOp, dUn, dTB, dAndT, dOrT, dNotT, dAndV, dOrV, dNotV, dIf, dChain, dSlice, dNoP, dPart, dCB, dIsi, dCall, dRaise, oEq, oNe, oLt, oLe, oGt, oGe, oIsN, r_add_ii, r_add_ss, r_add_tt, r_add_r, r_add_l, r_add_ib, r_add_bi, r_add_bb, r_sub_ii, r_sub_bb, r_mul_ii, r_mul_si, r_fdiv_ii, r_mod_ii, r_pow_ii, r_neg_i, r_eq_ii, r_eq_ss, r_ord_ii, r_ix_t, r_ix_l, r_ix_r, r_ix_s, r_len_s, r_len_t, r_len_l, r_len_r, r_abs_i, r_int_i, r_int_b, r_list, r_tuple, r_repr_s, spEnds, wkX, List.getElem?_cons_zero, List.getElem?_cons_succ, List.set_cons_zero, List.set_cons_succ, b_law_spread]
  refine ⟨cpow (by decide) (by decide) (by decide), ?_⟩
  by_cases hc : c ≥ 10 ^ (18 : Int).toNat
  · refine bcase_t (decide_eq_true hc) (.here ?_)
    have e : (c.toNat : Int) = c := by
      have : (0 : Int) ≤ 10 ^ (18 : Int).toNat := by decide
      omega
    rw [← e]
    exact q _
  · refine bcase_f (decide_eq_false hc) (.here ⟨szle, fun p1 f1 => .here ⟨szle, fun p2 f2 => ⟨[D.int 2147483629, D.int 2147483587, D.int 2147483579, D.int 2147483563, D.int 2147483549, D.int 2147483543, D.int 2147483497, D.int 2147483489], [D.int 2147483477, D.int 2147483423, D.int 2147483399, D.int 2147483353, D.int 2147483323], ?_⟩⟩⟩)
    have n1 : p1 ≠ p2 := fun z => by rw [← z, put_same] at f2; cases f2
    refine ⟨.inl (by rw [put_ne n1, put_same]), .inl (by rw [put_same]), szle, fun p3 f3 => .here ?_⟩
    have hi : ∀ k : Int, ∃ j : Int, atI (P8 ++ P5) (k % 13) = some (.int j) ∧ 0 < j ∧ j < 2 ^ 31 := fun k => prime_in (by omega) (by omega)
    have hL : isSeq (put (put (put M p1 (.lst [D.int 2147483629, D.int 2147483587, D.int 2147483579, D.int 2147483563, D.int 2147483549, D.int 2147483543, D.int 2147483497, D.int 2147483489])) p2 (.lst [D.int 2147483477, D.int 2147483423, D.int 2147483399, D.int 2147483353, D.int 2147483323])) p3 (.lst ([D.int 2147483629, D.int 2147483587, D.int 2147483579, D.int 2147483563, D.int 2147483549, D.int 2147483543, D.int 2147483497, D.int 2147483489] ++ [D.int 2147483477, D.int 2147483423, D.int 2147483399, D.int 2147483353, D.int 2147483323]))) (.ref p3) (P8 ++ P5) := .inl put_same
    have fin : ∀ r : Nat, Wk (put (put (put M p1 (.lst [D.int 2147483629, D.int 2147483587, D.int 2147483579, D.int 2147483563, D.int 2147483549, D.int 2147483543, D.int 2147483497, D.int 2147483489])) p2 (.lst [D.int 2147483477, D.int 2147483423, D.int 2147483399, D.int 2147483353, D.int 2147483323])) p3 (.lst ([D.int 2147483629, D.int 2147483587, D.int 2147483579, D.int 2147483563, D.int 2147483549, D.int 2147483543, D.int 2147483497, D.int 2147483489] ++ [D.int 2147483477, D.int 2147483423, D.int 2147483399, D.int 2147483353, D.int 2147483323]))) (Q (.int r)) := fun r => .to (((Sub.new f1).trans (Sub.new f2)).trans (Sub.new f3)) (q r)
    generalize put (put (put M p1 (.lst [D.int 2147483629, D.int 2147483587, D.int 2147483579, D.int 2147483563, D.int 2147483549, D.int 2147483543, D.int 2147483497, D.int 2147483489])) p2 (.lst [D.int 2147483477, D.int 2147483423, D.int 2147483399, D.int 2147483353, D.int 2147483323])) p3 (.lst ([D.int 2147483629, D.int 2147483587, D.int 2147483579, D.int 2147483563, D.int 2147483549, D.int 2147483543, D.int 2147483497, D.int 2147483489] ++ [D.int 2147483477, D.int 2147483423, D.int 2147483399, D.int 2147483353, D.int 2147483323])) = M3 at hL fin ⊢
    have b0 : Sm 31 (c % 1000000007) := by unfold Sm; omega
    have b1 : Sm 22 (2 * (n : Int) + 69069) := by unfold Sm; omega
    have c0 : 0 ≤ c % 1000000007 * (2 * (n : Int) + 69069) := Int.mul_nonneg (by omega) (by omega)
    refine ⟨by decide, mulokR (by omega), mulokR (by omega), .here ?_⟩
    have b2 := b0.mul b1
    dsimp only [dSeq, dEnd, dSNil, dPass, dBreak, dCont, dNever, dDrop, dRet, dRetN, dIfS, dName, dAsg, dSet, dPar2, dPar3, dGNil, dGCons, dGTup, dSubL, dWhile, dFor, dItSeq, dItR1, dItR2, dItEnum, dVar, dC, dNil, dCons, dTup, dLst, dOp, dUn, dTB, dAndT, dOrT, dNotT, dAndV, dOrV, dNotV, dIf, dChain, dSlice, dNoP, dPart, dCB, dIsi, dCall, dRaise, oEq, oNe, oLt, oLe, oGt, oGe, oIsN, r_add_ii, r_add_ss, r_add_tt, r_add_r, r_add_l, r_add_ib, r_add_bi, r_add_bb, r_sub_ii, r_sub_bb, r_mul_ii, r_mul_si, r_fdiv_ii, r_mod_ii, r_pow_ii, r_neg_i, r_eq_ii, r_eq_ss, r_ord_ii, r_ix_t, r_ix_l, r_ix_r, r_ix_s, r_len_s, r_len_t, r_len_l, r_len_r, r_abs_i, r_int_i, r_int_b, r_list, r_tuple, r_repr_s, spEnds, wkX, List.getElem?_cons_zero, List.getElem?_cons_succ, List.set_cons_zero, List.set_cons_succ]
    generalize c % 1000000007 * (2 * (n : Int) + 69069) = x1 at b2 c0 ⊢
    unfold Sm at b2
    obtain ⟨j1, a1, k1, l1⟩ := hi n
    refine ⟨mulokR (by decide), cpow (by decide) (by decide) (by omega), by decide, _, _, hL, a1, k1, .here ?_⟩
    dsimp only [dSeq, dEnd, dSNil, dPass, dBreak, dCont, dNever, dDrop, dRet, dRetN, dIfS, dName, dAsg, dSet, dPar2, dPar3, dGNil, dGCons, dGTup, dSubL, dWhile, dFor, dItSeq, dItR1, dItR2, dItEnum, dVar, dC, dNil, dCons, dTup, dLst, dOp, dUn, dTB, dAndT, dOrT, dNotT, dAndV, dOrV, dNotV, dIf, dChain, dSlice, dNoP, dPart, dCB, dIsi, dCall, dRaise, oEq, oNe, oLt, oLe, oGt, oGe, oIsN, r_add_ii, r_add_ss, r_add_tt, r_add_r, r_add_l, r_add_ib, r_add_bi, r_add_bb, r_sub_ii, r_sub_bb, r_mul_ii, r_mul_si, r_fdiv_ii, r_mod_ii, r_pow_ii, r_neg_i, r_eq_ii, r_eq_ss, r_ord_ii, r_ix_t, r_ix_l, r_ix_r, r_ix_s, r_len_s, r_len_t, r_len_l, r_len_r, r_abs_i, r_int_i, r_int_b, r_list, r_tuple, r_repr_s, spEnds, wkX, List.getElem?_cons_zero, List.getElem?_cons_succ, List.set_cons_zero, List.set_cons_succ]
    have c1 := Int.emod_nonneg ((x1 + n * 40503 + 977) ^ (3 : Int).toNat) (show j1 ≠ 0 by omega)
    have d1 := Int.emod_lt_of_pos ((x1 + n * 40503 + 977) ^ (3 : Int).toNat) k1
    generalize (x1 + n * 40503 + 977) ^ (3 : Int).toNat % j1 = x2 at c1 d1 ⊢
    have b3 : Sm 53 (x2 * ((n : Int) + 3)) := Sm.mul (k := 31) (l := 22) (by unfold Sm; omega) (by unfold Sm; omega)
    unfold Sm at b3
    obtain ⟨j2, a2, k2, l2⟩ := hi (n + 5)
    refine ⟨mulokR (by omega), by decide, cpow (by decide) (by decide) (by omega), by decide, _, _, hL, a2, k2, .here ?_⟩
    dsimp only [dSeq, dEnd, dSNil, dPass, dBreak, dCont, dNever, dDrop, dRet, dRetN, dIfS, dName, dAsg, dSet, dPar2, dPar3, dGNil, dGCons, dGTup, dSubL, dWhile, dFor, dItSeq, dItR1, dItR2, dItEnum, dVar, dC, dNil, dCons, dTup, dLst, dOp, dUn, dTB, dAndT, dOrT, dNotT, dAndV, dOrV, dNotV, dIf, dChain, dSlice, dNoP, dPart, dCB, dIsi, dCall, dRaise, oEq, oNe, oLt, oLe, oGt, oGe, oIsN, r_add_ii, r_add_ss, r_add_tt, r_add_r, r_add_l, r_add_ib, r_add_bi, r_add_bb, r_sub_ii, r_sub_bb, r_mul_ii, r_mul_si, r_fdiv_ii, r_mod_ii, r_pow_ii, r_neg_i, r_eq_ii, r_eq_ss, r_ord_ii, r_ix_t, r_ix_l, r_ix_r, r_ix_s, r_len_s, r_len_t, r_len_l, r_len_r, r_abs_i, r_int_i, r_int_b, r_list, r_tuple, r_repr_s, spEnds, wkX, List.getElem?_cons_zero, List.getElem?_cons_succ, List.set_cons_zero, List.set_cons_succ]
    have c2 := Int.emod_nonneg ((x2 * (n + 3) + c % 65537 + 5) ^ (5 : Int).toNat) (show j2 ≠ 0 by omega)
    have d2 := Int.emod_lt_of_pos ((x2 * (n + 3) + c % 65537 + 5) ^ (5 : Int).toNat) k2
    generalize (x2 * (n + 3) + c % 65537 + 5) ^ (5 : Int).toNat % j2 = x3 at c2 d2 ⊢
    obtain ⟨j3, a3, k3, l3⟩ := hi (n + 7)
    refine ⟨by decide, cpow (by decide) (by decide) (by omega), by decide, _, _, hL, a3, k3, .here ?_⟩
    dsimp only [dSeq, dEnd, dSNil, dPass, dBreak, dCont, dNever, dDrop, dRet, dRetN, dIfS, dName, dAsg, dSet, dPar2, dPar3, dGNil, dGCons, dGTup, dSubL, dWhile, dFor, dItSeq, dItR1, dItR2, dItEnum, dVar, dC, dNil, dCons, dTup, dLst, dOp, dUn, dTB, dAndT, dOrT, dNotT, dAndV, dOrV, dNotV, dIf, dChain, dSlice, dNoP, dPart, dCB, dIsi, dCall, dRaise, oEq, oNe, oLt, oLe, oGt, oGe, oIsN, r_add_ii, r_add_ss, r_add_tt, r_add_r, r_add_l, r_add_ib, r_add_bi, r_add_bb, r_sub_ii, r_sub_bb, r_mul_ii, r_mul_si, r_fdiv_ii, r_mod_ii, r_pow_ii, r_neg_i, r_eq_ii, r_eq_ss, r_ord_ii, r_ix_t, r_ix_l, r_ix_r, r_ix_s, r_len_s, r_len_t, r_len_l, r_len_r, r_abs_i, r_int_i, r_int_b, r_list, r_tuple, r_repr_s, spEnds, wkX, List.getElem?_cons_zero, List.getElem?_cons_succ, List.set_cons_zero, List.set_cons_succ]
    have c3 := Int.emod_nonneg ((x3 + x2 % 1009 + n) ^ (3 : Int).toNat) (show j3 ≠ 0 by omega)
    generalize (x3 + x2 % 1009 + n) ^ (3 : Int).toNat % j3 = x4 at c3 ⊢
    refine ⟨mulokR (by decide), mulokR (by decide), ?_⟩
    have e : ((((x2 * 2147483647 + x3) * 2147483647 + x4).toNat : Nat) : Int) = (x2 * 2147483647 + x3) * 2147483647 + x4 := by omega
    rw [← e]
    exact fin _

theorem Sub.put2 {M M' : DM} (h : Sub M M') (p : Addr) (o : MO) : Sub (put M p o) (put M' p o) := fun a u e => by
  by_cases ha : a = p
  · subst ha; rw [put_same] at e ⊢; exact e
  · rw [put_ne ha] at e ⊢; exact h a u e
theorem Sub.out {M M' : DM} (h : Sub M M') {p : Addr} {o : MO} (e : M p = none) : Sub M (put M' p o) := fun a u e2 => by
  rw [put_ne (fun z => by rw [z, e] at e2; cases e2)]; exact h a u e2
theorem Sub.none {M M' : DM} (h : Sub M M') {p : Addr} (e : M' p = none) : M p = none := by
  cases q : M p with
  | none => rfl
  | some o => rw [h p o q] at e; cases e
theorem open_loop {M0 : DM} {E : DEnds} {p2 p3 : Addr} {x0 : Option D} {ds3 : List D} (hne : p2 ≠ p3) (hM0 : M0 p2 = none) (fin : ∀ (cs : List Int) (M : DM) (s2 s3 : Option D), M p2 = some (.lst (cs.map .int)) → Sub M0 M → E.nx [x0, some (.ref p2), s2, s3] M) :
    ∀ (es : List Int) (k : Nat) (cs : List Int) (M : DM) (s2 s3 : Option D), (es ≠ [] → cs.length = 12) → M p2 = some (.lst (cs.map .int)) → isL M (.ref p3) ds3 → Sub M0 M →
      forRun (dGTup (dGCons (dName 2) (dGCons (dName 3) (dGNil)))) (dEnd (dAsg (dOp oAdd (dOp oIx (dVar 1) (dOp oMod (dCB rInt (dCons (dVar 2) (dNil))) (dC (.int 12)))) (dVar 3)) (dSubL (dVar 1) (dOp oMod (dCB rInt (dCons (dVar 2) (dNil))) (dC (.int 12))))))
        E (fun M => isL M (.ref p3) ds3) (enumD k (es.map D.int)) [x0, some (.ref p2), s2, s3] M := by
  intro es
  induction es with
  | nil =>
    intro k cs M s2 s3 _ h1 h2 h3
    exact ⟨h2, fin cs M s2 s3 h1 h3⟩
  | cons e es ih =>
    intro k cs M s2 s3 h0 h1 h2 h3
    have hl := h0 (by simp)
    have i0 : 0 ≤ (k : Int) % 12 := by omega
    have i1 : (k : Int) % 12 < ((cs.map D.int).length : Int) := by rw [List.length_map, hl]; omega
    obtain ⟨d, a1, a2⟩ := atI_in i0 i1
    rw [List.mem_map] at a2
    obtain ⟨c, _, rfl⟩ := a2
    rw [List.map_cons, enumD, forRun]
    dsimp only [dSeq, dEnd, dSNil, dPass, dBreak, dCont, dNever, dDrop, dRet, dRetN, dIfS, dName, dAsg, dSet, dPar2, dPar3, dGNil, dGCons, dGTup, dSubL, dWhile, dFor, dItSeq, dItR1, dItR2, dItEnum, dVar, dC, dNil, dCons, dTup, dLst, dOp, dUn, dTB, dAndT, dOrT, dNotT, dAndV, dOrV, dNotV, dIf, dChain, dSlice, dNoP, dPart, dCB, dIsi, dCall, dRaise, oEq, oNe, oLt, oLe, oGt, oGe, oIsN, r_add_ii, r_add_ss, r_add_tt, r_add_r, r_add_l, r_add_ib, r_add_bi, r_add_bb, r_sub_ii, r_sub_bb, r_mul_ii, r_mul_si, r_fdiv_ii, r_mod_ii, r_pow_ii, r_neg_i, r_eq_ii, r_eq_ss, r_ord_ii, r_ix_t, r_ix_l, r_ix_r, r_ix_s, r_len_s, r_len_t, r_len_l, r_len_r, r_abs_i, r_int_i, r_int_b, r_list, r_tuple, r_repr_s, spEnds, wkX, List.getElem?_cons_zero, List.getElem?_cons_succ, List.set_cons_zero, List.set_cons_succ]
    refine ⟨h2, by decide, _, _, .inl h1, a1, by decide, _, _, h1, ixN_in i0 i1, .here ?_⟩
    rw [← List.map_set]
    refine ih (k + 1) _ _ _ _ (fun _ => by rw [List.length_set]; exact hl) put_same ?_ (h3.out hM0)
    rcases h2 with h2 | h2
    · exact .inl (by rw [put_ne hne.symm]; exact h2)
    · exact .inr (by rw [put_ne hne.symm]; exact h2)
theorem cut_map {f : Int → D} {ns : List Int} {lo hi : Option Int} : cutD (ns.map f) lo hi = (cutD ns lo hi).map f := by
  unfold cutD
  rw [List.length_map, List.map_take, List.map_drop]
theorem p_law_open (ds : List D) (M : DM) (Q : D → DM → Prop) (X : XD) (hl : ds.length = 1) (h : S_law_open ds M Q X) : (b_law_open (wkX X)).run (spEnds Q) (dStart 4 ds) M := by
  obtain ⟨ns, rfl, hn, q⟩ := h
  show (b_law_open _).run (spEnds Q) [some (.lst (ns.map D.int)), none, none, none] M
  dsimp only [b_law_open, dSeq, dFor]
  dsimp only [dSeq, dEnd, dSNil, dPass, dBreak, dCont, dNever, dDrop, dRet, dRetN, dIfS, dName, dAsg, dSet, dPar2, dPar3, dGNil, dGCons, dGTup, dSubL, dWhile, dFor, dItSeq, dItR1, dItR2, dItEnum, dVar, dC, dNil, dCons, dTup, dLst, dOp, dUn, dTB, dAndT, dOrT, dNotT, dAndV, dOrV, dNotV, dIf, dChain, dSlice, dNoP, dPart, dCB, dIsi, dCall, dRaise, oEq, oNe, oLt, oLe, oGt, oGe, oIsN, r_add_ii, r_add_ss, r_add_tt, r_add_r, r_add_l, r_add_ib, r_add_bi, r_add_bb, r_sub_ii, r_sub_bb, r_mul_ii, r_mul_si, r_fdiv_ii, r_mod_ii, r_pow_ii, r_neg_i, r_eq_ii, r_eq_ss, r_ord_ii, r_ix_t, r_ix_l, r_ix_r, r_ix_s, r_len_s, r_len_t, r_len_l, r_len_r, r_abs_i, r_int_i, r_int_b, r_list, r_tuple, r_repr_s, spEnds, wkX, List.getElem?_cons_zero, List.getElem?_cons_succ, List.set_cons_zero, List.set_cons_succ]
  refine ⟨_, rfl, fun p1 f1 => ⟨_, .inl put_same, fun p2 f2 => .here ⟨_, rfl, fun p3 f3 => ⟨_, .inl put_same, ?_⟩⟩⟩⟩
  have n1 : p1 ≠ p2 := fun z => by rw [← z, put_same] at f2; cases f2
  have n2 : p2 ≠ p3 := fun z => by rw [← z, put_same] at f3; cases f3
  have hM0 : M p2 = none := (Sub.new f1).none f2
  rw [cut_map, cut_map]
  have hc : cutD ns (some 12) (some 63) ≠ [] → (cutD ns none (some 12)).length = 12 := by
    intro h
    have h2 : 12 < ns.length := by
      rcases Nat.lt_or_ge 12 ns.length with h3 | h3
      · exact h3
      · exfalso
        apply h
        unfold cutD HT.sIx
        apply List.eq_nil_of_length_eq_zero
        rw [List.length_take, List.length_drop]
        simp
        omega
    unfold cutD HT.sIx
    rw [List.length_take, List.length_drop]
    simp
    omega
  rw [cut_map] at f2 f3
  refine open_loop (M0 := M) (ds3 := (cutD ns (some 12) (some 63)).map D.int) n2 hM0 ?_ _ 0 _ _ _ _ hc ?_ (.inl put_same) (((Sub.new f1).trans (Sub.new f2)).trans (Sub.new f3))
  · intro cs M' s2 s3 h1 h2
    refine .frz 1 h1 rfl (.here ?_)
    dsimp only [dSeq, dEnd, dSNil, dPass, dBreak, dCont, dNever, dDrop, dRet, dRetN, dIfS, dName, dAsg, dSet, dPar2, dPar3, dGNil, dGCons, dGTup, dSubL, dWhile, dFor, dItSeq, dItR1, dItR2, dItEnum, dVar, dC, dNil, dCons, dTup, dLst, dOp, dUn, dTB, dAndT, dOrT, dNotT, dAndV, dOrV, dNotV, dIf, dChain, dSlice, dNoP, dPart, dCB, dIsi, dCall, dRaise, oEq, oNe, oLt, oLe, oGt, oGe, oIsN, r_add_ii, r_add_ss, r_add_tt, r_add_r, r_add_l, r_add_ib, r_add_bi, r_add_bb, r_sub_ii, r_sub_bb, r_mul_ii, r_mul_si, r_fdiv_ii, r_mod_ii, r_pow_ii, r_neg_i, r_eq_ii, r_eq_ss, r_ord_ii, r_ix_t, r_ix_l, r_ix_r, r_ix_s, r_len_s, r_len_t, r_len_l, r_len_r, r_abs_i, r_int_i, r_int_b, r_list, r_tuple, r_repr_s, spEnds, wkX, List.getElem?_cons_zero, List.getElem?_cons_succ, List.set_cons_zero, List.set_cons_succ]
    refine ⟨szle (n := 3), fun p f4 => ?_⟩
    have h3 : Sub M (put M' p2 (.rol (cs.map D.int))) := h2.out hM0
    exact .to (h3.put2 _ _) (q p _ (h3.none f4) ⟨cs, 0, 0, rfl, Nat.le_refl 0⟩)
  · rw [put_ne n2, put_same]
theorem tailsG {G : Prop} {ι : Type} {P : DSt → DM → Prop} (st : ι → DSt) (mm : ι → DM) (C : ι → Prop) (h1 : (∀ i, C i → Gh (st i) (mm i) P) → G) (h2 : ∀ i, C i → P (st i) (mm i)) : G := h1 fun i c => .here (h2 i c)
theorem at3 {a b c : D} : atI [a, b, c] 0 = some a ∧ atI [a, b, c] 1 = some b ∧ atI [a, b, c] 2 = some c := ⟨rfl, rfl, rfl⟩
theorem p_law_take (ds : List D) (M : DM) (Q : D → DM → Prop) (X : XD) (hl : ds.length = 2) (h : S_law_take ds M Q X) : (b_law_take (wkX X)).run (spEnds Q) (dStart 5 ds) M := by
  obtain ⟨p, m, n, rfl, hm, sm, ⟨o, hp, cs, k, rest, rfl, hk⟩, hn, q⟩ := h
  show (b_law_take _).run (spEnds Q) [some (.ref p), some (.int m), none, none, none] M
  dsimp only [b_law_take, dSeq]
  dsimp only [dSeq, dEnd, dSNil, dPass, dBreak, dCont, dNever, dDrop, dRet, dRetN, dIfS, dName, dAsg, dSet, dPar2, dPar3, dGNil, dGCons, dGTup, dSubL, dWhile, dFor, dItSeq, dItR1, dItR2, dItEnum, dVar, dC, dNil, dCons, dTup, dLst, dOp, dUn, dTB, dAndT, dOrT, dNotT, dAndV, dOrV, dNotV, dIf, dChain, dSlice, dNoP, dPart, dCB, dIsi, dCall, dRaise, oEq, oNe, oLt, oLe, oGt, oGe, oIsN, r_add_ii, r_add_ss, r_add_tt, r_add_r, r_add_l, r_add_ib, r_add_bi, r_add_bb, r_sub_ii, r_sub_bb, r_mul_ii, r_mul_si, r_fdiv_ii, r_mod_ii, r_pow_ii, r_neg_i, r_eq_ii, r_eq_ss, r_ord_ii, r_ix_t, r_ix_l, r_ix_r, r_ix_s, r_len_s, r_len_t, r_len_l, r_len_r, r_abs_i, r_int_i, r_int_b, r_list, r_tuple, r_repr_s, spEnds, wkX, List.getElem?_cons_zero, List.getElem?_cons_succ, List.set_cons_zero, List.set_cons_succ]
  refine ⟨_, _, .inl hp, rfl, ?_⟩
  apply tailsG (ι := DM × Option D × Option D) (fun i => [some (.ref p), some (.int m), i.2.1, i.2.2, none]) (fun i => i.1) fun i => ∃ k1 r1 : Nat, i.1 p = some (.lst [.lst (cs.map .int), .int k1, .int r1]) ∧ k1 ≤ n + 1 ∧ (∀ o, put i.1 p o = put M p o)
  · intro tl
    by_cases hr : (rest : Int) < m
    · refine bcase_t (decide_eq_true hr) ⟨_, _, .inl hp, rfl, .here (.here ?_)⟩
      refine ⟨_, _, .inl hp, rfl, ?_⟩
      dsimp only [dSeq, dEnd, dSNil, dPass, dBreak, dCont, dNever, dDrop, dRet, dRetN, dIfS, dName, dAsg, dSet, dPar2, dPar3, dGNil, dGCons, dGTup, dSubL, dWhile, dFor, dItSeq, dItR1, dItR2, dItEnum, dVar, dC, dNil, dCons, dTup, dLst, dOp, dUn, dTB, dAndT, dOrT, dNotT, dAndV, dOrV, dNotV, dIf, dChain, dSlice, dNoP, dPart, dCB, dIsi, dCall, dRaise, oEq, oNe, oLt, oLe, oGt, oGe, oIsN, r_add_ii, r_add_ss, r_add_tt, r_add_r, r_add_l, r_add_ib, r_add_bi, r_add_bb, r_sub_ii, r_sub_bb, r_mul_ii, r_mul_si, r_fdiv_ii, r_mod_ii, r_pow_ii, r_neg_i, r_eq_ii, r_eq_ss, r_ord_ii, r_ix_t, r_ix_l, r_ix_r, r_ix_s, r_len_s, r_len_t, r_len_l, r_len_r, r_abs_i, r_int_i, r_int_b, r_list, r_tuple, r_repr_s, spEnds, wkX, List.getElem?_cons_zero, List.getElem?_cons_succ, List.set_cons_zero, List.set_cons_succ]
      apply tailsG (ι := Int) (fun c => [some (.ref p), some (.int m), some (.int k), some (.int c), none]) (fun _ => M) fun _ => True
      · intro tail
        by_cases h1 : (k : Int) < ((cs.map D.int).length : Int)
        · obtain ⟨d, a1, a2⟩ := atI_in (ds := cs.map D.int) (k := (k : Int)) (by omega) h1
          rw [List.mem_map] at a2
          obtain ⟨c, _, rfl⟩ := a2
          refine bcase_t (decide_eq_true h1) ⟨_, _, .inl hp, rfl, _, _, rfl, a1, .here ?_⟩
          exact tail c trivial
        · refine bcase_f (decide_eq_false h1) ⟨_, _, .inl hp, rfl, ?_⟩
          dsimp only [dSeq, dEnd, dSNil, dPass, dBreak, dCont, dNever, dDrop, dRet, dRetN, dIfS, dName, dAsg, dSet, dPar2, dPar3, dGNil, dGCons, dGTup, dSubL, dWhile, dFor, dItSeq, dItR1, dItR2, dItEnum, dVar, dC, dNil, dCons, dTup, dLst, dOp, dUn, dTB, dAndT, dOrT, dNotT, dAndV, dOrV, dNotV, dIf, dChain, dSlice, dNoP, dPart, dCB, dIsi, dCall, dRaise, oEq, oNe, oLt, oLe, oGt, oGe, oIsN, r_add_ii, r_add_ss, r_add_tt, r_add_r, r_add_l, r_add_ib, r_add_bi, r_add_bb, r_sub_ii, r_sub_bb, r_mul_ii, r_mul_si, r_fdiv_ii, r_mod_ii, r_pow_ii, r_neg_i, r_eq_ii, r_eq_ss, r_ord_ii, r_ix_t, r_ix_l, r_ix_r, r_ix_s, r_len_s, r_len_t, r_len_l, r_len_r, r_abs_i, r_int_i, r_int_b, r_list, r_tuple, r_repr_s, spEnds, wkX, List.getElem?_cons_zero, List.getElem?_cons_succ, List.set_cons_zero, List.set_cons_succ]
          by_cases h2 : ((cs.map D.int).length : Int) > 0
          · refine bcase_t (decide_eq_true h2) ⟨_, _, .inl hp, rfl, ?_⟩
            refine ⟨mulokR (by decide), _, _, .inl hp, rfl, ?_⟩
            obtain ⟨d, a1, a2⟩ := atI_in (ds := cs.map D.int) (k := ((k : Int) * 5 + 3) % ((cs.map D.int).length : Int)) (Int.emod_nonneg _ (by omega)) (Int.emod_lt_of_pos _ h2)
            rw [List.mem_map] at a2
            obtain ⟨c, _, rfl⟩ := a2
            refine ⟨h2, _, _, rfl, a1, cpow (by decide) (by decide) (by decide), ?_, .here (.here ?_)⟩
            · have : (0 : Int) < 10 ^ (17 : Int).toNat := by decide
              omega
            · generalize c % (10 ^ (17 : Int).toNat + k) = c2
              exact tail c2 trivial
          · refine bcase_f (decide_eq_false h2) (.here ?_)
            exact tail 0 trivial
      · intro c _
        dsimp only [dSeq, dEnd, dSNil, dPass, dBreak, dCont, dNever, dDrop, dRet, dRetN, dIfS, dName, dAsg, dSet, dPar2, dPar3, dGNil, dGCons, dGTup, dSubL, dWhile, dFor, dItSeq, dItR1, dItR2, dItEnum, dVar, dC, dNil, dCons, dTup, dLst, dOp, dUn, dTB, dAndT, dOrT, dNotT, dAndV, dOrV, dNotV, dIf, dChain, dSlice, dNoP, dPart, dCB, dIsi, dCall, dRaise, oEq, oNe, oLt, oLe, oGt, oGe, oIsN, r_add_ii, r_add_ss, r_add_tt, r_add_r, r_add_l, r_add_ib, r_add_bi, r_add_bb, r_sub_ii, r_sub_bb, r_mul_ii, r_mul_si, r_fdiv_ii, r_mod_ii, r_pow_ii, r_neg_i, r_eq_ii, r_eq_ss, r_ord_ii, r_ix_t, r_ix_l, r_ix_r, r_ix_s, r_len_s, r_len_t, r_len_l, r_len_r, r_abs_i, r_int_i, r_int_b, r_list, r_tuple, r_repr_s, spEnds, wkX, List.getElem?_cons_zero, List.getElem?_cons_succ, List.set_cons_zero, List.set_cons_succ]
        refine ⟨_, _, hp, rfl, .here (.go ⟨c, k, rfl, by omega, fun r => ⟨_, _, put_same, rfl, .here ?_⟩⟩)⟩
        rw [put_put]
        exact tl (_, _, _) ⟨k + 1, r, put_same, by omega, fun o => put_put⟩
    · refine bcase_f (decide_eq_false hr) ?_
      exact tl (M, _, _) ⟨k, rest, hp, by omega, fun o => rfl⟩
  · intro ⟨M1, s2, s3⟩ ⟨k1, r1, h1, h2, h3⟩
    dsimp only [dSeq, dEnd, dSNil, dPass, dBreak, dCont, dNever, dDrop, dRet, dRetN, dIfS, dName, dAsg, dSet, dPar2, dPar3, dGNil, dGCons, dGTup, dSubL, dWhile, dFor, dItSeq, dItR1, dItR2, dItEnum, dVar, dC, dNil, dCons, dTup, dLst, dOp, dUn, dTB, dAndT, dOrT, dNotT, dAndV, dOrV, dNotV, dIf, dChain, dSlice, dNoP, dPart, dCB, dIsi, dCall, dRaise, oEq, oNe, oLt, oLe, oGt, oGe, oIsN, r_add_ii, r_add_ss, r_add_tt, r_add_r, r_add_l, r_add_ib, r_add_bi, r_add_bb, r_sub_ii, r_sub_bb, r_mul_ii, r_mul_si, r_fdiv_ii, r_mod_ii, r_pow_ii, r_neg_i, r_eq_ii, r_eq_ss, r_ord_ii, r_ix_t, r_ix_l, r_ix_r, r_ix_s, r_len_s, r_len_t, r_len_l, r_len_r, r_abs_i, r_int_i, r_int_b, r_list, r_tuple, r_repr_s, spEnds, wkX, List.getElem?_cons_zero, List.getElem?_cons_succ, List.set_cons_zero, List.set_cons_succ]
    refine ⟨_, _, .inl h1, rfl, hm, .here ⟨_, _, .inl h1, rfl, cdivw hm sm, _, _, h1, rfl, .here (.here ?_)⟩⟩
    rw [h3]
    have e : ((((r1 : Int) / m).toNat : Nat) : Int) = (r1 : Int) / m := Int.toNat_of_nonneg (Int.ediv_nonneg (by omega) (by omega))
    refine q _ _ (Int.emod_nonneg _ (by omega)) (Int.emod_lt_of_pos _ hm) ⟨cs, k1, ((r1 : Int) / m).toNat, ?_, h2⟩
    rw [e]
    rfl
theorem p_law_x_pick (ds : List D) (M : DM) (Q : D → DM → Prop) (X : XD) (hl : ds.length = 2) (h : S_law_x_pick ds M Q X) : (b_law_x_pick (wkX X)).run (spEnds Q) (dStart 2 ds) M := by
  obtain ⟨p, x, es, n, rfl, hx, hp, h0, hz, pen, hn, q⟩ := h
  show (b_law_x_pick _).run (spEnds Q) [some (.ref p), some x] M
  have hM := hx M fun _ _ => rfl
  have fin : ∀ (r : Int) (o : MO), 0 ≤ r → r < (es.length : Int) → penO (n + 1) o → ∃ d, isSeq (put M p o) x es ∧ atI es r = some d ∧ Wk (put M p o) (Q d) := by
    intro r o g0 g1 po
    obtain ⟨d, a1, a2⟩ := atI_in g0 g1
    exact ⟨d, hx _ (fun a ha => put_ne ha), a1, .here (q d o a2 po)⟩
  have sm : Sm 9000 (es.length : Int) := by
    have : Sm 20 (es.length : Int) := by unfold Sm; omega
    exact this.mono (by decide)
  dsimp only [dSeq, dEnd, dSNil, dPass, dBreak, dCont, dNever, dDrop, dRet, dRetN, dIfS, dName, dAsg, dSet, dPar2, dPar3, dGNil, dGCons, dGTup, dSubL, dWhile, dFor, dItSeq, dItR1, dItR2, dItEnum, dVar, dC, dNil, dCons, dTup, dLst, dOp, dUn, dTB, dAndT, dOrT, dNotT, dAndV, dOrV, dNotV, dIf, dChain, dSlice, dNoP, dPart, dCB, dIsi, dCall, dRaise, oEq, oNe, oLt, oLe, oGt, oGe, oIsN, r_add_ii, r_add_ss, r_add_tt, r_add_r, r_add_l, r_add_ib, r_add_bi, r_add_bb, r_sub_ii, r_sub_bb, r_mul_ii, r_mul_si, r_fdiv_ii, r_mod_ii, r_pow_ii, r_neg_i, r_eq_ii, r_eq_ss, r_ord_ii, r_ix_t, r_ix_l, r_ix_r, r_ix_s, r_len_s, r_len_t, r_len_l, r_len_r, r_abs_i, r_int_i, r_int_b, r_list, r_tuple, r_repr_s, spEnds, wkX, List.getElem?_cons_zero, List.getElem?_cons_succ, List.set_cons_zero, List.set_cons_succ, b_law_x_pick]
  cases x with
  | tup xs =>
    cases (show xs = es from hM)
    refine .go ⟨p, _, n, rfl, by omega, sm, pen, hn, fun r o g0 g1 po => ?_⟩
    obtain ⟨d, b1, b2, b3⟩ := fin r o g0 g1 po
    exact ⟨_, d, b1, b2, b3⟩
  | lst xs =>
    cases (show xs = es from hM)
    refine .go ⟨p, _, n, rfl, by omega, sm, pen, hn, fun r o g0 g1 po => ?_⟩
    obtain ⟨d, b1, b2, b3⟩ := fin r o g0 g1 po
    exact ⟨_, d, b1, b2, b3⟩
  | ref a =>
    refine ⟨es, hM, .go ⟨p, _, n, rfl, by omega, sm, pen, hn, fun r o g0 g1 po => ?_⟩⟩
    obtain ⟨d, b1, b2, b3⟩ := fin r o g0 g1 po
    exact ⟨_, d, b1, b2, b3⟩
  | _ => exact hM.elim
end LD

/-! LD8: facts of numbers; k31's own functions -/
namespace LD
open PySem PySem.Spec PyProof.Rows L2

/-! ### numbers -/
/-- n / d without a common divisor -/
structure NumP (a b : Int) : Prop where
  pos : 0 < b
  co : Nat.gcd a.natAbs b.natAbs = 1
theorem dvd_abs {a b c d : Int} (h : NumP a b) (h2 : NumP c d) (e : a * d = c * b) : b.natAbs ∣ d.natAbs := by
  have e2 : a.natAbs * d.natAbs = c.natAbs * b.natAbs := by rw [← Int.natAbs_mul, ← Int.natAbs_mul, e]
  have h3 : b.natAbs ∣ a.natAbs * d.natAbs := by rw [e2]; exact Nat.dvd_mul_left _ _
  exact Nat.Coprime.dvd_of_dvd_mul_left (Nat.Coprime.symm h.co) h3
theorem NumP.uniq {a b c d : Int} (h : NumP a b) (h2 : NumP c d) (e : a * d = c * b) : a = c ∧ b = d := by
  have e1 := dvd_abs h h2 e
  have e2 := dvd_abs h2 h e.symm
  have e3 := Nat.dvd_antisymm e1 e2
  have := h.pos
  have := h2.pos
  have e4 : b = d := by omega
  subst e4
  exact ⟨Int.eq_of_mul_eq_mul_right (by omega) e, rfl⟩
/-- what numD tells -/
theorem numD_is (n : Int) {d : Int} (hd : 0 < d) : ∃ a b g : Int, numD n d = .tup [.int a, .int b] ∧ NumP a b ∧ n = a * g ∧ d = b * g ∧ 0 < g ∧ g ≤ d := by
  have hg := gcd_pos_r (n := n) hd
  have g1 : (Nat.gcd n.natAbs d.natAbs : Int) ∣ n := Int.gcd_dvd_left ..
  have g2 : (Nat.gcd n.natAbs d.natAbs : Int) ∣ d := Int.gcd_dvd_right ..
  have e1 := Int.ediv_mul_cancel g1
  have e2 := Int.ediv_mul_cancel g2
  refine ⟨_, _, (Nat.gcd n.natAbs d.natAbs : Nat), rfl, ⟨?_, ?_⟩, e1.symm, e2.symm, hg, Int.le_of_dvd hd g2⟩
  · exact Int.ediv_pos_of_pos_of_dvd hd (by omega) g2
  · rw [Int.natAbs_ediv_of_dvd g1, Int.natAbs_ediv_of_dvd g2, Int.natAbs_natCast]
    exact Nat.coprime_div_gcd_div_gcd (Nat.gcd_pos_of_pos_right _ (by omega))
theorem numD_eq {n d a b : Int} (hd : 0 < d) (h : NumP a b) (e : n * b = a * d) : numD n d = .tup [.int a, .int b] := by
  obtain ⟨x, y, g, e1, p, e2, e3, hg, _⟩ := numD_is n hd
  rw [e1]
  have e4 : x * b = a * y := by
    subst e2 e3
    have e5 : (x * b) * g = (a * y) * g := by
      rw [Int.mul_assoc x b g, Int.mul_comm b g, ← Int.mul_assoc, e]
      rw [Int.mul_assoc]
    exact Int.eq_of_mul_eq_mul_right (by omega) e5
  obtain ⟨rfl, rfl⟩ := p.uniq h e4
  rfl
theorem NumP.is {a b : Int} (h : NumP a b) : isNum (.tup [.int a, .int b]) = true := by
  show (decide (1 ≤ b) && decide (Nat.gcd a.natAbs b.natAbs = 1)) = true
  rw [decide_eq_true h.co, decide_eq_true (show 1 ≤ b from h.pos)]
  rfl
theorem knN2 {M : DM} {a b : Int} : KnN M (.tup [.int a, .int b]) := ⟨szle (n := 2), fun d hd => by
  simp only [List.mem_cons, List.not_mem_nil, or_false] at hd
  rcases hd with rfl | rfl <;> exact trivial⟩
theorem mul_abs_le {a g : Int} (hg : 0 < g) : a.natAbs ≤ (a * g).natAbs := by
  rw [Int.natAbs_mul]
  exact Nat.le_mul_of_pos_right _ (by omega)

/-! ### what repr shows of them -/
theorem tupleText2 (a b : Str) : (tupleText [a, b]).length = a.length + b.length + 4 := by
  unfold tupleText
  have h := join_length_add [a, b] (by simp)
  have e : piled [a, b] = a.length + b.length + 4 := by simp [piled]; omega
  rw [e] at h
  have l1 : (Str.ofString "(").length = 1 := by decide
  have l2 : (Str.ofString ")").length = 1 := by decide
  show ((Str.ofString "(") ++ Str.join ", " [a, b] ++ Str.ofString ")").length = _
  rw [Str.length_append, Str.length_append, l1, l2]
  omega
theorem int_len {a : Int} (h : Sm 1900 a) : (Str.ofString (toString a)).length ≤ 1901 := by
  rw [PySem.ofString_length]
  exact int_text_length_le (by decide) (h.log (by decide))
/-- the number's text -/
def shN (a b : Int) : Str := PyData.shown (.tuple [.int a, .int b])
theorem repr_num {M : DM} {Q : D → DM → Prop} {a b : Int} (sa : Sm 1900 a) (sb : Sm 1900 b) (h : Q (.str (shN a b)) M) : rRepr.run [.tup [.int a, .int b]] M Q := by
  refine ⟨.tuple [.int a, .int b], dat_toP (.tup [.int a, .int b]) rfl, ?_, ?_, ?_, h⟩
  · have h1 := sa.log (by decide)
    have h2 := sb.log (by decide)
    simp only [PyData.showable, PyData.showableAll, Bool.and_true, Bool.and_eq_true, decide_eq_true_eq]
    omega
  · simp only [PyData.shown, PyData.shownAll]
    rw [tupleText2]
    have h1 := int_len sa
    have h2 := int_len sb
    refine szle (n := _) ?_
    omega
  · simp [PyData.depth, PyData.depthAll]
theorem repr_int {M : DM} {Q : D → DM → Prop} {a : Int} (sa : Sm 1900 a) (h : Q (.str (PyData.shown (.int a))) M) : rRepr.run [.int a] M Q := by
  refine ⟨.int a, dat_toP (.int a) rfl, ?_, ?_, ?_, h⟩
  · have h1 := sa.log (by decide)
    simp only [PyData.showable, decide_eq_true_eq]
    omega
  · simp only [PyData.shown]
    have h1 := int_len sa
    refine szle (n := _) ?_
    omega
  · simp [PyData.depth]
theorem ne_same {x : Str} : (decide (x = x) ^^ true) = false := by rw [decide_eq_true rfl]; rfl
theorem cmp_sm {a b c d : Int} : Sm 1900 (cmpN a b c d) := by
  unfold cmpN Sm
  have h : ∀ p q : Bool, (b2i p - b2i q).natAbs < 4 := by decide
  exact Nat.lt_of_lt_of_le (h _ _) (by decide)
theorem eq_num {M : DM} {Q : D → DM → Prop} {a b : Int} (h : Q (.bl (true ^^ neg)) M) : (oEqN neg).run (.tup [.int a, .int b]) (.tup [.int a, .int b]) M Q := by
  refine ⟨.tuple [.int a, .int b], .tuple [.int a, .int b], dat_toP (.tup [.int a, .int b]) rfl, dat_toP (.tup [.int a, .int b]) rfl, ?_, ?_, ?_⟩
  · simp [SeqAt.shaped, PyData.canLay0, PyData.canLayAll0, PyData.depth, PyData.depthAll]
  · simp [SeqAt.shaped, PyData.canLay0, PyData.canLayAll0, PyData.depth, PyData.depthAll]
  · rw [SeqAt.eqv_refl _ (by simp [PyData.canLay0, PyData.canLayAll0])]
    exact h
/-- sums -/
theorem sum_back {a b c d s t : Int} (hb : 0 < b) (hd : 0 < d) (h : NumP a b) (e : ∃ g, 0 < g ∧ a * d + c * b = s * g ∧ b * d = t * g) (ht : 0 < t) : numD (s * d - c * t) (t * d) = .tup [.int a, .int b] := by
  obtain ⟨g, hg, e1, e2⟩ := e
  refine numD_eq (Int.mul_pos ht hd) h ?_
  refine Int.eq_of_mul_eq_mul_right (show g ≠ 0 by omega) ?_
  calc (s * d - c * t) * b * g = ((s * g) * d - c * (t * g)) * b := by
        rw [Int.sub_mul, Int.sub_mul, Int.sub_mul]
        congr 1 <;> ac_rfl
    _ = ((a * d + c * b) * d - c * (b * d)) * b := by rw [e1, e2]
    _ = (a * d * d) * b := by
        have : (a * d + c * b) * d - c * (b * d) = a * d * d := by
          rw [Int.add_mul]
          have : c * b * d = c * (b * d) := Int.mul_assoc ..
          omega
        rw [this]
    _ = a * (b * d * d) := by ac_rfl
    _ = a * (t * g * d) := by rw [e2]
    _ = a * (t * d) * g := by ac_rfl

/-! ### k31's functions -/
abbrev S_law_x_number : DSp := fun ds M Q X => ∃ n d : Int, ds = [.int n, .int d] ∧ 0 < d ∧ Sm 9000 d ∧ Q (numD n d) M
abbrev S_law_x_plus : DSp := S_raw_plus
abbrev S_law_x_minus : DSp := S_raw_minus
abbrev S_law_x_is_less : DSp := fun ds M Q X => ∃ a b c d : Int, ds = [.tup [.int a, .int b], .tup [.int c, .int d]] ∧ Sm 4000 a ∧ Sm 4000 b ∧ Sm 4000 c ∧ Sm 4000 d ∧ Q (.bl (decide (a * d < c * b))) M
abbrev S_law_x_great : DSp := fun ds M Q X => ds = [] ∧ ∀ g : Int, 0 < g → Sm 4000 g → Q (.int g) M
abbrev S_law_x_any : DSp := fun ds M Q X => ∃ (p : Addr) (n : Nat), ds = [.ref p] ∧ Pen M p n ∧ n < 900000 ∧
  ∀ (a b c : Int) (M' : DM), NumP a b → 0 < c → Sm 600 a → Sm 600 b → Sm 4700 c → Pen M' p (n + 6) → Q (.tup [.int (a * c), .int (b * c), .tup [.int a, .int b]]) M'
abbrev S_law : DSp := fun ds M Q X => ∃ ns : List Int, ds = [.lst (ns.map D.int)] ∧ ns.length ≤ 63 ∧ ∀ M', Q (.bl true) M'

def b_law_x_number (X : XD) : DS :=
  dSeq (dPar2 2 3 (dCons (dCB rAbs (dCons (dVar 0) (dNil))) (dCons (dVar 1) (dNil))))
  (dSeq (dWhile (dTB (dOp oNe (dVar 3) (dC (.int 0)))) (dEnd (dPar2 2 3 (dCons (dVar 3) (dCons (dOp oMod (dCB rInt (dCons (dVar 2) (dNil))) (dVar 3)) (dNil))))))
  (dEnd (dRet (dTup (dCons (dOp oFdiv (dVar 0) (dVar 2)) (dCons (dOp oFdiv (dVar 1) (dVar 2)) (dNil)))))))
def b_law_x_plus (X : XD) : DS :=
  dEnd (dRet (dCall S_law_x_number (dCons (dOp oAdd (dOp oMul (dOp oIx (dVar 0) (dC (.int 0))) (dOp oIx (dVar 1) (dC (.int 1)))) (dOp oMul (dOp oIx (dVar 1) (dC (.int 0))) (dOp oIx (dVar 0) (dC (.int 1))))) (dCons (dOp oMul (dOp oIx (dVar 0) (dC (.int 1))) (dOp oIx (dVar 1) (dC (.int 1)))) (dNil))) X))
def b_law_x_minus (X : XD) : DS :=
  dEnd (dRet (dCall S_law_x_number (dCons (dOp oSub (dOp oMul (dOp oIx (dVar 0) (dC (.int 0))) (dOp oIx (dVar 1) (dC (.int 1)))) (dOp oMul (dOp oIx (dVar 1) (dC (.int 0))) (dOp oIx (dVar 0) (dC (.int 1))))) (dCons (dOp oMul (dOp oIx (dVar 0) (dC (.int 1))) (dOp oIx (dVar 1) (dC (.int 1)))) (dNil))) X))
def b_law_x_is_less (X : XD) : DS :=
  dEnd (dRet (dOp oLt (dOp oMul (dOp oIx (dVar 0) (dC (.int 0))) (dOp oIx (dVar 1) (dC (.int 1)))) (dOp oMul (dOp oIx (dVar 1) (dC (.int 0))) (dOp oIx (dVar 0) (dC (.int 1))))))
def b_law_x_great (X : XD) : DS :=
  dSeq (dSet 0 (dC (.int 1)))
  (dSeq (dFor (dItR1 (dC (.int 20))) (dName 1) (dEnd (dSet 0 (dOp oMul (dVar 0) (dOp oPow (dC (.int 10)) (dC (.int 60)))))))
  (dEnd (dRet (dVar 0))))
def b_law_x_any (X : XD) : DS :=
  dSeq (dSet 1 (dCall S_law_x_pick (dCons (dVar 0) (dCons (dLst (dCons (dC (.int 2)) (dCons (dC (.int 10)) (dCons (dC (.int 10)) (dCons (dOp oPow (dC (.int 10)) (dC (.int 9))) (dCons (dOp oPow (dC (.int 10)) (dC (.int 40))) (dCons (dOp oMul (dOp oMul (dOp oPow (dC (.int 10)) (dC (.int 60))) (dOp oPow (dC (.int 10)) (dC (.int 60)))) (dOp oPow (dC (.int 10)) (dC (.int 60)))) (dNil)))))))) (dNil))) X))
  (dSeq (dPar2 2 3 (dCons (dOp oSub (dCall S_law_take (dCons (dVar 0) (dCons (dOp oMul (dC (.int 2)) (dVar 1)) (dNil))) X) (dVar 1)) (dCons (dOp oAdd (dC (.int 1)) (dCall S_law_take (dCons (dVar 0) (dCons (dCall S_law_x_pick (dCons (dVar 0) (dCons (dLst (dCons (dC (.int 1)) (dCons (dC (.int 6)) (dCons (dC (.int 6)) (dCons (dVar 1) (dNil)))))) (dNil))) X) (dNil))) X)) (dNil))))
  (dSeq (dSet 4 (dCall S_law_x_pick (dCons (dVar 0) (dCons (dLst (dCons (dC (.int 1)) (dCons (dC (.int 1)) (dCons (dC (.int 6)) (dCons (dOp oAdd (dC (.int 1)) (dCall S_law_take (dCons (dVar 0) (dCons (dOp oPow (dC (.int 10)) (dC (.int 6))) (dNil))) X)) (dCons (dCall S_law_x_great dNil X) (dNil))))))) (dNil))) X))
  (dEnd (dRet (dTup (dCons (dOp oMul (dVar 2) (dVar 4)) (dCons (dOp oMul (dVar 3) (dVar 4)) (dCons (dCall S_law_x_number (dCons (dVar 2) (dCons (dVar 3) (dNil))) X) (dNil)))))))))
def b_law (X : XD) : DS :=
  dSeq (dSet 1 (dCall S_law_open (dCons (dVar 0) (dNil)) X))
  (dSeq (dFor (dItR1 (dC (.int 6))) (dName 2) (dSeq (dAsg (dCall S_law_x_any (dCons (dVar 1) (dNil)) X) (dGTup (dGCons (dName 3) (dGCons (dName 4) (dGCons (dName 5) (dGNil))))))
  (dSeq (dAsg (dCall S_law_x_any (dCons (dVar 1) (dNil)) X) (dGTup (dGCons (dName 6) (dGCons (dName 7) (dGCons (dName 8) (dGNil))))))
  (dSeq (dIfS (dTB (dOp oEq (dCall S_law_take (dCons (dVar 1) (dCons (dC (.int 5)) (dNil))) X) (dC (.int 0)))) (dEnd (dPar3 6 7 8 (dCons (dOp oMul (dVar 3) (dC (.int 7))) (dCons (dOp oMul (dVar 4) (dC (.int 7))) (dCons (dVar 5) (dNil)))))) (dSNil))
  (dSeq (dIfS (dOrT (dTB (dOp oNe (dCB rRepr (dCons (dCall S_number_of (dCons (dVar 3) (dCons (dVar 4) (dNil))) X) (dNil))) (dCB rRepr (dCons (dVar 5) (dNil))))) (dTB (dOp oNe (dCB rRepr (dCons (dCall S_number_of (dCons (dVar 6) (dCons (dVar 7) (dNil))) X) (dNil))) (dCB rRepr (dCons (dVar 8) (dNil)))))) (dEnd (dRet (dC (.bl false)))) (dSNil))
  (dSeq (dIfS (dOrT (dTB (dOp oNe (dCB rRepr (dCons (dCall S_plus (dCons (dVar 5) (dCons (dVar 8) (dNil))) X) (dNil))) (dCB rRepr (dCons (dCall S_law_x_plus (dCons (dVar 5) (dCons (dVar 8) (dNil))) X) (dNil))))) (dTB (dOp oNe (dCB rRepr (dCons (dCall S_minus (dCons (dVar 5) (dCons (dVar 8) (dNil))) X) (dNil))) (dCB rRepr (dCons (dCall S_law_x_minus (dCons (dVar 5) (dCons (dVar 8) (dNil))) X) (dNil)))))) (dEnd (dRet (dC (.bl false)))) (dSNil))
  (dSeq (dSet 9 (dOp oSub (dCB rInt (dCons (dCall S_law_x_is_less (dCons (dVar 8) (dCons (dVar 5) (dNil))) X) (dNil))) (dCB rInt (dCons (dCall S_law_x_is_less (dCons (dVar 5) (dCons (dVar 8) (dNil))) X) (dNil)))))
  (dSeq (dIfS (dOrT (dTB (dOp oNe (dCB rRepr (dCons (dCall S_compared (dCons (dVar 5) (dCons (dVar 8) (dNil))) X) (dNil))) (dCB rRepr (dCons (dVar 9) (dNil))))) (dOrT (dTB (dOp oNe (dCB rRepr (dCons (dCall S_compared (dCons (dVar 8) (dCons (dVar 5) (dNil))) X) (dNil))) (dCB rRepr (dCons (dUn oNeg (dVar 9)) (dNil))))) (dTB (dOp oNe (dCall S_compared (dCons (dVar 5) (dCons (dVar 5) (dNil))) X) (dC (.int 0)))))) (dEnd (dRet (dC (.bl false)))) (dSNil))
  (dEnd (dIfS (dOrT (dTB (dOp oNe (dCB rRepr (dCons (dCall S_minus (dCons (dCall S_plus (dCons (dVar 5) (dCons (dVar 8) (dNil))) X) (dCons (dVar 8) (dNil))) X) (dNil))) (dCB rRepr (dCons (dVar 5) (dNil))))) (dOrT (dTB (dOp oNe (dCall S_plus (dCons (dVar 8) (dCons (dVar 5) (dNil))) X) (dCall S_plus (dCons (dVar 5) (dCons (dVar 8) (dNil))) X))) (dTB (dOp oNe (dCall S_minus (dCons (dVar 5) (dCons (dVar 5) (dNil))) X) (dTup (dCons (dC (.int 0)) (dCons (dC (.int 1)) (dNil)))))))) (dEnd (dRet (dC (.bl false)))) (dSNil)))))))))))
  (dEnd (dRet (dC (.bl true)))))

theorem number_loop {E : DEnds} {M : DM} {x y : Option D} : ∀ n a b : Nat, b ≤ n → E.nx [x, y, some (.int (Nat.gcd a b : Nat)), some (.int 0)] M →
    whRun (dTB (dOp oNe (dVar 3) (dC (.int 0)))) (dEnd (dPar2 2 3 (dCons (dVar 3) (dCons (dOp oMod (dCB rInt (dCons (dVar 2) (dNil))) (dVar 3)) (dNil))))) E (n + 1) [x, y, some (.int a), some (.int b)] M := by
  intro n
  induction n with
  | zero =>
    intro a b hb q
    have e : b = 0 := by omega
    subst e
    rw [Nat.gcd_zero_right] at q
    exact q
  | succ n ih =>
    intro a b hb q
    rw [whRun]
    dsimp only [dSeq, dEnd, dSNil, dPass, dBreak, dCont, dNever, dDrop, dRet, dRetN, dIfS, dName, dAsg, dSet, dPar2, dPar3, dGNil, dGCons, dGTup, dSubL, dWhile, dFor, dItSeq, dItR1, dItR2, dItEnum, dVar, dC, dNil, dCons, dTup, dLst, dOp, dUn, dTB, dAndT, dOrT, dNotT, dAndV, dOrV, dNotV, dIf, dChain, dSlice, dNoP, dPart, dCB, dIsi, dCall, dRaise, oEq, oNe, oLt, oLe, oGt, oGe, oIsN, r_add_ii, r_add_ss, r_add_tt, r_add_r, r_add_l, r_add_ib, r_add_bi, r_add_bb, r_sub_ii, r_sub_bb, r_mul_ii, r_mul_si, r_fdiv_ii, r_mod_ii, r_pow_ii, r_neg_i, r_eq_ii, r_eq_ss, r_ord_ii, r_ix_t, r_ix_l, r_ix_r, r_ix_s, r_len_s, r_len_t, r_len_l, r_len_r, r_abs_i, r_int_i, r_int_b, r_list, r_tuple, r_repr_s, spEnds, wkX, List.getElem?_cons_zero, List.getElem?_cons_succ, List.set_cons_zero, List.set_cons_succ]
    by_cases e : b = 0
    · subst e
      rw [Nat.gcd_zero_right] at q
      exact bcase_f (by decide) q
    · refine bcase_t (by simpa using e) ⟨by omega, .here ?_⟩
      refine ih b (a % b) ?_ ?_
      · have := Nat.mod_lt a (show b > 0 by omega)
        omega
      · rw [gcd_step a b e]; exact q
theorem p_law_x_number (ds : List D) (M : DM) (Q : D → DM → Prop) (X : XD) (hl : ds.length = 2) (h : S_law_x_number ds M Q X) : (b_law_x_number (wkX X)).run (spEnds Q) (dStart 4 ds) M := by
  obtain ⟨n, d, rfl, hd, sm, q⟩ := h
  show (b_law_x_number _).run (spEnds Q) [some (.int n), some (.int d), none, none] M
  dsimp only [b_law_x_number, dSeq, dWhile]
  refine .here ⟨d.natAbs + 1, ?_⟩
  have e : D.int d = .int (d.natAbs : Int) := by rw [nat_of_pos hd]
  dsimp only [dSeq, dEnd, dSNil, dPass, dBreak, dCont, dNever, dDrop, dRet, dRetN, dIfS, dName, dAsg, dSet, dPar2, dPar3, dGNil, dGCons, dGTup, dSubL, dWhile, dFor, dItSeq, dItR1, dItR2, dItEnum, dVar, dC, dNil, dCons, dTup, dLst, dOp, dUn, dTB, dAndT, dOrT, dNotT, dAndV, dOrV, dNotV, dIf, dChain, dSlice, dNoP, dPart, dCB, dIsi, dCall, dRaise, oEq, oNe, oLt, oLe, oGt, oGe, oIsN, r_add_ii, r_add_ss, r_add_tt, r_add_r, r_add_l, r_add_ib, r_add_bi, r_add_bb, r_sub_ii, r_sub_bb, r_mul_ii, r_mul_si, r_fdiv_ii, r_mod_ii, r_pow_ii, r_neg_i, r_eq_ii, r_eq_ss, r_ord_ii, r_ix_t, r_ix_l, r_ix_r, r_ix_s, r_len_s, r_len_t, r_len_l, r_len_r, r_abs_i, r_int_i, r_int_b, r_list, r_tuple, r_repr_s, spEnds, wkX, List.getElem?_cons_zero, List.getElem?_cons_succ, List.set_cons_zero, List.set_cons_succ]
  have := number_loop (E := { nx := fun δ' M' => Gh δ' M' fun δ M => ((dEnd (dRet (dTup (dCons (dOp oFdiv (dVar 0) (dVar 2)) (dCons (dOp oFdiv (dVar 1) (dVar 2)) (dNil)))))).run (spEnds Q) δ M), rt := (spEnds Q).rt, bk := fun δ' M' => Gh δ' M' fun δ M => ((dEnd (dRet (dTup (dCons (dOp oFdiv (dVar 0) (dVar 2)) (dCons (dOp oFdiv (dVar 1) (dVar 2)) (dNil)))))).run (spEnds Q) δ M) }) (M := M) (x := some (.int n)) (y := some (.int d)) d.natAbs n.natAbs d.natAbs (Nat.le_refl _) (.here ?_)
  · rw [← e] at this
    exact this
  · dsimp only [dSeq, dEnd, dSNil, dPass, dBreak, dCont, dNever, dDrop, dRet, dRetN, dIfS, dName, dAsg, dSet, dPar2, dPar3, dGNil, dGCons, dGTup, dSubL, dWhile, dFor, dItSeq, dItR1, dItR2, dItEnum, dVar, dC, dNil, dCons, dTup, dLst, dOp, dUn, dTB, dAndT, dOrT, dNotT, dAndV, dOrV, dNotV, dIf, dChain, dSlice, dNoP, dPart, dCB, dIsi, dCall, dRaise, oEq, oNe, oLt, oLe, oGt, oGe, oIsN, r_add_ii, r_add_ss, r_add_tt, r_add_r, r_add_l, r_add_ib, r_add_bi, r_add_bb, r_sub_ii, r_sub_bb, r_mul_ii, r_mul_si, r_fdiv_ii, r_mod_ii, r_pow_ii, r_neg_i, r_eq_ii, r_eq_ss, r_ord_ii, r_ix_t, r_ix_l, r_ix_r, r_ix_s, r_len_s, r_len_t, r_len_l, r_len_r, r_abs_i, r_int_i, r_int_b, r_list, r_tuple, r_repr_s, spEnds, wkX, List.getElem?_cons_zero, List.getElem?_cons_succ, List.set_cons_zero, List.set_cons_succ]
    have g := gcd_pos_r (n := n) hd
    have s := gcd_sm (n := n) hd sm
    exact ⟨cdivw g s, cdivw g s, szle (n := 2), .here q⟩
theorem p_law_x_plus (ds : List D) (M : DM) (Q : D → DM → Prop) (X : XD) (hl : ds.length = 2) (h : S_law_x_plus ds M Q X) : (b_law_x_plus (wkX X)).run (spEnds Q) (dStart 2 ds) M := by
  obtain ⟨a, b, c, d, rfl, hb, hd, sa, sb, sc, sd, q⟩ := h
  show (b_law_x_plus _).run (spEnds Q) [some (.tup [.int a, .int b]), some (.tup [.int c, .int d])] M
  dsimp only [dSeq, dEnd, dSNil, dPass, dBreak, dCont, dNever, dDrop, dRet, dRetN, dIfS, dName, dAsg, dSet, dPar2, dPar3, dGNil, dGCons, dGTup, dSubL, dWhile, dFor, dItSeq, dItR1, dItR2, dItEnum, dVar, dC, dNil, dCons, dTup, dLst, dOp, dUn, dTB, dAndT, dOrT, dNotT, dAndV, dOrV, dNotV, dIf, dChain, dSlice, dNoP, dPart, dCB, dIsi, dCall, dRaise, oEq, oNe, oLt, oLe, oGt, oGe, oIsN, r_add_ii, r_add_ss, r_add_tt, r_add_r, r_add_l, r_add_ib, r_add_bi, r_add_bb, r_sub_ii, r_sub_bb, r_mul_ii, r_mul_si, r_fdiv_ii, r_mod_ii, r_pow_ii, r_neg_i, r_eq_ii, r_eq_ss, r_ord_ii, r_ix_t, r_ix_l, r_ix_r, r_ix_s, r_len_s, r_len_t, r_len_l, r_len_r, r_abs_i, r_int_i, r_int_b, r_list, r_tuple, r_repr_s, spEnds, wkX, List.getElem?_cons_zero, List.getElem?_cons_succ, List.set_cons_zero, List.set_cons_succ, b_law_x_plus]
  refine ⟨_, _, rfl, rfl, _, _, rfl, rfl, mulok sa sd (by decide) (by decide) (by decide), ?_⟩
  refine ⟨_, _, rfl, rfl, _, _, rfl, rfl, mulok sc sb (by decide) (by decide) (by decide), ?_⟩
  refine ⟨_, _, rfl, rfl, _, _, rfl, rfl, mulok sb sd (by decide) (by decide) (by decide), ?_⟩
  exact .go ⟨_, _, rfl, Int.mul_pos hb hd, (sb.mul sd).mono (by decide), .here q⟩
theorem p_law_x_minus (ds : List D) (M : DM) (Q : D → DM → Prop) (X : XD) (hl : ds.length = 2) (h : S_law_x_minus ds M Q X) : (b_law_x_minus (wkX X)).run (spEnds Q) (dStart 2 ds) M := by
  obtain ⟨a, b, c, d, rfl, hb, hd, sa, sb, sc, sd, q⟩ := h
  show (b_law_x_minus _).run (spEnds Q) [some (.tup [.int a, .int b]), some (.tup [.int c, .int d])] M
  dsimp only [dSeq, dEnd, dSNil, dPass, dBreak, dCont, dNever, dDrop, dRet, dRetN, dIfS, dName, dAsg, dSet, dPar2, dPar3, dGNil, dGCons, dGTup, dSubL, dWhile, dFor, dItSeq, dItR1, dItR2, dItEnum, dVar, dC, dNil, dCons, dTup, dLst, dOp, dUn, dTB, dAndT, dOrT, dNotT, dAndV, dOrV, dNotV, dIf, dChain, dSlice, dNoP, dPart, dCB, dIsi, dCall, dRaise, oEq, oNe, oLt, oLe, oGt, oGe, oIsN, r_add_ii, r_add_ss, r_add_tt, r_add_r, r_add_l, r_add_ib, r_add_bi, r_add_bb, r_sub_ii, r_sub_bb, r_mul_ii, r_mul_si, r_fdiv_ii, r_mod_ii, r_pow_ii, r_neg_i, r_eq_ii, r_eq_ss, r_ord_ii, r_ix_t, r_ix_l, r_ix_r, r_ix_s, r_len_s, r_len_t, r_len_l, r_len_r, r_abs_i, r_int_i, r_int_b, r_list, r_tuple, r_repr_s, spEnds, wkX, List.getElem?_cons_zero, List.getElem?_cons_succ, List.set_cons_zero, List.set_cons_succ, b_law_x_minus]
  refine ⟨_, _, rfl, rfl, _, _, rfl, rfl, mulok sa sd (by decide) (by decide) (by decide), ?_⟩
  refine ⟨_, _, rfl, rfl, _, _, rfl, rfl, mulok sc sb (by decide) (by decide) (by decide), ?_⟩
  refine ⟨_, _, rfl, rfl, _, _, rfl, rfl, mulok sb sd (by decide) (by decide) (by decide), ?_⟩
  exact .go ⟨_, _, rfl, Int.mul_pos hb hd, (sb.mul sd).mono (by decide), .here q⟩
theorem p_law_x_is_less (ds : List D) (M : DM) (Q : D → DM → Prop) (X : XD) (hl : ds.length = 2) (h : S_law_x_is_less ds M Q X) : (b_law_x_is_less (wkX X)).run (spEnds Q) (dStart 2 ds) M := by
  obtain ⟨a, b, c, d, rfl, sa, sb, sc, sd, q⟩ := h
  show (b_law_x_is_less _).run (spEnds Q) [some (.tup [.int a, .int b]), some (.tup [.int c, .int d])] M
  dsimp only [dSeq, dEnd, dSNil, dPass, dBreak, dCont, dNever, dDrop, dRet, dRetN, dIfS, dName, dAsg, dSet, dPar2, dPar3, dGNil, dGCons, dGTup, dSubL, dWhile, dFor, dItSeq, dItR1, dItR2, dItEnum, dVar, dC, dNil, dCons, dTup, dLst, dOp, dUn, dTB, dAndT, dOrT, dNotT, dAndV, dOrV, dNotV, dIf, dChain, dSlice, dNoP, dPart, dCB, dIsi, dCall, dRaise, oEq, oNe, oLt, oLe, oGt, oGe, oIsN, r_add_ii, r_add_ss, r_add_tt, r_add_r, r_add_l, r_add_ib, r_add_bi, r_add_bb, r_sub_ii, r_sub_bb, r_mul_ii, r_mul_si, r_fdiv_ii, r_mod_ii, r_pow_ii, r_neg_i, r_eq_ii, r_eq_ss, r_ord_ii, r_ix_t, r_ix_l, r_ix_r, r_ix_s, r_len_s, r_len_t, r_len_l, r_len_r, r_abs_i, r_int_i, r_int_b, r_list, r_tuple, r_repr_s, spEnds, wkX, List.getElem?_cons_zero, List.getElem?_cons_succ, List.set_cons_zero, List.set_cons_succ, b_law_x_is_less]
  refine ⟨_, _, rfl, rfl, _, _, rfl, rfl, mulok sa sd (by decide) (by decide) (by decide), ?_⟩
  refine ⟨_, _, rfl, rfl, _, _, rfl, rfl, mulok sc sb (by decide) (by decide) (by decide), ?_⟩
  exact .here q
theorem sm_ten {k m : Nat} (h : 10 ^ k < 2 ^ m := by decide +kernel) : Sm m (10 ^ (k : Int).toNat) := by
  unfold Sm
  rw [Int.toNat_natCast, Int.natAbs_pow]
  exact h
theorem great_loop {E : DEnds} {M : DM} : ∀ (xs : List D) (j : Nat) (x : Int) (s : Option D), j + xs.length = 20 → 0 < x → x.natAbs ≤ 10 ^ (60 * j) → (∀ (y : Int) (s : Option D), 0 < y → y.natAbs ≤ 10 ^ 1200 → E.nx [some (.int y), s] M) →
    forRun (dName 1) (dEnd (dSet 0 (dOp oMul (dVar 0) (dOp oPow (dC (.int 10)) (dC (.int 60)))))) E (fun _ => True) xs [some (.int x), s] M := by
  intro xs
  induction xs with
  | nil =>
    intro j x s hj h0 h1 q
    have e : j = 20 := by simpa using hj
    subst e
    exact ⟨trivial, q x s h0 h1⟩
  | cons y xs ih =>
    intro j x s hj h0 h1 q
    rw [List.length_cons] at hj
    rw [forRun]
    dsimp only [dSeq, dEnd, dSNil, dPass, dBreak, dCont, dNever, dDrop, dRet, dRetN, dIfS, dName, dAsg, dSet, dPar2, dPar3, dGNil, dGCons, dGTup, dSubL, dWhile, dFor, dItSeq, dItR1, dItR2, dItEnum, dVar, dC, dNil, dCons, dTup, dLst, dOp, dUn, dTB, dAndT, dOrT, dNotT, dAndV, dOrV, dNotV, dIf, dChain, dSlice, dNoP, dPart, dCB, dIsi, dCall, dRaise, oEq, oNe, oLt, oLe, oGt, oGe, oIsN, r_add_ii, r_add_ss, r_add_tt, r_add_r, r_add_l, r_add_ib, r_add_bi, r_add_bb, r_sub_ii, r_sub_bb, r_mul_ii, r_mul_si, r_fdiv_ii, r_mod_ii, r_pow_ii, r_neg_i, r_eq_ii, r_eq_ss, r_ord_ii, r_ix_t, r_ix_l, r_ix_r, r_ix_s, r_len_s, r_len_t, r_len_l, r_len_r, r_abs_i, r_int_i, r_int_b, r_list, r_tuple, r_repr_s, spEnds, wkX, List.getElem?_cons_zero, List.getElem?_cons_succ, List.set_cons_zero, List.set_cons_succ]
    have h2 : x.natAbs < 2 ^ 4000 := Nat.lt_of_le_of_lt (Nat.le_trans h1 (Nat.pow_le_pow_right (by decide) (show 60 * j ≤ 1200 by omega))) (by decide +kernel)
    refine ⟨trivial, cpow (by decide) (by decide) (by decide), mulok (k := 4000) (l := 200) h2 (sm_ten (k := 60)) (by decide) (by decide) (by decide), .here ?_⟩
    refine ih (j + 1) _ _ (by omega) (Int.mul_pos h0 (by decide)) ?_ q
    rw [Int.natAbs_mul, show 60 * (j + 1) = 60 * j + 60 by omega, Nat.pow_add]
    exact Nat.mul_le_mul h1 (by decide)
theorem p_law_x_great (ds : List D) (M : DM) (Q : D → DM → Prop) (X : XD) (hl : ds.length = 0) (h : S_law_x_great ds M Q X) : (b_law_x_great (wkX X)).run (spEnds Q) (dStart 2 ds) M := by
  obtain ⟨rfl, q⟩ := h
  show (b_law_x_great _).run (spEnds Q) [none, none] M
  dsimp only [b_law_x_great, dSeq, dFor, dSet, dItR1, dC]
  refine .here ⟨by decide, ?_⟩
  refine great_loop _ 0 1 none (by rw [rngD_len]; rfl) (by decide) (by decide) fun y s h0 h1 => .here ?_
  exact .here (q y h0 (Nat.lt_of_le_of_lt h1 (by decide +kernel)))
/-- a pick out of a new list -/
theorem pick_new {M : DM} {Q : D → DM → Prop} {X : XD} {p q : Addr} {es : List D} {n : Nat} (pen : Pen M p n) (hn : n < 1000000) (f : M q = none) (h0 : 0 < es.length) (hz : es.length < 1000000) (k : ∀ d o, d ∈ es → penO (n + 1) o → Q d (put (put M q (.lst es)) p o)) :
    S_law_x_pick [.ref p, .ref q] (put M q (.lst es)) Q X := by
  have ne := pen.ne f
  exact ⟨p, _, es, n, rfl, fun M' hM => .inl (by rw [hM q ne]; exact put_same), fun r e => by cases e; exact ne, h0, hz, pen.put f, hn, k⟩

theorem p_law_x_any (ds : List D) (M : DM) (Q : D → DM → Prop) (X : XD) (hl : ds.length = 1) (h : S_law_x_any ds M Q X) : (b_law_x_any (wkX X)).run (spEnds Q) (dStart 5 ds) M := by
  obtain ⟨p, n, rfl, pen, hn, q⟩ := h
  show (b_law_x_any _).run (spEnds Q) [some (.ref p), none, none, none, none] M
  dsimp only [dSeq, dEnd, dSNil, dPass, dBreak, dCont, dNever, dDrop, dRet, dRetN, dIfS, dName, dAsg, dSet, dPar2, dPar3, dGNil, dGCons, dGTup, dSubL, dWhile, dFor, dItSeq, dItR1, dItR2, dItEnum, dVar, dC, dNil, dCons, dTup, dLst, dOp, dUn, dTB, dAndT, dOrT, dNotT, dAndV, dOrV, dNotV, dIf, dChain, dSlice, dNoP, dPart, dCB, dIsi, dCall, dRaise, oEq, oNe, oLt, oLe, oGt, oGe, oIsN, r_add_ii, r_add_ss, r_add_tt, r_add_r, r_add_l, r_add_ib, r_add_bi, r_add_bb, r_sub_ii, r_sub_bb, r_mul_ii, r_mul_si, r_fdiv_ii, r_mod_ii, r_pow_ii, r_neg_i, r_eq_ii, r_eq_ss, r_ord_ii, r_ix_t, r_ix_l, r_ix_r, r_ix_s, r_len_s, r_len_t, r_len_l, r_len_r, r_abs_i, r_int_i, r_int_b, r_list, r_tuple, r_repr_s, spEnds, wkX, List.getElem?_cons_zero, List.getElem?_cons_succ, List.set_cons_zero, List.set_cons_succ, b_law_x_any]
  refine ⟨cpow (by decide) (by decide) (by decide), cpow (by decide) (by decide) (by decide), cpow (by decide) (by decide) (by decide), cpow (by decide) (by decide) (by decide),
    mulok (k := 200) (l := 200) (sm_ten (k := 60)) (sm_ten (k := 60)) (by decide) (by decide) (by decide), cpow (by decide) (by decide) (by decide),
    mulok (k := 400) (l := 200) (Sm.mul (k := 200) (l := 200) (sm_ten (k := 60)) (sm_ten (k := 60))) (sm_ten (k := 60)) (by decide) (by decide) (by decide), szle (n := 6), fun q1 f1 => ?_⟩
  refine .go (pick_new pen (by omega) f1 (by decide) (by decide) fun d o hd po => .here ?_)
  have hm : ∃ m : Int, d = .int m ∧ 0 < m ∧ Sm 599 m := by
    simp only [List.mem_cons, List.not_mem_nil, or_false] at hd
    rcases hd with rfl | rfl | rfl | rfl | rfl | rfl <;> exact ⟨_, rfl, by decide +kernel, by unfold Sm; decide +kernel⟩
  obtain ⟨m, rfl, hm0, hm1⟩ := hm
  clear hd
  have pen1 : Pen (put (put M q1 (MO.lst [D.int 2, D.int 10, D.int 10, D.int (10 ^ Int.toNat 9), D.int (10 ^ Int.toNat 40), D.int (10 ^ Int.toNat 60 * 10 ^ Int.toNat 60 * 10 ^ Int.toNat 60)])) p o) p (n + 1) := .now po
  generalize put (put M q1 (MO.lst [D.int 2, D.int 10, D.int 10, D.int (10 ^ Int.toNat 9), D.int (10 ^ Int.toNat 40), D.int (10 ^ Int.toNat 60 * 10 ^ Int.toNat 60 * 10 ^ Int.toNat 60)])) p o = M1 at pen1 ⊢
  dsimp only [dSeq, dEnd, dSNil, dPass, dBreak, dCont, dNever, dDrop, dRet, dRetN, dIfS, dName, dAsg, dSet, dPar2, dPar3, dGNil, dGCons, dGTup, dSubL, dWhile, dFor, dItSeq, dItR1, dItR2, dItEnum, dVar, dC, dNil, dCons, dTup, dLst, dOp, dUn, dTB, dAndT, dOrT, dNotT, dAndV, dOrV, dNotV, dIf, dChain, dSlice, dNoP, dPart, dCB, dIsi, dCall, dRaise, oEq, oNe, oLt, oLe, oGt, oGe, oIsN, r_add_ii, r_add_ss, r_add_tt, r_add_r, r_add_l, r_add_ib, r_add_bi, r_add_bb, r_sub_ii, r_sub_bb, r_mul_ii, r_mul_si, r_fdiv_ii, r_mod_ii, r_pow_ii, r_neg_i, r_eq_ii, r_eq_ss, r_ord_ii, r_ix_t, r_ix_l, r_ix_r, r_ix_s, r_len_s, r_len_t, r_len_l, r_len_r, r_abs_i, r_int_i, r_int_b, r_list, r_tuple, r_repr_s, spEnds, wkX, List.getElem?_cons_zero, List.getElem?_cons_succ, List.set_cons_zero, List.set_cons_succ]
  have sm2 : Sm 600 (2 * m) := by unfold Sm at hm1 ⊢; rw [Int.natAbs_mul, show Int.natAbs 2 = 2 from rfl, Nat.pow_succ 2 599]; omega
  refine ⟨mulok (k := 5) (l := 599) (by unfold Sm; decide) hm1 (by decide) (by decide) (by decide), .go ⟨p, _, n + 1, rfl, by omega, sm2.mono (by decide), pen1, by omega, fun r1 o1 g0 g1 po1 => ?_⟩⟩
  have pen2 : Pen (put M1 p o1) p (n + 1 + 1) := .now po1
  generalize put M1 p o1 = M2 at pen2 ⊢
  dsimp only [dSeq, dEnd, dSNil, dPass, dBreak, dCont, dNever, dDrop, dRet, dRetN, dIfS, dName, dAsg, dSet, dPar2, dPar3, dGNil, dGCons, dGTup, dSubL, dWhile, dFor, dItSeq, dItR1, dItR2, dItEnum, dVar, dC, dNil, dCons, dTup, dLst, dOp, dUn, dTB, dAndT, dOrT, dNotT, dAndV, dOrV, dNotV, dIf, dChain, dSlice, dNoP, dPart, dCB, dIsi, dCall, dRaise, oEq, oNe, oLt, oLe, oGt, oGe, oIsN, r_add_ii, r_add_ss, r_add_tt, r_add_r, r_add_l, r_add_ib, r_add_bi, r_add_bb, r_sub_ii, r_sub_bb, r_mul_ii, r_mul_si, r_fdiv_ii, r_mod_ii, r_pow_ii, r_neg_i, r_eq_ii, r_eq_ss, r_ord_ii, r_ix_t, r_ix_l, r_ix_r, r_ix_s, r_len_s, r_len_t, r_len_l, r_len_r, r_abs_i, r_int_i, r_int_b, r_list, r_tuple, r_repr_s, spEnds, wkX, List.getElem?_cons_zero, List.getElem?_cons_succ, List.set_cons_zero, List.set_cons_succ]
  refine ⟨szle (n := 4), fun q2 f2 => .go (pick_new pen2 (by omega) f2 (by show 0 < 4; decide) (by show 4 < 1000000; decide) fun d o2 hd po2 => ?_)⟩
  have he : ∃ e : Int, d = .int e ∧ 0 < e ∧ Sm 599 e := by
    simp only [List.mem_cons, List.not_mem_nil, or_false] at hd
    rcases hd with rfl | rfl | rfl | rfl
    · exact ⟨_, rfl, by decide, by unfold Sm; decide +kernel⟩
    · exact ⟨_, rfl, by decide, by unfold Sm; decide +kernel⟩
    · exact ⟨_, rfl, by decide, by unfold Sm; decide +kernel⟩
    · exact ⟨_, rfl, hm0, hm1⟩
  obtain ⟨e, rfl, he0, he1⟩ := he
  have pen3 : Pen (put (put M2 q2 (MO.lst [D.int 1, D.int 6, D.int 6, D.int m])) p o2) p (n + 1 + 1 + 1) := .now po2
  generalize put (put M2 q2 (MO.lst [D.int 1, D.int 6, D.int 6, D.int m])) p o2 = M3 at pen3 ⊢
  refine .go ⟨p, _, _, rfl, he0, he1.mono (by decide), pen3, by omega, fun r2 o3 g2 g3 po3 => ?_⟩
  have pen4 : Pen (put M3 p o3) p (n + 1 + 1 + 1 + 1) := .now po3
  generalize put M3 p o3 = M4 at pen4 ⊢
  dsimp only [dSeq, dEnd, dSNil, dPass, dBreak, dCont, dNever, dDrop, dRet, dRetN, dIfS, dName, dAsg, dSet, dPar2, dPar3, dGNil, dGCons, dGTup, dSubL, dWhile, dFor, dItSeq, dItR1, dItR2, dItEnum, dVar, dC, dNil, dCons, dTup, dLst, dOp, dUn, dTB, dAndT, dOrT, dNotT, dAndV, dOrV, dNotV, dIf, dChain, dSlice, dNoP, dPart, dCB, dIsi, dCall, dRaise, oEq, oNe, oLt, oLe, oGt, oGe, oIsN, r_add_ii, r_add_ss, r_add_tt, r_add_r, r_add_l, r_add_ib, r_add_bi, r_add_bb, r_sub_ii, r_sub_bb, r_mul_ii, r_mul_si, r_fdiv_ii, r_mod_ii, r_pow_ii, r_neg_i, r_eq_ii, r_eq_ss, r_ord_ii, r_ix_t, r_ix_l, r_ix_r, r_ix_s, r_len_s, r_len_t, r_len_l, r_len_r, r_abs_i, r_int_i, r_int_b, r_list, r_tuple, r_repr_s, spEnds, wkX, List.getElem?_cons_zero, List.getElem?_cons_succ, List.set_cons_zero, List.set_cons_succ]
  refine .here ⟨cpow (by decide) (by decide) (by decide), .go ⟨p, _, _, rfl, by decide, by unfold Sm; decide +kernel, pen4, by omega, fun r3 o4 g4 g5 po4 => ?_⟩⟩
  have pen5 : Pen (put M4 p o4) p (n + 1 + 1 + 1 + 1 + 1) := .now po4
  generalize put M4 p o4 = M5 at pen5 ⊢
  dsimp only [dSeq, dEnd, dSNil, dPass, dBreak, dCont, dNever, dDrop, dRet, dRetN, dIfS, dName, dAsg, dSet, dPar2, dPar3, dGNil, dGCons, dGTup, dSubL, dWhile, dFor, dItSeq, dItR1, dItR2, dItEnum, dVar, dC, dNil, dCons, dTup, dLst, dOp, dUn, dTB, dAndT, dOrT, dNotT, dAndV, dOrV, dNotV, dIf, dChain, dSlice, dNoP, dPart, dCB, dIsi, dCall, dRaise, oEq, oNe, oLt, oLe, oGt, oGe, oIsN, r_add_ii, r_add_ss, r_add_tt, r_add_r, r_add_l, r_add_ib, r_add_bi, r_add_bb, r_sub_ii, r_sub_bb, r_mul_ii, r_mul_si, r_fdiv_ii, r_mod_ii, r_pow_ii, r_neg_i, r_eq_ii, r_eq_ss, r_ord_ii, r_ix_t, r_ix_l, r_ix_r, r_ix_s, r_len_s, r_len_t, r_len_l, r_len_r, r_abs_i, r_int_i, r_int_b, r_list, r_tuple, r_repr_s, spEnds, wkX, List.getElem?_cons_zero, List.getElem?_cons_succ, List.set_cons_zero, List.set_cons_succ]
  refine .go ⟨rfl, fun gr h0 h1 => ?_⟩
  dsimp only [dSeq, dEnd, dSNil, dPass, dBreak, dCont, dNever, dDrop, dRet, dRetN, dIfS, dName, dAsg, dSet, dPar2, dPar3, dGNil, dGCons, dGTup, dSubL, dWhile, dFor, dItSeq, dItR1, dItR2, dItEnum, dVar, dC, dNil, dCons, dTup, dLst, dOp, dUn, dTB, dAndT, dOrT, dNotT, dAndV, dOrV, dNotV, dIf, dChain, dSlice, dNoP, dPart, dCB, dIsi, dCall, dRaise, oEq, oNe, oLt, oLe, oGt, oGe, oIsN, r_add_ii, r_add_ss, r_add_tt, r_add_r, r_add_l, r_add_ib, r_add_bi, r_add_bb, r_sub_ii, r_sub_bb, r_mul_ii, r_mul_si, r_fdiv_ii, r_mod_ii, r_pow_ii, r_neg_i, r_eq_ii, r_eq_ss, r_ord_ii, r_ix_t, r_ix_l, r_ix_r, r_ix_s, r_len_s, r_len_t, r_len_l, r_len_r, r_abs_i, r_int_i, r_int_b, r_list, r_tuple, r_repr_s, spEnds, wkX, List.getElem?_cons_zero, List.getElem?_cons_succ, List.set_cons_zero, List.set_cons_succ]
  refine ⟨szle (n := 5), fun q3 f3 => .go (pick_new pen5 (by omega) f3 (by show 0 < 5; decide) (by show 5 < 1000000; decide) fun d o5 hd po5 => .here ?_)⟩
  have hb : ∃ b : Int, d = .int b ∧ 0 < b ∧ Sm 4000 b := by
    simp only [List.mem_cons, List.not_mem_nil, or_false] at hd
    rcases hd with rfl | rfl | rfl | rfl | rfl
    · exact ⟨_, rfl, by decide, by unfold Sm; decide +kernel⟩
    · exact ⟨_, rfl, by decide, by unfold Sm; decide +kernel⟩
    · exact ⟨_, rfl, by decide, by unfold Sm; decide +kernel⟩
    · refine ⟨_, rfl, by omega, Sm.mono (k := 21) ?_ (by decide)⟩
      have : (10 : Int) ^ (6 : Int).toNat = 1000000 := by decide
      unfold Sm
      omega
    · exact ⟨_, rfl, h0, h1⟩
  obtain ⟨b, rfl, hb0, hb1⟩ := hb
  have pen6 : Pen (put (put M5 q3 (MO.lst [D.int 1, D.int 1, D.int 6, D.int (1 + r3), D.int gr])) p o5) p (n + 6) := .now po5
  generalize put (put M5 q3 (MO.lst [D.int 1, D.int 1, D.int 6, D.int (1 + r3), D.int gr])) p o5 = M6 at pen6 ⊢
  dsimp only [dSeq, dEnd, dSNil, dPass, dBreak, dCont, dNever, dDrop, dRet, dRetN, dIfS, dName, dAsg, dSet, dPar2, dPar3, dGNil, dGCons, dGTup, dSubL, dWhile, dFor, dItSeq, dItR1, dItR2, dItEnum, dVar, dC, dNil, dCons, dTup, dLst, dOp, dUn, dTB, dAndT, dOrT, dNotT, dAndV, dOrV, dNotV, dIf, dChain, dSlice, dNoP, dPart, dCB, dIsi, dCall, dRaise, oEq, oNe, oLt, oLe, oGt, oGe, oIsN, r_add_ii, r_add_ss, r_add_tt, r_add_r, r_add_l, r_add_ib, r_add_bi, r_add_bb, r_sub_ii, r_sub_bb, r_mul_ii, r_mul_si, r_fdiv_ii, r_mod_ii, r_pow_ii, r_neg_i, r_eq_ii, r_eq_ss, r_ord_ii, r_ix_t, r_ix_l, r_ix_r, r_ix_s, r_len_s, r_len_t, r_len_l, r_len_r, r_abs_i, r_int_i, r_int_b, r_list, r_tuple, r_repr_s, spEnds, wkX, List.getElem?_cons_zero, List.getElem?_cons_succ, List.set_cons_zero, List.set_cons_succ]
  -- n, d, by
  have sn : Sm 599 (r1 - m) := by unfold Sm at hm1 ⊢; omega
  have sd : Sm 599 (1 + r2) := by unfold Sm at he1 ⊢; omega
  refine ⟨mulok (sn) hb1 (by decide) (by decide) (by decide), mulok sd hb1 (by decide) (by decide) (by decide), .go ⟨_, _, rfl, by omega, sd.mono (by decide), ?_⟩⟩
  obtain ⟨x, y, g, e1, np, e2, e3, hg, hle⟩ := numD_is (r1 - m) (show 0 < 1 + r2 by omega)
  rw [e1, e2, e3]
  refine ⟨szle (n := 3), .here ?_⟩
  rw [Int.mul_assoc, Int.mul_assoc]
  have sg : Sm 599 g := sd.le (by omega)
  refine q x y (g * b) M6 np (Int.mul_pos hg hb0) ?_ ?_ ((sg.mul hb1).mono (by decide)) pen6
  · exact Sm.mono (k := 599) (sn.le (by rw [e2]; exact mul_abs_le hg)) (by decide)
  · exact Sm.mono (k := 599) (sd.le (by rw [e3]; exact mul_abs_le hg)) (by decide)

/-- what a turn drew: n, d, n / d -/
def Drew (M : DM) (x y z : Option D) (A B : Int) : Prop := ∃ c : Int, x = some (.int (A * c)) ∧ y = some (.int (B * c)) ∧ z = some (.tup [.int A, .int B]) ∧ 0 < c ∧ Sm 4710 c ∧ NumP A B ∧ Sm 600 A ∧ Sm 600 B
theorem S_number_drew {M : DM} {Q : D → DM → Prop} {X : XD} {A B c : Int} (hc : 0 < c) (sc : Sm 4710 c) (np : NumP A B) (sB : Sm 600 B) (q : Q (.tup [.int A, .int B]) M) : S_number_of [.int (A * c), .int (B * c)] M Q X := by
  have hd : 0 < B * c := Int.mul_pos np.pos hc
  refine ⟨_, _, rfl, trivial, trivial, ?_⟩
  refine bcase_f (decide_eq_false (by omega)) ⟨(sB.mul sc).mono (by decide), ?_⟩
  rw [numD_eq hd np (by rw [Int.mul_assoc, Int.mul_comm c B])]
  exact q
theorem two_num {f : Int → Int → Int → Int → D} {M : DM} {Q : D → DM → Prop} {X : XD} {A B C E : Int} (h : NumP A B) (g : NumP C E) (sa : Sm 4000 A) (sb : Sm 4000 B) (sc : Sm 4000 C) (sd : Sm 4000 E) (q : Q (f A B C E) M) :
    twoN f (.tup [.int A, .int B]) (.tup [.int C, .int E]) M Q X :=
  ⟨knN2, bcase_t h.is ⟨knN2, bcase_t g.is ⟨A, B, C, E, rfl, rfl, sa, sb, sc, sd, q⟩⟩⟩
theorem cmp_neg (a b c d : Int) : cmpN c d a b = -cmpN a b c d := by
  show b2i (decide (a * d < c * b)) - b2i (decide (c * b < a * d)) = -(b2i (decide (c * b < a * d)) - b2i (decide (a * d < c * b)))
  omega
theorem cmp_self (a b : Int) : cmpN a b a b = 0 := by
  show b2i (decide (a * b < a * b)) - b2i (decide (a * b < a * b)) = 0
  omega
theorem law_turn {E : DEnds} {X : XD} : ∀ (xs : List D) (n : Nat) (M : DM) (p : Addr) (s0 s2 s3 s4 s5 s6 s7 s8 s9 : Option D), Pen M p n → n + 20 * xs.length ≤ 1000 → (∀ δ M, δ.length = 10 → E.nx δ M) →
    forRun (dName 2) (dSeq (dAsg (dCall S_law_x_any (dCons (dVar 1) (dNil)) (wkX X)) (dGTup (dGCons (dName 3) (dGCons (dName 4) (dGCons (dName 5) (dGNil))))))
  (dSeq (dAsg (dCall S_law_x_any (dCons (dVar 1) (dNil)) (wkX X)) (dGTup (dGCons (dName 6) (dGCons (dName 7) (dGCons (dName 8) (dGNil))))))
  (dSeq (dIfS (dTB (dOp oEq (dCall S_law_take (dCons (dVar 1) (dCons (dC (.int 5)) (dNil))) (wkX X)) (dC (.int 0)))) (dEnd (dPar3 6 7 8 (dCons (dOp oMul (dVar 3) (dC (.int 7))) (dCons (dOp oMul (dVar 4) (dC (.int 7))) (dCons (dVar 5) (dNil)))))) (dSNil))
  (dSeq (dIfS (dOrT (dTB (dOp oNe (dCB rRepr (dCons (dCall S_number_of (dCons (dVar 3) (dCons (dVar 4) (dNil))) (wkX X)) (dNil))) (dCB rRepr (dCons (dVar 5) (dNil))))) (dTB (dOp oNe (dCB rRepr (dCons (dCall S_number_of (dCons (dVar 6) (dCons (dVar 7) (dNil))) (wkX X)) (dNil))) (dCB rRepr (dCons (dVar 8) (dNil)))))) (dEnd (dRet (dC (.bl false)))) (dSNil))
  (dSeq (dIfS (dOrT (dTB (dOp oNe (dCB rRepr (dCons (dCall S_plus (dCons (dVar 5) (dCons (dVar 8) (dNil))) (wkX X)) (dNil))) (dCB rRepr (dCons (dCall S_law_x_plus (dCons (dVar 5) (dCons (dVar 8) (dNil))) (wkX X)) (dNil))))) (dTB (dOp oNe (dCB rRepr (dCons (dCall S_minus (dCons (dVar 5) (dCons (dVar 8) (dNil))) (wkX X)) (dNil))) (dCB rRepr (dCons (dCall S_law_x_minus (dCons (dVar 5) (dCons (dVar 8) (dNil))) (wkX X)) (dNil)))))) (dEnd (dRet (dC (.bl false)))) (dSNil))
  (dSeq (dSet 9 (dOp oSub (dCB rInt (dCons (dCall S_law_x_is_less (dCons (dVar 8) (dCons (dVar 5) (dNil))) (wkX X)) (dNil))) (dCB rInt (dCons (dCall S_law_x_is_less (dCons (dVar 5) (dCons (dVar 8) (dNil))) (wkX X)) (dNil)))))
  (dSeq (dIfS (dOrT (dTB (dOp oNe (dCB rRepr (dCons (dCall S_compared (dCons (dVar 5) (dCons (dVar 8) (dNil))) (wkX X)) (dNil))) (dCB rRepr (dCons (dVar 9) (dNil))))) (dOrT (dTB (dOp oNe (dCB rRepr (dCons (dCall S_compared (dCons (dVar 8) (dCons (dVar 5) (dNil))) (wkX X)) (dNil))) (dCB rRepr (dCons (dUn oNeg (dVar 9)) (dNil))))) (dTB (dOp oNe (dCall S_compared (dCons (dVar 5) (dCons (dVar 5) (dNil))) (wkX X)) (dC (.int 0)))))) (dEnd (dRet (dC (.bl false)))) (dSNil))
  (dEnd (dIfS (dOrT (dTB (dOp oNe (dCB rRepr (dCons (dCall S_minus (dCons (dCall S_plus (dCons (dVar 5) (dCons (dVar 8) (dNil))) (wkX X)) (dCons (dVar 8) (dNil))) (wkX X)) (dNil))) (dCB rRepr (dCons (dVar 5) (dNil))))) (dOrT (dTB (dOp oNe (dCall S_plus (dCons (dVar 8) (dCons (dVar 5) (dNil))) (wkX X)) (dCall S_plus (dCons (dVar 5) (dCons (dVar 8) (dNil))) (wkX X)))) (dTB (dOp oNe (dCall S_minus (dCons (dVar 5) (dCons (dVar 5) (dNil))) (wkX X)) (dTup (dCons (dC (.int 0)) (dCons (dC (.int 1)) (dNil)))))))) (dEnd (dRet (dC (.bl false)))) (dSNil)))))))))) E (fun _ => True) xs [s0, some (.ref p), s2, s3, s4, s5, s6, s7, s8, s9] M := by
  intro xs
  induction xs with
  | nil =>
    intro n M p s0 s2 s3 s4 s5 s6 s7 s8 s9 pen hn q
    exact ⟨trivial, q _ _ rfl⟩
  | cons x xs ih =>
    intro n M p s0 s2 s3 s4 s5 s6 s7 s8 s9 pen hn q
    rw [List.length_cons] at hn
    rw [forRun]
    dsimp only [dSeq, dEnd, dSNil, dPass, dBreak, dCont, dNever, dDrop, dRet, dRetN, dIfS, dName, dAsg, dSet, dPar2, dPar3, dGNil, dGCons, dGTup, dSubL, dWhile, dFor, dItSeq, dItR1, dItR2, dItEnum, dVar, dC, dNil, dCons, dTup, dLst, dOp, dUn, dTB, dAndT, dOrT, dNotT, dAndV, dOrV, dNotV, dIf, dChain, dSlice, dNoP, dPart, dCB, dIsi, dCall, dRaise, oEq, oNe, oLt, oLe, oGt, oGe, oIsN, r_add_ii, r_add_ss, r_add_tt, r_add_r, r_add_l, r_add_ib, r_add_bi, r_add_bb, r_sub_ii, r_sub_bb, r_mul_ii, r_mul_si, r_fdiv_ii, r_mod_ii, r_pow_ii, r_neg_i, r_eq_ii, r_eq_ss, r_ord_ii, r_ix_t, r_ix_l, r_ix_r, r_ix_s, r_len_s, r_len_t, r_len_l, r_len_r, r_abs_i, r_int_i, r_int_b, r_list, r_tuple, r_repr_s, spEnds, wkX, List.getElem?_cons_zero, List.getElem?_cons_succ, List.set_cons_zero, List.set_cons_succ]
    refine ⟨trivial, .go ⟨p, n, rfl, pen, by omega, fun A B c M1 np hc sA sB sc pen1 => .here (.go ⟨p, n + 6, rfl, pen1, by omega, fun C E2 e M2 nq he sC sE se pen2 => .here ?_⟩)⟩⟩
    dsimp only [dSeq, dEnd, dSNil, dPass, dBreak, dCont, dNever, dDrop, dRet, dRetN, dIfS, dName, dAsg, dSet, dPar2, dPar3, dGNil, dGCons, dGTup, dSubL, dWhile, dFor, dItSeq, dItR1, dItR2, dItEnum, dVar, dC, dNil, dCons, dTup, dLst, dOp, dUn, dTB, dAndT, dOrT, dNotT, dAndV, dOrV, dNotV, dIf, dChain, dSlice, dNoP, dPart, dCB, dIsi, dCall, dRaise, oEq, oNe, oLt, oLe, oGt, oGe, oIsN, r_add_ii, r_add_ss, r_add_tt, r_add_r, r_add_l, r_add_ib, r_add_bi, r_add_bb, r_sub_ii, r_sub_bb, r_mul_ii, r_mul_si, r_fdiv_ii, r_mod_ii, r_pow_ii, r_neg_i, r_eq_ii, r_eq_ss, r_ord_ii, r_ix_t, r_ix_l, r_ix_r, r_ix_s, r_len_s, r_len_t, r_len_l, r_len_r, r_abs_i, r_int_i, r_int_b, r_list, r_tuple, r_repr_s, spEnds, wkX, List.getElem?_cons_zero, List.getElem?_cons_succ, List.set_cons_zero, List.set_cons_succ]
    refine .go ⟨p, 5, n + 6 + 6, rfl, by decide, by unfold Sm; decide +kernel, pen2, by omega, fun r o _ _ po => ?_⟩
    have pen3 : Pen (put M2 p o) p (n + 13) := .now po
    generalize put M2 p o = M3 at pen3 ⊢
    dsimp only [dSeq, dEnd, dSNil, dPass, dBreak, dCont, dNever, dDrop, dRet, dRetN, dIfS, dName, dAsg, dSet, dPar2, dPar3, dGNil, dGCons, dGTup, dSubL, dWhile, dFor, dItSeq, dItR1, dItR2, dItEnum, dVar, dC, dNil, dCons, dTup, dLst, dOp, dUn, dTB, dAndT, dOrT, dNotT, dAndV, dOrV, dNotV, dIf, dChain, dSlice, dNoP, dPart, dCB, dIsi, dCall, dRaise, oEq, oNe, oLt, oLe, oGt, oGe, oIsN, r_add_ii, r_add_ss, r_add_tt, r_add_r, r_add_l, r_add_ib, r_add_bi, r_add_bb, r_sub_ii, r_sub_bb, r_mul_ii, r_mul_si, r_fdiv_ii, r_mod_ii, r_pow_ii, r_neg_i, r_eq_ii, r_eq_ss, r_ord_ii, r_ix_t, r_ix_l, r_ix_r, r_ix_s, r_len_s, r_len_t, r_len_l, r_len_r, r_abs_i, r_int_i, r_int_b, r_list, r_tuple, r_repr_s, spEnds, wkX, List.getElem?_cons_zero, List.getElem?_cons_succ, List.set_cons_zero, List.set_cons_succ]
    apply tailsG (ι := Option D × Option D × Option D) (fun i => [s0, some (.ref p), some x, some (.int (A * c)), some (.int (B * c)), some (.tup [.int A, .int B]), i.1, i.2.1, i.2.2, s9]) (fun _ => M3) fun i => ∃ C E2 e : Int, i = (some (.int (C * e)), some (.int (E2 * e)), some (.tup [.int C, .int E2])) ∧ 0 < e ∧ Sm 4710 e ∧ NumP C E2 ∧ Sm 600 C ∧ Sm 600 E2
    · intro tl
      by_cases hr : r = 0
      · refine bcase_t (by rw [decide_eq_true hr]; rfl) ⟨mulokR (by decide), mulokR (by decide), .here ?_⟩
        refine tl (_, _, _) ⟨A, B, c * 7, ?_, by omega, ?_, np, sA, sB⟩
        · rw [Int.mul_assoc, Int.mul_assoc]
        · exact (Sm.mul (k := 4700) (l := 10) sc (by unfold Sm; decide)).mono (by decide)
      · refine bcase_f (by rw [decide_eq_false hr]; rfl) ?_
        exact tl (_, _, _) ⟨C, E2, e, rfl, he, se.mono (by decide), nq, sC, sE⟩
    clear he se nq sC sE
    rintro _ ⟨C, E2, e, rfl, he, se, nq, sC, sE⟩
    dsimp only [dSeq, dEnd, dSNil, dPass, dBreak, dCont, dNever, dDrop, dRet, dRetN, dIfS, dName, dAsg, dSet, dPar2, dPar3, dGNil, dGCons, dGTup, dSubL, dWhile, dFor, dItSeq, dItR1, dItR2, dItEnum, dVar, dC, dNil, dCons, dTup, dLst, dOp, dUn, dTB, dAndT, dOrT, dNotT, dAndV, dOrV, dNotV, dIf, dChain, dSlice, dNoP, dPart, dCB, dIsi, dCall, dRaise, oEq, oNe, oLt, oLe, oGt, oGe, oIsN, r_add_ii, r_add_ss, r_add_tt, r_add_r, r_add_l, r_add_ib, r_add_bi, r_add_bb, r_sub_ii, r_sub_bb, r_mul_ii, r_mul_si, r_fdiv_ii, r_mod_ii, r_pow_ii, r_neg_i, r_eq_ii, r_eq_ss, r_ord_ii, r_ix_t, r_ix_l, r_ix_r, r_ix_s, r_len_s, r_len_t, r_len_l, r_len_r, r_abs_i, r_int_i, r_int_b, r_list, r_tuple, r_repr_s, spEnds, wkX, List.getElem?_cons_zero, List.getElem?_cons_succ, List.set_cons_zero, List.set_cons_succ]
    have sA1 := sA.mono (show 600 ≤ 1900 by decide)
    have sB1 := sB.mono (show 600 ≤ 1900 by decide)
    have sC1 := sC.mono (show 600 ≤ 1900 by decide)
    have sE1 := sE.mono (show 600 ≤ 1900 by decide)
    have sA2 := sA.mono (show 600 ≤ 4000 by decide)
    have sB2 := sB.mono (show 600 ≤ 4000 by decide)
    have sC2 := sC.mono (show 600 ≤ 4000 by decide)
    have sE2 := sE.mono (show 600 ≤ 4000 by decide)
    -- number_of
    refine .go (S_number_drew hc (sc.mono (by decide)) np sB (repr_num sA1 sB1 (repr_num sA1 sB1 ?_)))
    dsimp only [dSeq, dEnd, dSNil, dPass, dBreak, dCont, dNever, dDrop, dRet, dRetN, dIfS, dName, dAsg, dSet, dPar2, dPar3, dGNil, dGCons, dGTup, dSubL, dWhile, dFor, dItSeq, dItR1, dItR2, dItEnum, dVar, dC, dNil, dCons, dTup, dLst, dOp, dUn, dTB, dAndT, dOrT, dNotT, dAndV, dOrV, dNotV, dIf, dChain, dSlice, dNoP, dPart, dCB, dIsi, dCall, dRaise, oEq, oNe, oLt, oLe, oGt, oGe, oIsN, r_add_ii, r_add_ss, r_add_tt, r_add_r, r_add_l, r_add_ib, r_add_bi, r_add_bb, r_sub_ii, r_sub_bb, r_mul_ii, r_mul_si, r_fdiv_ii, r_mod_ii, r_pow_ii, r_neg_i, r_eq_ii, r_eq_ss, r_ord_ii, r_ix_t, r_ix_l, r_ix_r, r_ix_s, r_len_s, r_len_t, r_len_l, r_len_r, r_abs_i, r_int_i, r_int_b, r_list, r_tuple, r_repr_s, spEnds, wkX, List.getElem?_cons_zero, List.getElem?_cons_succ, List.set_cons_zero, List.set_cons_succ]
    refine bcase_f ne_same ?_
    refine .go (S_number_drew he se nq sE (repr_num sC1 sE1 (repr_num sC1 sE1 ?_)))
    dsimp only [dSeq, dEnd, dSNil, dPass, dBreak, dCont, dNever, dDrop, dRet, dRetN, dIfS, dName, dAsg, dSet, dPar2, dPar3, dGNil, dGCons, dGTup, dSubL, dWhile, dFor, dItSeq, dItR1, dItR2, dItEnum, dVar, dC, dNil, dCons, dTup, dLst, dOp, dUn, dTB, dAndT, dOrT, dNotT, dAndV, dOrV, dNotV, dIf, dChain, dSlice, dNoP, dPart, dCB, dIsi, dCall, dRaise, oEq, oNe, oLt, oLe, oGt, oGe, oIsN, r_add_ii, r_add_ss, r_add_tt, r_add_r, r_add_l, r_add_ib, r_add_bi, r_add_bb, r_sub_ii, r_sub_bb, r_mul_ii, r_mul_si, r_fdiv_ii, r_mod_ii, r_pow_ii, r_neg_i, r_eq_ii, r_eq_ss, r_ord_ii, r_ix_t, r_ix_l, r_ix_r, r_ix_s, r_len_s, r_len_t, r_len_l, r_len_r, r_abs_i, r_int_i, r_int_b, r_list, r_tuple, r_repr_s, spEnds, wkX, List.getElem?_cons_zero, List.getElem?_cons_succ, List.set_cons_zero, List.set_cons_succ]
    refine bcase_f ne_same (.here ?_)
    -- plus, minus
    dsimp only [dSeq, dEnd, dSNil, dPass, dBreak, dCont, dNever, dDrop, dRet, dRetN, dIfS, dName, dAsg, dSet, dPar2, dPar3, dGNil, dGCons, dGTup, dSubL, dWhile, dFor, dItSeq, dItR1, dItR2, dItEnum, dVar, dC, dNil, dCons, dTup, dLst, dOp, dUn, dTB, dAndT, dOrT, dNotT, dAndV, dOrV, dNotV, dIf, dChain, dSlice, dNoP, dPart, dCB, dIsi, dCall, dRaise, oEq, oNe, oLt, oLe, oGt, oGe, oIsN, r_add_ii, r_add_ss, r_add_tt, r_add_r, r_add_l, r_add_ib, r_add_bi, r_add_bb, r_sub_ii, r_sub_bb, r_mul_ii, r_mul_si, r_fdiv_ii, r_mod_ii, r_pow_ii, r_neg_i, r_eq_ii, r_eq_ss, r_ord_ii, r_ix_t, r_ix_l, r_ix_r, r_ix_s, r_len_s, r_len_t, r_len_l, r_len_r, r_abs_i, r_int_i, r_int_b, r_list, r_tuple, r_repr_s, spEnds, wkX, List.getElem?_cons_zero, List.getElem?_cons_succ, List.set_cons_zero, List.set_cons_succ]
    obtain ⟨S, T, g, e1, ns, e2, e3, hg, hle⟩ := numD_is (A * E2 + C * B) (Int.mul_pos np.pos nq.pos)
    have pP : Sm 1201 (A * E2 + C * B) := ((sA.mul sE).add ((sC.mul sB).mono (by decide))).mono (by decide)
    have pD : Sm 1201 (B * E2) := (sB.mul sE).mono (by decide)
    have sS : Sm 1201 S := pP.le (by rw [e2]; exact mul_abs_le hg)
    have sT : Sm 1201 T := pD.le (by rw [e3]; exact mul_abs_le hg)
    have rp : ∀ (f : Int → Int → Int → Int → D), f = (fun a b c d => numD (a * d + c * b) (b * d)) → f A B C E2 = .tup [.int S, .int T] := fun f hf => by rw [hf]; exact e1
    refine .go ⟨_, _, rfl, two_num np nq sA2 sB2 sC2 sE2 ?_⟩
    rw [e1]
    refine repr_num (sS.mono (by decide)) (sT.mono (by decide)) (.go ⟨A, B, C, E2, rfl, np.pos, nq.pos, sA2, sB2, sC2, sE2, ?_⟩)
    rw [e1]
    refine repr_num (sS.mono (by decide)) (sT.mono (by decide)) ?_
    dsimp only [dSeq, dEnd, dSNil, dPass, dBreak, dCont, dNever, dDrop, dRet, dRetN, dIfS, dName, dAsg, dSet, dPar2, dPar3, dGNil, dGCons, dGTup, dSubL, dWhile, dFor, dItSeq, dItR1, dItR2, dItEnum, dVar, dC, dNil, dCons, dTup, dLst, dOp, dUn, dTB, dAndT, dOrT, dNotT, dAndV, dOrV, dNotV, dIf, dChain, dSlice, dNoP, dPart, dCB, dIsi, dCall, dRaise, oEq, oNe, oLt, oLe, oGt, oGe, oIsN, r_add_ii, r_add_ss, r_add_tt, r_add_r, r_add_l, r_add_ib, r_add_bi, r_add_bb, r_sub_ii, r_sub_bb, r_mul_ii, r_mul_si, r_fdiv_ii, r_mod_ii, r_pow_ii, r_neg_i, r_eq_ii, r_eq_ss, r_ord_ii, r_ix_t, r_ix_l, r_ix_r, r_ix_s, r_len_s, r_len_t, r_len_l, r_len_r, r_abs_i, r_int_i, r_int_b, r_list, r_tuple, r_repr_s, spEnds, wkX, List.getElem?_cons_zero, List.getElem?_cons_succ, List.set_cons_zero, List.set_cons_succ]
    refine bcase_f ne_same ?_
    obtain ⟨U, V, g2, e4, nu, e5, e6, hg2, _⟩ := numD_is (A * E2 - C * B) (Int.mul_pos np.pos nq.pos)
    have pM : Sm 1201 (A * E2 - C * B) := ((sA.mul sE).sub ((sC.mul sB).mono (by decide))).mono (by decide)
    have sU : Sm 1201 U := pM.le (by rw [e5]; exact mul_abs_le hg2)
    have sV : Sm 1201 V := pD.le (by rw [e6]; exact mul_abs_le hg2)
    refine .go ⟨_, _, rfl, two_num np nq sA2 sB2 sC2 sE2 ?_⟩
    rw [e4]
    refine repr_num (sU.mono (by decide)) (sV.mono (by decide)) (.go ⟨A, B, C, E2, rfl, np.pos, nq.pos, sA2, sB2, sC2, sE2, ?_⟩)
    rw [e4]
    refine repr_num (sU.mono (by decide)) (sV.mono (by decide)) ?_
    dsimp only [dSeq, dEnd, dSNil, dPass, dBreak, dCont, dNever, dDrop, dRet, dRetN, dIfS, dName, dAsg, dSet, dPar2, dPar3, dGNil, dGCons, dGTup, dSubL, dWhile, dFor, dItSeq, dItR1, dItR2, dItEnum, dVar, dC, dNil, dCons, dTup, dLst, dOp, dUn, dTB, dAndT, dOrT, dNotT, dAndV, dOrV, dNotV, dIf, dChain, dSlice, dNoP, dPart, dCB, dIsi, dCall, dRaise, oEq, oNe, oLt, oLe, oGt, oGe, oIsN, r_add_ii, r_add_ss, r_add_tt, r_add_r, r_add_l, r_add_ib, r_add_bi, r_add_bb, r_sub_ii, r_sub_bb, r_mul_ii, r_mul_si, r_fdiv_ii, r_mod_ii, r_pow_ii, r_neg_i, r_eq_ii, r_eq_ss, r_ord_ii, r_ix_t, r_ix_l, r_ix_r, r_ix_s, r_len_s, r_len_t, r_len_l, r_len_r, r_abs_i, r_int_i, r_int_b, r_list, r_tuple, r_repr_s, spEnds, wkX, List.getElem?_cons_zero, List.getElem?_cons_succ, List.set_cons_zero, List.set_cons_succ]
    refine bcase_f ne_same (.here ?_)
    dsimp only [dSeq, dEnd, dSNil, dPass, dBreak, dCont, dNever, dDrop, dRet, dRetN, dIfS, dName, dAsg, dSet, dPar2, dPar3, dGNil, dGCons, dGTup, dSubL, dWhile, dFor, dItSeq, dItR1, dItR2, dItEnum, dVar, dC, dNil, dCons, dTup, dLst, dOp, dUn, dTB, dAndT, dOrT, dNotT, dAndV, dOrV, dNotV, dIf, dChain, dSlice, dNoP, dPart, dCB, dIsi, dCall, dRaise, oEq, oNe, oLt, oLe, oGt, oGe, oIsN, r_add_ii, r_add_ss, r_add_tt, r_add_r, r_add_l, r_add_ib, r_add_bi, r_add_bb, r_sub_ii, r_sub_bb, r_mul_ii, r_mul_si, r_fdiv_ii, r_mod_ii, r_pow_ii, r_neg_i, r_eq_ii, r_eq_ss, r_ord_ii, r_ix_t, r_ix_l, r_ix_r, r_ix_s, r_len_s, r_len_t, r_len_l, r_len_r, r_abs_i, r_int_i, r_int_b, r_list, r_tuple, r_repr_s, spEnds, wkX, List.getElem?_cons_zero, List.getElem?_cons_succ, List.set_cons_zero, List.set_cons_succ]
    -- compared
    refine .go ⟨C, E2, A, B, rfl, sC2, sE2, sA2, sB2, ?_⟩
    dsimp only [dSeq, dEnd, dSNil, dPass, dBreak, dCont, dNever, dDrop, dRet, dRetN, dIfS, dName, dAsg, dSet, dPar2, dPar3, dGNil, dGCons, dGTup, dSubL, dWhile, dFor, dItSeq, dItR1, dItR2, dItEnum, dVar, dC, dNil, dCons, dTup, dLst, dOp, dUn, dTB, dAndT, dOrT, dNotT, dAndV, dOrV, dNotV, dIf, dChain, dSlice, dNoP, dPart, dCB, dIsi, dCall, dRaise, oEq, oNe, oLt, oLe, oGt, oGe, oIsN, r_add_ii, r_add_ss, r_add_tt, r_add_r, r_add_l, r_add_ib, r_add_bi, r_add_bb, r_sub_ii, r_sub_bb, r_mul_ii, r_mul_si, r_fdiv_ii, r_mod_ii, r_pow_ii, r_neg_i, r_eq_ii, r_eq_ss, r_ord_ii, r_ix_t, r_ix_l, r_ix_r, r_ix_s, r_len_s, r_len_t, r_len_l, r_len_r, r_abs_i, r_int_i, r_int_b, r_list, r_tuple, r_repr_s, spEnds, wkX, List.getElem?_cons_zero, List.getElem?_cons_succ, List.set_cons_zero, List.set_cons_succ]
    refine .go ⟨A, B, C, E2, rfl, sA2, sB2, sC2, sE2, ?_⟩
    dsimp only [dSeq, dEnd, dSNil, dPass, dBreak, dCont, dNever, dDrop, dRet, dRetN, dIfS, dName, dAsg, dSet, dPar2, dPar3, dGNil, dGCons, dGTup, dSubL, dWhile, dFor, dItSeq, dItR1, dItR2, dItEnum, dVar, dC, dNil, dCons, dTup, dLst, dOp, dUn, dTB, dAndT, dOrT, dNotT, dAndV, dOrV, dNotV, dIf, dChain, dSlice, dNoP, dPart, dCB, dIsi, dCall, dRaise, oEq, oNe, oLt, oLe, oGt, oGe, oIsN, r_add_ii, r_add_ss, r_add_tt, r_add_r, r_add_l, r_add_ib, r_add_bi, r_add_bb, r_sub_ii, r_sub_bb, r_mul_ii, r_mul_si, r_fdiv_ii, r_mod_ii, r_pow_ii, r_neg_i, r_eq_ii, r_eq_ss, r_ord_ii, r_ix_t, r_ix_l, r_ix_r, r_ix_s, r_len_s, r_len_t, r_len_l, r_len_r, r_abs_i, r_int_i, r_int_b, r_list, r_tuple, r_repr_s, spEnds, wkX, List.getElem?_cons_zero, List.getElem?_cons_succ, List.set_cons_zero, List.set_cons_succ]
    refine .here ?_
    dsimp only [dSeq, dEnd, dSNil, dPass, dBreak, dCont, dNever, dDrop, dRet, dRetN, dIfS, dName, dAsg, dSet, dPar2, dPar3, dGNil, dGCons, dGTup, dSubL, dWhile, dFor, dItSeq, dItR1, dItR2, dItEnum, dVar, dC, dNil, dCons, dTup, dLst, dOp, dUn, dTB, dAndT, dOrT, dNotT, dAndV, dOrV, dNotV, dIf, dChain, dSlice, dNoP, dPart, dCB, dIsi, dCall, dRaise, oEq, oNe, oLt, oLe, oGt, oGe, oIsN, r_add_ii, r_add_ss, r_add_tt, r_add_r, r_add_l, r_add_ib, r_add_bi, r_add_bb, r_sub_ii, r_sub_bb, r_mul_ii, r_mul_si, r_fdiv_ii, r_mod_ii, r_pow_ii, r_neg_i, r_eq_ii, r_eq_ss, r_ord_ii, r_ix_t, r_ix_l, r_ix_r, r_ix_s, r_len_s, r_len_t, r_len_l, r_len_r, r_abs_i, r_int_i, r_int_b, r_list, r_tuple, r_repr_s, spEnds, wkX, List.getElem?_cons_zero, List.getElem?_cons_succ, List.set_cons_zero, List.set_cons_succ]
    have ed : b2i (decide (C * B < A * E2)) - b2i (decide (A * E2 < C * B)) = cmpN A B C E2 := rfl
    rw [ed]
    refine .go ⟨_, _, rfl, two_num np nq sA2 sB2 sC2 sE2 (repr_int cmp_sm (repr_int cmp_sm ?_))⟩
    dsimp only [dSeq, dEnd, dSNil, dPass, dBreak, dCont, dNever, dDrop, dRet, dRetN, dIfS, dName, dAsg, dSet, dPar2, dPar3, dGNil, dGCons, dGTup, dSubL, dWhile, dFor, dItSeq, dItR1, dItR2, dItEnum, dVar, dC, dNil, dCons, dTup, dLst, dOp, dUn, dTB, dAndT, dOrT, dNotT, dAndV, dOrV, dNotV, dIf, dChain, dSlice, dNoP, dPart, dCB, dIsi, dCall, dRaise, oEq, oNe, oLt, oLe, oGt, oGe, oIsN, r_add_ii, r_add_ss, r_add_tt, r_add_r, r_add_l, r_add_ib, r_add_bi, r_add_bb, r_sub_ii, r_sub_bb, r_mul_ii, r_mul_si, r_fdiv_ii, r_mod_ii, r_pow_ii, r_neg_i, r_eq_ii, r_eq_ss, r_ord_ii, r_ix_t, r_ix_l, r_ix_r, r_ix_s, r_len_s, r_len_t, r_len_l, r_len_r, r_abs_i, r_int_i, r_int_b, r_list, r_tuple, r_repr_s, spEnds, wkX, List.getElem?_cons_zero, List.getElem?_cons_succ, List.set_cons_zero, List.set_cons_succ]
    refine bcase_f ne_same (.go ⟨_, _, rfl, two_num nq np sC2 sE2 sA2 sB2 ?_⟩)
    rw [cmp_neg A B C E2]
    refine repr_int (by rw [← cmp_neg]; exact cmp_sm) (repr_int (by rw [← cmp_neg]; exact cmp_sm) ?_)
    dsimp only [dSeq, dEnd, dSNil, dPass, dBreak, dCont, dNever, dDrop, dRet, dRetN, dIfS, dName, dAsg, dSet, dPar2, dPar3, dGNil, dGCons, dGTup, dSubL, dWhile, dFor, dItSeq, dItR1, dItR2, dItEnum, dVar, dC, dNil, dCons, dTup, dLst, dOp, dUn, dTB, dAndT, dOrT, dNotT, dAndV, dOrV, dNotV, dIf, dChain, dSlice, dNoP, dPart, dCB, dIsi, dCall, dRaise, oEq, oNe, oLt, oLe, oGt, oGe, oIsN, r_add_ii, r_add_ss, r_add_tt, r_add_r, r_add_l, r_add_ib, r_add_bi, r_add_bb, r_sub_ii, r_sub_bb, r_mul_ii, r_mul_si, r_fdiv_ii, r_mod_ii, r_pow_ii, r_neg_i, r_eq_ii, r_eq_ss, r_ord_ii, r_ix_t, r_ix_l, r_ix_r, r_ix_s, r_len_s, r_len_t, r_len_l, r_len_r, r_abs_i, r_int_i, r_int_b, r_list, r_tuple, r_repr_s, spEnds, wkX, List.getElem?_cons_zero, List.getElem?_cons_succ, List.set_cons_zero, List.set_cons_succ]
    refine bcase_f ne_same (.go ⟨_, _, rfl, two_num np np sA2 sB2 sA2 sB2 ?_⟩)
    rw [cmp_self]
    dsimp only [dSeq, dEnd, dSNil, dPass, dBreak, dCont, dNever, dDrop, dRet, dRetN, dIfS, dName, dAsg, dSet, dPar2, dPar3, dGNil, dGCons, dGTup, dSubL, dWhile, dFor, dItSeq, dItR1, dItR2, dItEnum, dVar, dC, dNil, dCons, dTup, dLst, dOp, dUn, dTB, dAndT, dOrT, dNotT, dAndV, dOrV, dNotV, dIf, dChain, dSlice, dNoP, dPart, dCB, dIsi, dCall, dRaise, oEq, oNe, oLt, oLe, oGt, oGe, oIsN, r_add_ii, r_add_ss, r_add_tt, r_add_r, r_add_l, r_add_ib, r_add_bi, r_add_bb, r_sub_ii, r_sub_bb, r_mul_ii, r_mul_si, r_fdiv_ii, r_mod_ii, r_pow_ii, r_neg_i, r_eq_ii, r_eq_ss, r_ord_ii, r_ix_t, r_ix_l, r_ix_r, r_ix_s, r_len_s, r_len_t, r_len_l, r_len_r, r_abs_i, r_int_i, r_int_b, r_list, r_tuple, r_repr_s, spEnds, wkX, List.getElem?_cons_zero, List.getElem?_cons_succ, List.set_cons_zero, List.set_cons_succ]
    refine bcase_f (by decide) (.here ?_)
    dsimp only [dSeq, dEnd, dSNil, dPass, dBreak, dCont, dNever, dDrop, dRet, dRetN, dIfS, dName, dAsg, dSet, dPar2, dPar3, dGNil, dGCons, dGTup, dSubL, dWhile, dFor, dItSeq, dItR1, dItR2, dItEnum, dVar, dC, dNil, dCons, dTup, dLst, dOp, dUn, dTB, dAndT, dOrT, dNotT, dAndV, dOrV, dNotV, dIf, dChain, dSlice, dNoP, dPart, dCB, dIsi, dCall, dRaise, oEq, oNe, oLt, oLe, oGt, oGe, oIsN, r_add_ii, r_add_ss, r_add_tt, r_add_r, r_add_l, r_add_ib, r_add_bi, r_add_bb, r_sub_ii, r_sub_bb, r_mul_ii, r_mul_si, r_fdiv_ii, r_mod_ii, r_pow_ii, r_neg_i, r_eq_ii, r_eq_ss, r_ord_ii, r_ix_t, r_ix_l, r_ix_r, r_ix_s, r_len_s, r_len_t, r_len_l, r_len_r, r_abs_i, r_int_i, r_int_b, r_list, r_tuple, r_repr_s, spEnds, wkX, List.getElem?_cons_zero, List.getElem?_cons_succ, List.set_cons_zero, List.set_cons_succ]
    -- back
    refine .go ⟨_, _, rfl, two_num np nq sA2 sB2 sC2 sE2 ?_⟩
    rw [e1]
    refine .go ⟨_, _, rfl, two_num ns nq (sS.mono (by decide)) (sT.mono (by decide)) sC2 sE2 ?_⟩
    rw [sum_back np.pos nq.pos np ⟨g, hg, e2, e3⟩ ns.pos]
    refine repr_num sA1 sB1 (repr_num sA1 sB1 ?_)
    dsimp only [dSeq, dEnd, dSNil, dPass, dBreak, dCont, dNever, dDrop, dRet, dRetN, dIfS, dName, dAsg, dSet, dPar2, dPar3, dGNil, dGCons, dGTup, dSubL, dWhile, dFor, dItSeq, dItR1, dItR2, dItEnum, dVar, dC, dNil, dCons, dTup, dLst, dOp, dUn, dTB, dAndT, dOrT, dNotT, dAndV, dOrV, dNotV, dIf, dChain, dSlice, dNoP, dPart, dCB, dIsi, dCall, dRaise, oEq, oNe, oLt, oLe, oGt, oGe, oIsN, r_add_ii, r_add_ss, r_add_tt, r_add_r, r_add_l, r_add_ib, r_add_bi, r_add_bb, r_sub_ii, r_sub_bb, r_mul_ii, r_mul_si, r_fdiv_ii, r_mod_ii, r_pow_ii, r_neg_i, r_eq_ii, r_eq_ss, r_ord_ii, r_ix_t, r_ix_l, r_ix_r, r_ix_s, r_len_s, r_len_t, r_len_l, r_len_r, r_abs_i, r_int_i, r_int_b, r_list, r_tuple, r_repr_s, spEnds, wkX, List.getElem?_cons_zero, List.getElem?_cons_succ, List.set_cons_zero, List.set_cons_succ]
    refine bcase_f ne_same (.go ⟨_, _, rfl, two_num nq np sC2 sE2 sA2 sB2 ?_⟩)
    rw [Int.add_comm (C * B), Int.mul_comm E2 B, e1]
    refine .go ⟨_, _, rfl, two_num np nq sA2 sB2 sC2 sE2 ?_⟩
    rw [e1]
    refine eq_num ?_
    dsimp only [dSeq, dEnd, dSNil, dPass, dBreak, dCont, dNever, dDrop, dRet, dRetN, dIfS, dName, dAsg, dSet, dPar2, dPar3, dGNil, dGCons, dGTup, dSubL, dWhile, dFor, dItSeq, dItR1, dItR2, dItEnum, dVar, dC, dNil, dCons, dTup, dLst, dOp, dUn, dTB, dAndT, dOrT, dNotT, dAndV, dOrV, dNotV, dIf, dChain, dSlice, dNoP, dPart, dCB, dIsi, dCall, dRaise, oEq, oNe, oLt, oLe, oGt, oGe, oIsN, r_add_ii, r_add_ss, r_add_tt, r_add_r, r_add_l, r_add_ib, r_add_bi, r_add_bb, r_sub_ii, r_sub_bb, r_mul_ii, r_mul_si, r_fdiv_ii, r_mod_ii, r_pow_ii, r_neg_i, r_eq_ii, r_eq_ss, r_ord_ii, r_ix_t, r_ix_l, r_ix_r, r_ix_s, r_len_s, r_len_t, r_len_l, r_len_r, r_abs_i, r_int_i, r_int_b, r_list, r_tuple, r_repr_s, spEnds, wkX, List.getElem?_cons_zero, List.getElem?_cons_succ, List.set_cons_zero, List.set_cons_succ]
    refine bcase_f (by decide) (.go ⟨_, _, rfl, two_num np np sA2 sB2 sA2 sB2 ?_⟩)
    rw [Int.sub_self, numD_eq (a := 0) (b := 1) (Int.mul_pos np.pos np.pos) ⟨by decide, by decide⟩ (by rw [Int.zero_mul, Int.zero_mul])]
    refine ⟨szle (n := 2), eq_num ?_⟩
    dsimp only [dSeq, dEnd, dSNil, dPass, dBreak, dCont, dNever, dDrop, dRet, dRetN, dIfS, dName, dAsg, dSet, dPar2, dPar3, dGNil, dGCons, dGTup, dSubL, dWhile, dFor, dItSeq, dItR1, dItR2, dItEnum, dVar, dC, dNil, dCons, dTup, dLst, dOp, dUn, dTB, dAndT, dOrT, dNotT, dAndV, dOrV, dNotV, dIf, dChain, dSlice, dNoP, dPart, dCB, dIsi, dCall, dRaise, oEq, oNe, oLt, oLe, oGt, oGe, oIsN, r_add_ii, r_add_ss, r_add_tt, r_add_r, r_add_l, r_add_ib, r_add_bi, r_add_bb, r_sub_ii, r_sub_bb, r_mul_ii, r_mul_si, r_fdiv_ii, r_mod_ii, r_pow_ii, r_neg_i, r_eq_ii, r_eq_ss, r_ord_ii, r_ix_t, r_ix_l, r_ix_r, r_ix_s, r_len_s, r_len_t, r_len_l, r_len_r, r_abs_i, r_int_i, r_int_b, r_list, r_tuple, r_repr_s, spEnds, wkX, List.getElem?_cons_zero, List.getElem?_cons_succ, List.set_cons_zero, List.set_cons_succ]
    refine bcase_f (by decide) (.here ?_)
    exact ih (n + 13) _ _ _ _ _ _ _ _ _ _ _ pen3 (by omega) q
theorem p_law (ds : List D) (M : DM) (Q : D → DM → Prop) (X : XD) (hl : ds.length = 1) (h : S_law ds M Q X) : (b_law (wkX X)).run (spEnds Q) (dStart 10 ds) M := by
  obtain ⟨ns, rfl, hn, q⟩ := h
  show (b_law _).run (spEnds Q) [some (.lst (ns.map D.int)), none, none, none, none, none, none, none, none, none] M
  dsimp only [b_law, dSeq, dFor, dSet, dItR1, dC]
  refine .go ⟨ns, rfl, hn, fun p o f po => .here ⟨by decide, ?_⟩⟩
  refine law_turn _ 0 _ p _ _ _ _ _ _ _ _ _ (.now po) (by rw [rngD_len]; decide) fun δ M' _ => .here ?_
  exact .here (q M')
end LD

/-! LE1: errors as values; try; list comprehensions -/
namespace LD
open PySem PySem.Spec PyProof.Rows L2

/-- which error is of which class: all are of LaterError and ValueError -/
def relE (y c : Str) : Bool := y == c || c == "LaterError"
/-- what the module says of its classes of errors -/
structure Errs (K : PySem.W.Frag) (cs : List Str) : Prop where
  inst : ∀ y ∈ cs, L2.ExcC K (He.ga K y)
  rel : ∀ y ∈ cs, ∀ c ∈ cs, PySem.W.kitOne K (.ref (He.ga K y)) (.ref (He.ga K c)) = some (relE y c)
  relV : ∀ y ∈ cs, PySem.W.kitOne K (.ref (He.ga K y)) (.type "ValueError") = some true
  exm : ∀ y ∈ cs, PySem.W.exmOne K (.ref (He.ga K y)) (.ref (He.ga K "LaterError")) = some true
def errsB (cs : List Str) (K : PySem.W.Frag) : Bool := cs.all fun y =>
  decide (PySem.W.findIn K (.ref (He.ga K y)) "__getattribute__" = some (some (.builtin "BaseException.__getattribute__"))) &&
  (decide (PySem.W.findIn K (.ref (He.ga K y)) "__getattr__" = some none) &&
  (decide (PySem.W.subIn K (.ref (He.ga K y)) (.type "BaseException") = some true) &&
  (PySem.W.hasDictIn K (He.ga K y) &&
  (decide (PySem.W.findIn K (.ref (He.ga K y)) "__class__" = some (some (.builtin "object.__class__"))) &&
  (decide (PySem.W.specialIn K (.builtin "object.__class__") "__get__" = some (some (.builtin "getset_descriptor.__get__"))) &&
  (decide (PySem.W.takesIn K (.builtin "object.__class__") = some true) &&
  (decide (PySem.W.mroIn K (He.ga K y) (.type "object") = some true) &&
  (cs.all (fun c => decide (PySem.W.kitOne K (.ref (He.ga K y)) (.ref (He.ga K c)) = some (relE y c))) &&
  (decide (PySem.W.kitOne K (.ref (He.ga K y)) (.type "ValueError") = some true) &&
  decide (PySem.W.exmOne K (.ref (He.ga K y)) (.ref (He.ga K "LaterError")) = some true))))))))))
theorem and2 {a b : Bool} (h : (a && b) = true) : a = true ∧ b = true := by
  cases a <;> cases b <;> first | exact ⟨rfl, rfl⟩ | cases h
theorem errs_ok {cs : List Str} {K : PySem.W.Frag} (h : errsB cs K = true) : Errs K cs := by
  have g : ∀ y ∈ cs, _ := fun y hy => List.all_eq_true.mp h y hy
  refine ⟨fun y hy => ?_, fun y hy c hc => ?_, fun y hy => ?_, fun y hy => ?_⟩
  all_goals
    obtain ⟨c1, r⟩ := and2 (g y hy)
    obtain ⟨c2, r⟩ := and2 r
    obtain ⟨c3, r⟩ := and2 r
    obtain ⟨c4, r⟩ := and2 r
    obtain ⟨c5, r⟩ := and2 r
    obtain ⟨c6, r⟩ := and2 r
    obtain ⟨c7, r⟩ := and2 r
    obtain ⟨c8, r⟩ := and2 r
    obtain ⟨c9, r⟩ := and2 r
    obtain ⟨c10, c11⟩ := and2 r
  · exact ⟨of_decide_eq_true c1, of_decide_eq_true c2, of_decide_eq_true c3, c4, of_decide_eq_true c5, of_decide_eq_true c6, of_decide_eq_true c7, of_decide_eq_true c8⟩
  · exact of_decide_eq_true (List.all_eq_true.mp c9 c hc)
  · exact of_decide_eq_true c10
  · exact of_decide_eq_true c11

/-! ### isinstance of an error -/
def dIsX (cs : List Str) (c : Str) (t : DE) : DE where
  run δ M Q := t.run δ M fun d M1 => match d with
    | .ref p => ∃ y, M1 p = some (.exc y) ∧ y ∈ cs ∧ Q (.bl (relE y c)) M1
    | _ => False
  mono h k := t.mono h fun d M1 q => by
    revert q; split <;> intro q
    · obtain ⟨y, h1, h2, h3⟩ := q; exact ⟨y, h1, h2, k _ _ h3⟩
    · exact q
def dIsXV (cs : List Str) (t : DE) : DE where
  run δ M Q := t.run δ M fun d M1 => match d with
    | .ref p => ∃ y, M1 p = some (.exc y) ∧ y ∈ cs ∧ Q (.bl true) M1
    | _ => False
  mono h k := t.mono h fun d M1 q => by
    revert q; split <;> intro q
    · obtain ⟨y, h1, h2, h3⟩ := q; exact ⟨y, h1, h2, k _ _ h3⟩
    · exact q
def rIsR (K : PySem.W.Frag) : List V → Hp → VK → Prop := fun xs H Q => ∃ (a : Addr) (y : Str) (c : V) (cv : Value) (b : Bool), xs = [.ref a, c] ∧ (∀ u, RelV c u → u = cv) ∧ IsExc K H a y ∧ L2.ExcC K (He.ga K y) ∧ PySem.W.kitOne K (.ref (He.ga K y)) cv = some b ∧ Q (.bl b) H
section
variable {X : Cx}
theorem isExc_at {pins : List (Addr × Obj)} {σ : L2.St} {H : Hp} {s : Shared} (I : Inv X pins σ H s) {a : Addr} {y : Str} (h : IsExc X.K H a y) : ∃ oe, PySem.W.InstAt s.heap a oe (He.ga X.K y) none := by
  have fin : ∀ (oe : Obj) (vs : Array Value), s.heap.get? a = some oe → Zc (.ref (He.ga X.K y)) none oe → oe.data = .fields vs → ∃ oe, PySem.W.InstAt s.heap a oe (He.ga X.K y) none := by
    intro oe vs h1 h2 h3
    obtain ⟨c, d, dt, sl⟩ := oe
    obtain ⟨z1, z2⟩ := h2
    dsimp only at z1 z2 h3
    subst z1 z2 h3
    exact ⟨_, h1, rfl, rfl, trivial⟩
  rcases h with h | h
  · obtain ⟨⟨oe, vs, h1, h2, h3, _⟩, _⟩ := I.hok a _ h
    exact fin oe vs h1 h2 h3
  · obtain ⟨⟨oe, vs, h1, h2, h3⟩, _⟩ := I.hok a _ h
    exact fin oe vs h1 h2 h3
theorem call_isR : CallR X (.builtin "isinstance") (rIsR X.K) := by
  intro pins s σ H xs us Q I r h
  obtain ⟨a, y, c, cv, b, rfl, hcv, ie, C, e, q⟩ := h
  obtain ⟨u1, rest, rfl, r1, r2⟩ : ∃ u1 rest, us = u1 :: rest ∧ RelV (.ref a) u1 ∧ L2.Vals [c] rest := by
    cases r with | cons r1 r2 => exact ⟨_, _, rfl, r1, r2⟩
  obtain ⟨u2, rfl, r3⟩ := vals1 r2
  cases r1
  cases hcv _ r3
  obtain ⟨oe, J⟩ := isExc_at I ie
  exact PySem.W.kia_one (PySem.W.handS_kitx_exc C.hg C.hk C.hs C.hd C.ha C.hn C.ht C.hm) I.kIn J e (fun z => nomatch z) fun tk => ⟨.bl b, H, I.kept (t' := tk) fun _ _ z => z, rfl, q⟩
variable {a : Expr} {t : DE} {p p2 pos : Pos} {c : Str} {cs : List Str}
theorem qe_isX (E : Errs X.K cs) (hc : c ∈ cs) (hm3 : X.mg c = some (.ref (He.ga X.K c))) (ha : QE X a t) (hg : Gl X "isinstance") (hm : X.mg "isinstance" = none) (hg2 : Gl X c) (hv : bootBuiltins "isinstance" = some (.builtin "isinstance")) (hdb : (c == ("__debug__" : Str)) = false := by decide)
    (hs1 : starEach [a, .Name c p2] X.env = (false, eval a X.env) :: starEach [.Name c p2] X.env := by rfl) (hs2 : starEach [.Name c p2] X.env = (false, eval (.Name c p2) X.env) :: starEach [] X.env := by rfl) (hpl : (backTo pos (starEach [.Name c p2] X.env)).any (·.1) = false := by rfl) :
    QE X (.Call (.Name "isinstance" p) [a, .Name c p2] [] pos) (dIsX cs c t) := by
  have hb : PE X (.Name c p2) (tC (.ref (He.ga X.K c))) := pe_glob hg2 hm3 rfl hdb
  refine PE.imp (pe_callB call_isR hg hm hv (pa_cons ha (pa_cons hb pa_nil hs2) hs1) (by decide) (by decide) hs1 hpl) fun σ H Q q => ?_
  obtain ⟨δ, M, s, m, q⟩ := q
  refine lE_step s m q fun d M1 v H1 x1 m1 d1 q1 => ?_
  revert q1; split <;> intro q1
  · obtain ⟨y, h1, h2, h3⟩ := q1
    rw [den] at d1
    subst d1
    exact ⟨_, y, _, _, relE y c, rfl, fun u r => by cases r; rfl, m1 _ _ h1, E.inst y h2, E.rel y h2 c hc, h3 _ _ x1 m1 dbl⟩
  · exact q1.elim
theorem qe_isXV (E : Errs X.K cs) (ha : QE X a t) (hg : Gl X "isinstance") (hm : X.mg "isinstance" = none) (hg2 : Gl X "ValueError") (hm2 : X.mg "ValueError" = none) (hv : bootBuiltins "isinstance" = some (.builtin "isinstance")) (hv2 : bootBuiltins "ValueError" = some (.type "ValueError"))
    (hs1 : starEach [a, .Name "ValueError" p2] X.env = (false, eval a X.env) :: starEach [.Name "ValueError" p2] X.env := by rfl) (hs2 : starEach [.Name "ValueError" p2] X.env = (false, eval (.Name "ValueError" p2) X.env) :: starEach [] X.env := by rfl) (hpl : (backTo pos (starEach [.Name "ValueError" p2] X.env)).any (·.1) = false := by rfl) :
    QE X (.Call (.Name "isinstance" p) [a, .Name "ValueError" p2] [] pos) (dIsXV cs t) := by
  have hb : PE X (.Name "ValueError" p2) (tC (.ty "ValueError")) := pe_bltn hg2 hm2 hv2 rfl (by decide) (by decide)
  refine PE.imp (pe_callB call_isR hg hm hv (pa_cons ha (pa_cons hb pa_nil hs2) hs1) (by decide) (by decide) hs1 hpl) fun σ H Q q => ?_
  obtain ⟨δ, M, s, m, q⟩ := q
  refine lE_step s m q fun d M1 v H1 x1 m1 d1 q1 => ?_
  revert q1; split <;> intro q1
  · obtain ⟨y, h1, h2, h3⟩ := q1
    rw [den] at d1
    subst d1
    exact ⟨_, y, _, _, true, rfl, fun u r => by cases r; rfl, m1 _ _ h1, E.inst y h2, E.relV y h2, h3 _ _ x1 m1 dbl⟩
  · exact q1.elim
end

/-! ### an error made -/
def dNew (x : Str) (t : DE) : DE where
  run δ M Q := t.run δ M fun _ M1 => ∀ a, M1 a = none → Q (.ref a) (put M1 a (.exc x))
  mono h k := t.mono h fun d M1 q a ha => k _ _ (q a ha)
structure ErrG (K : PySem.W.Frag) (mg : Str → Option Value) (x : Str) : Prop where
  g : mg x = some (.ref (He.ga K x))
  e : PySem.W.excIn K (He.ga K x) He.veBase "ValueError.__new__" = true ∧ PySem.W.keepIn K (.ref (He.ga K x)) = true ∧ PySem.W.subIn K (.ref (He.ga K x)) (.type "BaseException") = some true ∧ PySem.W.typeIn K (.ref (He.ga K x)) = some (.type "type")
theorem ErrG.c {K : PySem.W.Frag} {mg : Str → Option Value} {x : Str} (h : ErrG K mg x) : ErrC K mg x := ⟨_, h.g, h.e⟩
section
variable {X : Cx} {x : Str} {e : Expr} {t : DE} {p pos : Pos}
theorem qe_new (G : ErrG X.K X.mg x) (hg : Gl X x) (he : QE X e t) (hs : starEach [e] X.env = (false, eval e X.env) :: starEach [] X.env := by rfl) (hdb : (x == ("__debug__" : Str)) = false := by decide) : QE X (.Call (.Name x p) [e] [] pos) (dNew x t) := by
  refine PE.imp (pe_exc1 PySem.F.excBase_ValueError G.e.1 G.g G.e.2.1 hg he hs hdb) fun σ H Q q => ?_
  obtain ⟨δ, M, s, m, q⟩ := q
  refine lE_step s m q fun d M1 v H1 x1 m1 d1 q1 a ha => ?_
  have x2 : Ext H1 (upd H1 a (ExO (.ref (He.ga X.K x)) a)) := .new ha
  exact q1 a (m1.free ha) _ _ (x1.trans x2) (m1.new ha (.inl upd_same)) dref
end

/-! ### a call whose errors are told with the slots -/
def lCallS (K : PySem.W.Frag) (mg : Str → Option Value) (sp : DSp) (t : DA) (W : WX) : TE := fun σ H Q => ∃ δ M, SRel K H σ δ ∧ MRel K H M ∧ t.run δ M fun ds M1 =>
  ∃ (Q0 : D → DM → Prop) (X0 : XD), (∀ d M', Q0 d M' → lQ K H Q d M') ∧ (∀ y M' C H', X0 y M' → mg y = some (.ref C) → Ext H H' → MRel K H' M' → W (.ref C) none σ H') ∧ GhV ds M1 fun ds' M2 => sp ds' M2 Q0 X0
section
variable {X : Cx} {x : Str} {p pos : Pos} {e : Expr} {es : List Expr} {t : DA} {k : Nat} {ps : List Str} {sp : DSp} {W : WX}
theorem pe_callW (G : Good gb X.prog X.w X.K X.mg X.base x k ps sp) (hr : Rm gb k X.A) (tk : Takes X W) (hg : Gl X x) (ha : QA X (e :: es) t) (hi : t.Is ps.length) (hn : (e :: es).length = ps.length := by rfl)
    (hdb : (x == ("__debug__" : Str)) = false := by decide) (he : starEach (e :: es) X.env = (false, eval e X.env) :: starEach es X.env := by rfl) (hpl : (backTo pos (starEach es X.env)).any (·.1) = false := by rfl) :
    PE X (.Call (.Name x p) (e :: es) [] pos) (lCallS X.K X.mg sp t W) := by
  obtain ⟨f, fd, hm, hk, hb, F⟩ := G.ex
  refine ⟨fun pins s σ H Q I h => ?_⟩
  obtain ⟨δ, M, sr, m, q⟩ := h
  refine wpAny_Call_Name_kw (ld_glob I hg hm ?_ hdb)
  have q2 : lA X.K t σ H fun vs H1 => vs.length = ps.length ∧ ∃ ds M1, Ext H H1 ∧ dens X.K H1 vs ds ∧ MRel X.K H1 M1 ∧ ∃ (Q0 : D → DM → Prop) (X0 : XD), (∀ d M', Q0 d M' → lQ X.K H Q d M') ∧ (∀ y M' C H', X0 y M' → X.mg y = some (.ref C) → Ext H H' → MRel X.K H' M' → W (.ref C) none σ H') ∧ GhV ds M1 fun ds' M2 => sp ds' M2 Q0 X0 :=
    lA_step sr m (hi.is q) fun ds M1 vs H1 x1 m1 d1 q1 => ⟨by rw [dens_length d1]; exact q1.1, ds, M1, x1, d1, m1, q1.2⟩
  refine PySem.W.callWith_K (h₀ := X.base) I.ok.mod.kin hk (thn (ha.run pos pins s σ H _ I q2) fun us s1 ⟨vs, H1, I1, r, hv, ds, M1, x1, d1, m1, Q0, X0, h1, h2, ds', M', imp, q⟩ => ⟨I1.kIn, ?_⟩) he hpl
  obtain ⟨H', fz, d', m'⟩ := imp X.prog X.w X.K H1 s1.heap vs I1.hok d1 m1
  have I' := fz.inv I1
  have hsp : lSp X.K X.mg ps.length sp vs H' Q (WE W σ) := ⟨hv, ds', M', d', m', Q0, X0, fun d M2 q2 v H2 x2 => h1 d M2 q2 v H2 ((x1.trans fz.ext).trans x2), fun y M2 q2 C H2 e x2 m2 => h2 y M2 C H2 q2 e ((x1.trans fz.ext).trans x2) m2, q⟩
  have hl : (us ++ ([] : List Value)).length = ps.length := by rw [List.append_nil, ← r.length]; exact hv
  have hbind := hb s1 us I'.kIn hl
  rw [List.append_nil] at hbind
  refine wpAny_call (codeAny_mono (F.run hr I'.env0 hbind r hsp) fun rs s' hq => ?_)
  cases rs with
  | error e => exact passAt tk σ pins H' s1 e s' I' hq
  | ok fl =>
    cases fl with
    | ret u => exact I'.after hq
    | next => exact False.elim hq
    | brk => exact False.elim hq
    | cont => exact False.elim hq
end

/-! ### an object that is new to the def, told from now on -/
theorem Inv.track {X : Cx} {pins : List (Addr × Obj)} {σ : L2.St} {H : Hp} {s : Shared} {a : Addr} {cls : Value} {oe : Obj} {vs : Array Value} (I : Inv X pins σ H s) (he : s.heap.get? a = some oe) (hz : Zc cls none oe) (hd : oe.data = .fields vs) (na : H a = none)
    (nL : a ≠ X.env.locals) (hnew : X.s_0.heap.get? a = none) (np : ∀ p ∈ X.pn ++ pins, p.1 ≠ a) : Inv X pins σ (upd H a (ExI cls a)) s := by
  have up : ∀ b o, H b = some o → upd H a (ExI cls a) b = some o := fun b o e => by rw [upd_ne (fun z => by rw [z, na] at e; cases e)]; exact e
  have ne : ∀ b o, X.s_0.heap.get? b = some o → b ≠ a := fun b o e z => by rw [z, hnew] at e; cases e
  refine ⟨I.ok, I.os, I.bare, ⟨I.base.keep, I.base.slot, fun b o e n hx => ?_, I.base.there, fun b xs e => up _ _ (I.base.tups b xs e), fun b o u e => up _ _ (I.base.frzs b o u e), fun b ps e => ?_⟩, I.loc, I.cell, ?_, fun x c e => ?_, fun p hp => ?_, fun b o e => ?_, I.len⟩
  · rw [upd_ne (ne b o e)]; exact I.base.free b o e n hx
  · obtain ⟨more, q⟩ := I.base.tbls b ps e
    exact ⟨more, up _ _ q⟩
  · rw [upd_ne (Ne.symm nL)]; exact I.free
  · rw [upd_ne ?_]
    · exact I.freeC x c e
    · intro z
      obtain ⟨v, o, h1, h2⟩ := I.cell x c e
      rw [z, he] at h1
      cases h1
      rw [hd] at h2
      cases h2
  · obtain ⟨h1, h2, h3, h4, h5⟩ := I.pin p hp
    exact ⟨h1, by rw [upd_ne (np p hp)]; exact h2, h3, h4, h5⟩
  · by_cases hb : b = a
    · subst hb
      rw [upd_same] at e
      cases e
      exact ⟨⟨oe, vs, he, hz, hd⟩, ⟨oe, he⟩, fun h1 h2 ⟨o, v, k1, k2, k3⟩ st => ⟨o, v, st _ k1, k2, k3⟩⟩
    · rw [upd_ne hb] at e
      exact (I.hok b o e).stay (fun _ _ _ q => q) (fun c q => up _ _ q) fun c xs q => up _ _ q
theorem bb_ValueError : bootBuiltins "ValueError" = some (.type "ValueError") := by decide +kernel
end LD

/-! LE2: try: f(..) except LaterError as n: m = n; list comprehensions -/
namespace LD
open PySem PySem.Spec PyProof.Rows L2

def dTryAs (cs : List Str) (sp : DSp) (t : DA) (i j : Nat) : DS where
  run E δ M := t.run δ M fun ds M1 => ∃ (Q0 : D → DM → Prop) (X0 : XD), (∀ d M', Q0 d M' → E.nx δ M') ∧
    (∀ y M', X0 y M' → y ∈ cs ∧ ∀ a, M' a = none → E.nx ((δ.set j (some (.ref a))).set i none) (put M' a (.exc y))) ∧ GhV ds M1 fun ds' M2 => sp ds' M2 Q0 X0
  mono h k := t.mono h fun ds M1 ⟨Q0, X0, h1, h2, h3⟩ => ⟨Q0, X0, fun d M' q => k.nx _ _ (h1 d M' q), fun y M' q => ⟨(h2 y M' q).1, fun a ha => k.nx _ _ ((h2 y M' q).2 a ha)⟩, h3⟩

section
variable {X : Cx} {f n m : Str} {pf pc pe np pm pn2 pa pos' pos : Pos} {ex e : Expr} {es : List Expr} {t : DA} {k i j : Nat} {ps : List Str} {sp : DSp} {cs : List Str}
/-- what such a try wishes of an error of its body -/
def wTry (X : Cx) (cs : List Str) (i j : Nat) (D : Ends) (H0 : Hp) : WX := fun cls d σ H => d = none ∧ ∃ y M' δ', cls = .ref (He.ga X.K y) ∧ y ∈ cs ∧ (σ.length = X.N.length → SRel X.K H σ δ') ∧ δ'.length = X.N.length ∧ Ext H0 H ∧ MRel X.K H M' ∧
  ∀ a, M' a = none → (lEnds X.K H D).nx ((δ'.set j (some (.ref a))).set i none) (put M' a (.exc y))
theorem ps_tryK {te : WX → TE} (E : Errs X.K cs) (hstk : X.stack = X.env :: X.outer) (hfr : X.env.frame = some X.env.locals) (hex : X.ex = []) (hN : X.N.Nodup) (hi : X.N[i]? = some n) (hij : i ≠ j)
    (kn : X.env.kindOf n = some .local) (gL : X.mg "LaterError" = some (.ref (He.ga X.K "LaterError"))) (hgl : Gl X "LaterError")
    (hbody : ∀ (W : WX) (pn : List (Addr × Obj)) (xe : Value → Shared → Prop), Takes (X.tr pn xe) W → PE (X.tr pn xe) ex (te W))
    (hsu : ∀ (a : Addr) (pn : List (Addr × Obj)), QSs (X.suite a pn) [.Assign [.Name m pm] (.Name n pn2) pa] (dEnd (dSet j (dVar i))))
    (hsw : swapsWith ex none pe.line X.env = pure false) :
    PS X (.Try [.Expr ex pe] [.ExceptHandler (some (.Name "LaterError" np)) (some n) [.Assign [.Name m pm] (.Name n pn2) pa] pos'] [] [] pos) (fun D σ H => te (wTry X cs i j D H) σ H fun _ H' => D.nx σ H') := by
  refine ⟨fun pins s σ H D I h => ?_⟩
  have ok := I.ok
  have frA : X.A.frames = some (X.env :: X.outer) := by rw [ok.frames, hstk]
  have locn : Loc X.env.scope n := .inl kn
  refine wpAny_Try_except ?_
  have body : ∀ (pn : List (Addr × Obj)) (xe : Value → Shared → Prop), Takes (X.tr pn xe) (wTry X cs i j D H) → PSs (X.tr pn xe) [.Expr ex pe] (tDrop (te (wTry X cs i j D H))) :=
    fun pn xe tk => pss_one (ps_expr (hbody _ pn xe tk) hsw)
  refine wpAny_mono ((body (X.pn ++ pins) _ (fun u sE xx => ?_)).run [] s σ H D (I.toTry _) h) (fun fl s1 hsp => ?_) (fun u s1 hu => hu)
  · -- an error comes out of the body
    obtain ⟨a, B, sI, pq, σE, HE, cls, d, rfl, JE, nb, up, sky, na, os, ag, rfl, y, M', δ, rfl, hy, srE, dl, xE, mE, go⟩ := xx
    have J : Inv X pins σE HE sI := JE.ofTry ok
    have skyX : Sky B (X.env :: X.outer) a (Zc (.ref (He.ga X.K y)) none) X.env.locals sE.heap := by rw [← hstk]; exact sky
    show wpAny (model X.prog X.w) X.A (noteFrame (.ref a) X.env) _ _ _
    refine Sky.land Zc.steady frA hfr skyX fun hA flA upA => ?_
    have JA : Inv X pins σE HE { sE with heap := hA } := J.landed nb flA.1 (up.trans upA) os ag
    obtain ⟨oA, vA, eA, zA, dA⟩ := flA.there
    have notFrame : a ∉ frs (X.env :: X.outer) := fun hm => by
      obtain ⟨_, ob, eb, hnf⟩ := flA.2.2.1.mem hm
      rw [eA] at eb
      cases eb
      exact hnf _ dA
    have offLocals : a ≠ X.env.locals := fun z => notFrame (List.mem_filterMap.mpr ⟨X.env, List.mem_cons_self, by rw [hfr, z]⟩)
    have offFrames : a ∉ X.fs := fun hm => by
      obtain ⟨v, hv, z⟩ := List.mem_filterMap.mp hm
      exact notFrame (List.mem_filterMap.mpr ⟨v, List.mem_cons_of_mem _ hv, z⟩)
    have ground : B.get? a = none := flA.2.1
    -- it is new to the def, and no pinned object
    have fresh : X.s_0.heap.get? a = none := by
      cases z : X.s_0.heap.get? a with
      | none => rfl
      | some ob =>
        obtain ⟨ob2, z2⟩ := J.base.there a ob z (by rw [hex]; exact List.not_mem_nil)
        have z3 := nb a ob2 z2 (by rw [hstk]; exact notFrame)
        rw [ground] at z3
        cases z3
    have offPins : ∀ p ∈ X.pn ++ pins, p.1 ≠ a := fun p hp z => by
      obtain ⟨g1, g2, g3, g4, _⟩ := J.pin p hp
      have notF : p.1 ∉ frs (X.tr (X.pn ++ pins) (fun _ _ => True)).stack := by
        show p.1 ∉ frs X.stack
        rw [hstk]
        intro hm
        obtain ⟨v, hv, z⟩ := List.mem_filterMap.mp hm
        rcases List.mem_cons.mp hv with ev | hv
        · rw [ev, hfr] at z
          exact g3 (Option.some.inj z).symm
        · exact g4 (List.mem_filterMap.mpr ⟨v, hv, z⟩)
      have z3 := nb p.1 _ g1 notF
      rw [z, ground] at z3
      cases z3
    have SA := JA.suite eA dA na offLocals offFrames
    refine wpAny_handleBy_cons (codeAny_handlers_test ?_) (by intro z; cases z)
    have typ : PySem.W.Looks (model X.prog X.w) hA (typeOf (.ref a)) (.ref (He.ga X.K y)) := fun _ _ _ _ kp z => wpAny_typeOf_ref (kp _ _ eA) (by rw [zA.1]; exact z)
    refine ld_glob (X := X.suite a ((a, oA) :: (X.pn ++ pins))) SA hgl gL ?_ (by decide)
    refine (PySem.W.exm_one (M := model X.prog X.w) JA.kIn typ (E.exm y hy)).here ?_
    refine codeAny_handlers_suite_as ?_
    refine HandSPX.lands_againZ flA fun hB flB upB => ?_
    have JB : Inv X pins σE HE { sE with heap := hB } := J.landed nb flB.1 ((up.trans upA).trans upB) os ag
    obtain ⟨oB, vB, eB, zB, dB⟩ := flB.there
    have SB := JB.suite eB dB na offLocals offFrames
    refine store_ok (X := X.suite a ((a, oB) :: (X.pn ++ pins))) (v := .ref a) SB hN hi locn rfl (fun sC SC => ?_) (.inr kn)
    have mA : M' a = none := mE.free na
    have st : SRel X.K HE (σE.set i (some (.ref a))) (δ.set i (some (.ref a))) := (srE JE.len).set dref i
    refine wpAny_mono ((hsu a ((a, oB) :: (X.pn ++ pins))).run [] sC _ HE { nx := fun σ6 H6 => Ext HE H6 ∧ SRel X.K H6 σ6 ((δ.set i (some (.ref a))).set j (some (.ref a))) ∧ MRel X.K H6 M', rt := fun _ _ => False } SC ⟨δ.set i (some (.ref a)), M', st, mE, ?_⟩) (fun fl s6 hsp => ?_) (fun _ _ z => False.elim z)
    · show (dVar i).run _ _ _
      have hlt : i < δ.length := by rw [dl]; exact (List.getElem?_eq_some_iff.mp hi).1
      dsimp only [dVar]
      rw [List.getElem?_set_self hlt]
      exact .here fun σ6 H6 x6 s6 m6 => ⟨x6, s6, m6⟩
    cases fl with
    | ret u => obtain ⟨v, σ6, H6, S6, r6, q6⟩ := hsp; exact q6.elim
    | brk => obtain ⟨σ6, H6, S6, q6⟩ := hsp; exact q6.elim
    | cont => obtain ⟨σ6, H6, S6, q6⟩ := hsp; exact q6.elim
    | next =>
      obtain ⟨σ6, H6, S6, x6, s6r, m6⟩ := hsp
      have P6 : Inv X ((a, oB) :: pins) σ6 H6 s6 := ⟨ok, S6.os, S6.bare, S6.base, S6.loc, S6.cell, S6.free, S6.freeC, fun p hp => S6.pin p (by
        rcases List.mem_append.mp hp with hp | hp
        · exact List.mem_append_left _ (List.mem_cons_of_mem _ (List.mem_append_left _ hp))
        · rcases List.mem_cons.mp hp with rfl | hp
          · exact List.mem_append_left _ List.mem_cons_self
          · exact List.mem_append_left _ (List.mem_cons_of_mem _ (List.mem_append_right _ hp))), S6.hok, S6.len⟩
      refine gone_ok P6 hN hi kn fun s7 P7 => ?_
      obtain ⟨g1, g2, g3, _, _⟩ := P7.pin (a, oB) (List.mem_append_right _ List.mem_cons_self)
      have I7 : Inv X pins (σ6.set i none) H6 s7 := ⟨ok, P7.os, P7.bare, P7.base, P7.loc, P7.cell, P7.free, P7.freeC, fun p hp => P7.pin p (by
        rcases List.mem_append.mp hp with hp | hp
        · exact List.mem_append_left _ hp
        · exact List.mem_append_right _ (List.mem_cons_of_mem _ hp)), P7.hok, P7.len⟩
      have T7 := Inv.track I7 g1 zB dB g2 g3 fresh offPins
      have xN : Ext H6 (upd H6 a (ExI (.ref (He.ga X.K y)) a)) := .new g2
      refine ⟨_, _, T7, go a mA _ _ (x6.trans xN) ?_ (m6.new g2 (.inr upd_same))⟩
      have z := (s6r.ext xN).setN i
      rw [List.set_comm _ _ hij, List.set_set] at z
      exact z
  · cases fl with
    | next =>
      obtain ⟨σ', H', J', q⟩ := hsp
      exact wpAny_execs_nil ⟨σ', H', J'.ofTry ok, q⟩
    | ret u => obtain ⟨v, σ', H', J', r, q⟩ := hsp; exact ⟨v, σ', H', J'.ofTry ok, r, q⟩
    | brk => obtain ⟨σ', H', J', q⟩ := hsp; exact ⟨σ', H', J'.ofTry ok, q⟩
    | cont => obtain ⟨σ', H', J', q⟩ := hsp; exact ⟨σ', H', J'.ofTry ok, q⟩
theorem qs_try (E : Errs X.K cs) (hstk : X.stack = X.env :: X.outer) (hfr : X.env.frame = some X.env.locals) (hex : X.ex = []) (hN : X.N.Nodup) (hi : X.N[i]? = some n) (hj : X.N[j]? = some m) (hij : i ≠ j)
    (kn : X.env.kindOf n = some .local) (km : X.env.kindOf m = some .local) (gL : X.mg "LaterError" = some (.ref (He.ga X.K "LaterError"))) (hgl : Gl X "LaterError") (gy : ∀ y ∈ cs, X.mg y = some (.ref (He.ga X.K y)))
    (G : Good gb X.prog X.w X.K X.mg X.base f k ps sp) (hr : Rm gb k X.A) (hg : Gl X f) (hi2 : t.Is ps.length)
    (ha : ∀ (pn : List (Addr × Obj)) (xe : Value → Shared → Prop), QA (X.tr pn xe) (e :: es) t)
    (hsu : ∀ (a : Addr) (pn : List (Addr × Obj)), QSs (X.suite a pn) [.Assign [.Name m pm] (.Name n pn2) pa] (dEnd (dSet j (dVar i))))
    (hn : (e :: es).length = ps.length := by rfl)
    (hdb : (f == ("__debug__" : Str)) = false := by decide) (he : starEach (e :: es) X.env = (false, eval e X.env) :: starEach es X.env := by rfl) (hpl : (backTo pc (starEach es X.env)).any (·.1) = false := by rfl)
    (hsw : swapsWith (.Call (.Name f pf) (e :: es) [] pc) none pe.line X.env = pure false := by rfl) :
    QS X (.Try [.Expr (.Call (.Name f pf) (e :: es) [] pc) pe] [.ExceptHandler (some (.Name "LaterError" np)) (some n) [.Assign [.Name m pm] (.Name n pn2) pa] pos'] [] [] pos) (dTryAs cs sp t i j) := by
  refine ⟨fun pins s σ H D I h => ?_⟩
  obtain ⟨δ, M, sr, mr, q⟩ := h
  refine (ps_tryK (te := lCallS X.K X.mg sp t) E hstk hfr hex hN hi hij kn gL hgl (fun W pn xe tk => pe_callW (X := X.tr pn xe) G hr tk hg (ha pn xe) hi2 hn hdb he hpl) hsu hsw).run pins s σ H D I ?_
  refine ⟨δ, M, sr, mr, t.mono q fun ds M1 ⟨Q0, X0, h1, h2, h3⟩ => ⟨Q0, X0, fun d M' q0 v H' x' m' _ => h1 d M' q0 σ H' x' (sr.ext x') m', fun y M' C H' q0 gC x' m' => ?_, h3⟩⟩
  obtain ⟨hy, go⟩ := h2 y M' q0
  have eC : C = He.ga X.K y := by
    have z := gC.symm.trans (gy y hy)
    cases z
    rfl
  subst eC
  exact ⟨rfl, y, M', δ, rfl, hy, fun _ => sr.ext x', sr.len.symm.trans I.len, x', m', fun a ha => (lEnds_ext x').nx _ _ (go a ha)⟩
end

/-! ### [e for x in ..] -/
def lcRun (t : DE) (i : Nat) (δ : DSt) (A : Addr) (Q : D → DM → Prop) (chk : DM → Prop) : List D → DM → Prop
  | [], M => chk M ∧ Q (.ref A) M
  | x :: xs, M => chk M ∧ t.run (δ.set i (some x)) M fun y M1 => ∃ acc, M1 A = some (.lst acc) ∧ acc.length < sizeLine ∧ lcRun t i δ A Q chk xs (put M1 A (.lst (acc ++ [y])))
theorem lcRun_mono {t : DE} {i : Nat} {δ : DSt} {A : Addr} {Q Q' : D → DM → Prop} {chk : DM → Prop} (k : ∀ d M, Q d M → Q' d M) : ∀ (xs : List D) (M : DM), lcRun t i δ A Q chk xs M → lcRun t i δ A Q' chk xs M
  | [], _, h => ⟨h.1, k _ _ h.2⟩
  | _ :: xs, _, h => ⟨h.1, t.mono h.2 fun y M1 ⟨acc, h1, h2, h3⟩ => ⟨acc, h1, h2, lcRun_mono k xs _ h3⟩⟩
def dLc (w : DI) (i : Nat) (t : DE) : DE where
  run δ M Q := w.run δ M fun items chk M1 => ∀ A, M1 A = none → lcRun t i (δ.set i none) A Q chk items (put M1 A (.lst []))
  mono h k := w.mono h fun items chk M1 q A hA => lcRun_mono k items _ (q A hA)
theorem lLc {K : PySem.W.Frag} {w : DI} {t : DE} {i : Nat} {σ : L2.St} {H : Hp} {Q : VK} (q : lE K (dLc w i t) σ H Q) : tLc (lI K w) (gName i) tYes (lE K t) [i] σ H Q := by
  obtain ⟨δ, M, s, m, q⟩ := q
  refine ⟨δ, M, s, m, w.mono q fun items chk M1 q1 J H1 x1 m1 ok A hA => ?_⟩
  have q1 := q1 A (m1.free hA)
  have xA : Ext H1 (upd H1 A (.lst [])) := .new hA
  refine ⟨fun k n H' => n = items.length - k ∧ k ≤ items.length ∧ ∃ M', Ext H1 H' ∧ MRel K H' M' ∧ lcRun t i (δ.set i none) A (lQ K H Q) chk (items.drop k) M', ⟨items.length, by simp, Nat.zero_le _, _, xA, m1.new (u := .lst []) hA ⟨[], upd_same, dens_nil⟩, q1⟩, ?_⟩
  rintro k n H2 ⟨rfl, hk, M2, x2, m2, q2⟩
  by_cases hlt : k < items.length
  · rw [List.drop_eq_getElem_cons hlt] at q2
    obtain ⟨hchk, q2⟩ := q2
    refine .inr ⟨ok.go k H2 M2 x2 m2 hchk hlt, fun H' => ∃ M', Ext H1 H' ∧ MRel K H' M' ∧ lcRun t i (δ.set i none) A (lQ K H Q) chk (items.drop (k + 1)) M', fun H' ⟨M', a⟩ => ⟨items.length - (k + 1), by omega, rfl, hlt, M', a⟩, fun y H3 hy => ?_⟩
    obtain ⟨x3, mk, hd⟩ := ok.yld k H2 M2 y H3 x2 m2 hchk hy
    have dn := hd items[k] (List.getElem?_eq_getElem hlt)
    have y3 := x2.trans x3
    have sr : SRel K H3 ((wipe σ [i]).set i (some y)) ((δ.set i none).set i (some items[k])) := ((s.ext (x1.trans y3)).setN i).set dn i
    refine ⟨by show ((wipe σ [i]).set i (some y)).set i none = (σ.set i none); show ((σ.set i none).set i (some y)).set i none = _; rw [List.set_set, List.set_set], ?_⟩
    unfold tYes
    dsimp only
    rw [if_pos rfl]
    refine lE_step sr (mk M2 m2) q2 fun d M4 v H4 x4 m4 d4 q4 => ?_
    obtain ⟨acc, h1, h2, h3⟩ := q4
    obtain ⟨vs, h4, h5⟩ := m4 A _ h1
    have xp : Ext H4 (upd H4 A (.lst (vs ++ [v]))) := .put h4 trivial
    exact ⟨vs, h4, by rw [dens_length h5]; exact h2, _, (y3.trans x4).trans xp, m4.put (u := .lst (acc ++ [d])) h4 trivial ⟨_, upd_same, dens_append (dens_ext xp _ _ h5) (dens_cons (den_ext xp _ _ d4) dens_nil)⟩, h3⟩
  · have e : k = items.length := by omega
    subst e
    rw [List.drop_length] at q2
    refine .inl ⟨ok.stop _ H2 M2 x2 m2 q2.1 (Nat.le_refl _), q2.2 _ H2 (x1.trans x2) m2 dref⟩
section
variable {X : Cx} {elt iter : Expr} {x : Str} {px pos : Pos} {scope : Scope} {w : DI} {t : DE} {i : Nat}
theorem qe_lc (hc : X.calm = true) (hN : X.N.Nodup) (hi : QI X (.Name x px) iter w) (ok : BlkOk X.N X.env.scope scope [(x, i)])
    (hg : ∀ (s : Shared) (H : Hp) (C : Addr) (cl : List (Str × Addr)) (fp : List Addr), PG (X.blk s H scope (compEnvC scope cl C X.env) fp) (.Name x px) (gName i))
    (he : ∀ (s : Shared) (H : Hp) (C : Addr) (cl : List (Str × Addr)) (fp : List Addr), QE (X.blk s H scope (compEnvC scope cl C X.env) fp) elt t) (hs : ∀ y, foldedSetIterable iter X.env y = pure y := by intro _; rfl) :
    QE X (.ListComp elt [⟨.Name x px, iter, [], 0⟩] scope pos) (dLc w i t) := by
  exact PE.imp (pe_lc (te := lE X.K t) hc hN hi ok hg (fun _ _ _ _ _ => pts_nil) he hs) fun _ _ _ q => lLc q
end
end LD

/-! LE3: k33 -/
namespace LD
open PySem PySem.Spec PyProof.Rows L2

def ecl : List Str := ["NoMachine", "NoPlain", "NoLetters", "NoRule", "NoRow", "NoWord", "NoNumber", "NoDivisor", "NoArena", "NoState", "NoMatch", "NoFactor", "NoWorth", "NoLetter", "NoUndo", "NoThings", "NoRunner", "NoLimit", "HasRow", "TooGreat"]
def cs33 : List Str := ["LaterError", "NoMachine", "NoPlain", "NoLetters", "NoRule", "NoRow", "NoWord", "NoNumber", "NoDivisor", "NoArena", "NoState", "NoMatch", "NoFactor", "NoWorth", "NoLetter", "NoUndo", "NoThings", "NoRunner", "NoLimit", "HasRow", "TooGreat"]
theorem ecl_in {y : Str} (h : y ∈ ecl) : y ∈ cs33 := List.mem_cons_of_mem _ h
/-- what the law's look says of an error of the class y -/
def eclOf (y : Str) : List D := ecl.map fun c => .bl (relE y c)
abbrev S_law_x_classes : DSp := fun ds M Q X => ∃ p y, ds = [.ref p] ∧ M p = some (.exc y) ∧ y ∈ cs33 ∧ ∀ q, M q = none → Q (.ref q) (put M q (.lst (eclOf y)))
abbrev S_law33 : DSp := fun ds M Q X => ∃ ns : List Int, ds = [.lst (ns.map D.int)] ∧ ns.length ≤ 63 ∧ ∀ M', Q (.bl true) M'

def b_law_x_classes (X : XD) : DS :=
  dSeq (dSet 1 (dLst (dCons (dIsX cs33 "NoMachine" (dVar 0)) (dCons (dIsX cs33 "NoPlain" (dVar 0)) (dCons (dIsX cs33 "NoLetters" (dVar 0)) (dCons (dIsX cs33 "NoRule" (dVar 0)) (dNil)))))))
  (dSeq (dSet 1 (dOp oAdd (dVar 1) (dLst (dCons (dIsX cs33 "NoRow" (dVar 0)) (dCons (dIsX cs33 "NoWord" (dVar 0)) (dCons (dIsX cs33 "NoNumber" (dVar 0)) (dNil)))))))
  (dSeq (dSet 1 (dOp oAdd (dVar 1) (dLst (dCons (dIsX cs33 "NoDivisor" (dVar 0)) (dCons (dIsX cs33 "NoArena" (dVar 0)) (dCons (dIsX cs33 "NoState" (dVar 0)) (dNil)))))))
  (dSeq (dSet 1 (dOp oAdd (dVar 1) (dLst (dCons (dIsX cs33 "NoMatch" (dVar 0)) (dCons (dIsX cs33 "NoFactor" (dVar 0)) (dCons (dIsX cs33 "NoWorth" (dVar 0)) (dNil)))))))
  (dSeq (dSet 1 (dOp oAdd (dVar 1) (dLst (dCons (dIsX cs33 "NoLetter" (dVar 0)) (dCons (dIsX cs33 "NoUndo" (dVar 0)) (dCons (dIsX cs33 "NoThings" (dVar 0)) (dNil)))))))
  (dSeq (dSet 1 (dOp oAdd (dVar 1) (dLst (dCons (dIsX cs33 "NoRunner" (dVar 0)) (dCons (dIsX cs33 "NoLimit" (dVar 0)) (dCons (dIsX cs33 "HasRow" (dVar 0)) (dNil)))))))
  (dEnd (dRet (dOp oAdd (dVar 1) (dLst (dCons (dIsX cs33 "TooGreat" (dVar 0)) (dNil)))))))))))
def b_law33 (X : XD) : DS :=
  dSeq (dSet 1 (dCall S_law_open (dCons (dVar 0) (dNil)) X))
  (dSeq (dFor (dItR1 (dC (.int 2))) (dName 2) (dSeq (dSet 3 (dCall S_law_x_pick (dCons (dVar 1) (dCons (dLst (dCons (dC (.str "")) (dCons (dC (.str "a")) (dCons (dC (.str "no row")) (dCons (dOp oMul (dC (.str "x")) (dCall S_law_take (dCons (dVar 1) (dCons (dC (.int 99)) (dNil))) X)) (dNil)))))) (dNil))) X))
  (dSeq (dSet 4 (dLst (dCons (dNew "NoMachine" (dVar 3)) (dCons (dNew "NoPlain" (dVar 3)) (dCons (dNew "NoLetters" (dVar 3)) (dCons (dNew "NoRule" (dVar 3)) (dCons (dNew "NoRow" (dVar 3)) (dCons (dNew "NoWord" (dVar 3)) (dNil)))))))))
  (dSeq (dSet 4 (dOp oAdd (dVar 4) (dLst (dCons (dNew "NoNumber" (dVar 3)) (dCons (dNew "NoDivisor" (dVar 3)) (dCons (dNew "NoArena" (dVar 3)) (dCons (dNew "NoState" (dVar 3)) (dCons (dNew "NoMatch" (dVar 3)) (dNil)))))))))
  (dSeq (dSet 4 (dOp oAdd (dVar 4) (dLst (dCons (dNew "NoFactor" (dVar 3)) (dCons (dNew "NoWorth" (dVar 3)) (dCons (dNew "NoLetter" (dVar 3)) (dCons (dNew "NoUndo" (dVar 3)) (dCons (dNew "NoThings" (dVar 3)) (dNil)))))))))
  (dSeq (dSet 4 (dOp oAdd (dVar 4) (dLst (dCons (dNew "NoRunner" (dVar 3)) (dCons (dNew "NoLimit" (dVar 3)) (dCons (dNew "HasRow" (dVar 3)) (dCons (dNew "TooGreat" (dVar 3)) (dNil))))))))
  (dSeq (dSet 5 (dC .non))
  (dSeq (dTryAs cs33 S_number_of (dCons (dC (.int 7)) (dCons (dUn oNeg (dCall S_law_take (dCons (dVar 1) (dCons (dC (.int 9)) (dNil))) xNo)) (dNil))) 6 5)
  (dSeq (dIfS (dOrT (dTB (dOp (oIsN false) (dVar 5) (dC .non))) (dTB (dOp oNe (dCall S_law_x_classes (dCons (dVar 5) (dNil)) X) (dLc (dItR1 (dC (.int 20))) 9 (dOp oEq (dVar 9) (dC (.int 7))))))) (dEnd (dRet (dC (.bl false)))) (dSNil))
  (dEnd (dFor (dItEnum (dVar 4)) (dGTup (dGCons (dName 7) (dGCons (dName 8) (dGNil)))) (dSeq (dIfS (dTB (dOp oNe (dCall S_law_x_classes (dCons (dVar 8) (dNil)) X) (dLc (dItR1 (dC (.int 20))) 9 (dOp oEq (dVar 9) (dVar 7))))) (dEnd (dRet (dC (.bl false)))) (dSNil))
  (dEnd (dIfS (dOrT (dNotT (dTB (dIsX cs33 "LaterError" (dVar 8)))) (dNotT (dTB (dIsXV cs33 (dVar 8))))) (dEnd (dRet (dC (.bl false)))) (dSNil)))))))))))))))
  (dEnd (dRet (dC (.bl true)))))

theorem put_keep {M : DM} {p q : Addr} {o u : MO} (h : M p = some o) (f : M q = none) : put M q u p = some o := by
  rw [put_ne (fun z => by rw [z, f] at h; cases h)]
  exact h
theorem Gh.gen {δ : DSt} {M : DM} {P : DSt → DM → Prop} (C : DM → Prop) (h : C M) (k : ∀ M1, C M1 → P δ M1) : Gh δ M P := .here (k M h)
def clF (y : Str) (l : List Str) : List D := l.map fun c => .bl (relE y c)
theorem p_law_x_classes (ds : List D) (M : DM) (Q : D → DM → Prop) (X : XD) (hl : ds.length = 1) (h : S_law_x_classes ds M Q X) : (b_law_x_classes (wkX X)).run (spEnds Q) (dStart 2 ds) M := by
  obtain ⟨p, y, rfl, hp, hy, q⟩ := h
  show (b_law_x_classes _).run (spEnds Q) [some (.ref p), none] M
  dsimp only [dSeq, dEnd, dSNil, dPass, dBreak, dCont, dNever, dDrop, dRet, dRetN, dIfS, dName, dAsg, dSet, dPar2, dPar3, dGNil, dGCons, dGTup, dSubL, dWhile, dFor, dItSeq, dItR1, dItR2, dItEnum, dVar, dC, dNil, dCons, dTup, dLst, dOp, dUn, dTB, dAndT, dOrT, dNotT, dAndV, dOrV, dNotV, dIf, dChain, dSlice, dNoP, dPart, dCB, dIsi, dCall, dRaise, oEq, oNe, oLt, oLe, oGt, oGe, oIsN, r_add_ii, r_add_ss, r_add_tt, r_add_r, r_add_l, r_add_ib, r_add_bi, r_add_bb, r_sub_ii, r_sub_bb, r_mul_ii, r_mul_si, r_fdiv_ii, r_mod_ii, r_pow_ii, r_neg_i, r_eq_ii, r_eq_ss, r_ord_ii, r_ix_t, r_ix_l, r_ix_r, r_ix_s, r_len_s, r_len_t, r_len_l, r_len_r, r_abs_i, r_int_i, r_int_b, r_list, r_tuple, r_repr_s, spEnds, wkX, List.getElem?_cons_zero, List.getElem?_cons_succ, List.set_cons_zero, List.set_cons_succ, dIsX, dIsXV, dNew, dTryAs, b_law_x_classes]
  refine ⟨y, hp, hy, y, hp, hy, y, hp, hy, y, hp, hy, szle (n := 4), fun q0 f0 => .gen (fun M1 => Sub M M1 ∧ M1 q0 = some (.lst (clF y ["NoMachine", "NoPlain", "NoLetters", "NoRule"])) ∧ M1 p = some (.exc y)) ⟨.new f0, put_same, put_keep hp f0⟩ fun M1 ⟨s1, l1, p1⟩ => ?_⟩
  dsimp only [dSeq, dEnd, dSNil, dPass, dBreak, dCont, dNever, dDrop, dRet, dRetN, dIfS, dName, dAsg, dSet, dPar2, dPar3, dGNil, dGCons, dGTup, dSubL, dWhile, dFor, dItSeq, dItR1, dItR2, dItEnum, dVar, dC, dNil, dCons, dTup, dLst, dOp, dUn, dTB, dAndT, dOrT, dNotT, dAndV, dOrV, dNotV, dIf, dChain, dSlice, dNoP, dPart, dCB, dIsi, dCall, dRaise, oEq, oNe, oLt, oLe, oGt, oGe, oIsN, r_add_ii, r_add_ss, r_add_tt, r_add_r, r_add_l, r_add_ib, r_add_bi, r_add_bb, r_sub_ii, r_sub_bb, r_mul_ii, r_mul_si, r_fdiv_ii, r_mod_ii, r_pow_ii, r_neg_i, r_eq_ii, r_eq_ss, r_ord_ii, r_ix_t, r_ix_l, r_ix_r, r_ix_s, r_len_s, r_len_t, r_len_l, r_len_r, r_abs_i, r_int_i, r_int_b, r_list, r_tuple, r_repr_s, spEnds, wkX, List.getElem?_cons_zero, List.getElem?_cons_succ, List.set_cons_zero, List.set_cons_succ, dIsX, dIsXV, dNew, dTryAs]
  refine ⟨y, p1, hy, y, p1, hy, y, p1, hy, szle (n := 3), fun a f => ⟨clF y ["NoMachine", "NoPlain", "NoLetters", "NoRule"], clF y ["NoRow", "NoWord", "NoNumber"], .inl (put_keep l1 f), .inl put_same, szle (n := 7), fun q1 g => ?_⟩⟩
  refine .gen (fun M1 => Sub M M1 ∧ M1 q1 = some (.lst (clF y ["NoMachine", "NoPlain", "NoLetters", "NoRule", "NoRow", "NoWord", "NoNumber"])) ∧ M1 p = some (.exc y)) ⟨(s1.trans (.new f)).trans (.new g), put_same, put_keep (put_keep p1 f) g⟩ fun M2 ⟨s2, l2, p2⟩ => ?_
  dsimp only [dSeq, dEnd, dSNil, dPass, dBreak, dCont, dNever, dDrop, dRet, dRetN, dIfS, dName, dAsg, dSet, dPar2, dPar3, dGNil, dGCons, dGTup, dSubL, dWhile, dFor, dItSeq, dItR1, dItR2, dItEnum, dVar, dC, dNil, dCons, dTup, dLst, dOp, dUn, dTB, dAndT, dOrT, dNotT, dAndV, dOrV, dNotV, dIf, dChain, dSlice, dNoP, dPart, dCB, dIsi, dCall, dRaise, oEq, oNe, oLt, oLe, oGt, oGe, oIsN, r_add_ii, r_add_ss, r_add_tt, r_add_r, r_add_l, r_add_ib, r_add_bi, r_add_bb, r_sub_ii, r_sub_bb, r_mul_ii, r_mul_si, r_fdiv_ii, r_mod_ii, r_pow_ii, r_neg_i, r_eq_ii, r_eq_ss, r_ord_ii, r_ix_t, r_ix_l, r_ix_r, r_ix_s, r_len_s, r_len_t, r_len_l, r_len_r, r_abs_i, r_int_i, r_int_b, r_list, r_tuple, r_repr_s, spEnds, wkX, List.getElem?_cons_zero, List.getElem?_cons_succ, List.set_cons_zero, List.set_cons_succ, dIsX, dIsXV, dNew, dTryAs]
  refine ⟨y, p2, hy, y, p2, hy, y, p2, hy, szle (n := 3), fun a f => ⟨clF y ["NoMachine", "NoPlain", "NoLetters", "NoRule", "NoRow", "NoWord", "NoNumber"], clF y ["NoDivisor", "NoArena", "NoState"], .inl (put_keep l2 f), .inl put_same, szle (n := 10), fun q2 g => ?_⟩⟩
  refine .gen (fun M1 => Sub M M1 ∧ M1 q2 = some (.lst (clF y ["NoMachine", "NoPlain", "NoLetters", "NoRule", "NoRow", "NoWord", "NoNumber", "NoDivisor", "NoArena", "NoState"])) ∧ M1 p = some (.exc y)) ⟨(s2.trans (.new f)).trans (.new g), put_same, put_keep (put_keep p2 f) g⟩ fun M3 ⟨s3, l3, p3⟩ => ?_
  dsimp only [dSeq, dEnd, dSNil, dPass, dBreak, dCont, dNever, dDrop, dRet, dRetN, dIfS, dName, dAsg, dSet, dPar2, dPar3, dGNil, dGCons, dGTup, dSubL, dWhile, dFor, dItSeq, dItR1, dItR2, dItEnum, dVar, dC, dNil, dCons, dTup, dLst, dOp, dUn, dTB, dAndT, dOrT, dNotT, dAndV, dOrV, dNotV, dIf, dChain, dSlice, dNoP, dPart, dCB, dIsi, dCall, dRaise, oEq, oNe, oLt, oLe, oGt, oGe, oIsN, r_add_ii, r_add_ss, r_add_tt, r_add_r, r_add_l, r_add_ib, r_add_bi, r_add_bb, r_sub_ii, r_sub_bb, r_mul_ii, r_mul_si, r_fdiv_ii, r_mod_ii, r_pow_ii, r_neg_i, r_eq_ii, r_eq_ss, r_ord_ii, r_ix_t, r_ix_l, r_ix_r, r_ix_s, r_len_s, r_len_t, r_len_l, r_len_r, r_abs_i, r_int_i, r_int_b, r_list, r_tuple, r_repr_s, spEnds, wkX, List.getElem?_cons_zero, List.getElem?_cons_succ, List.set_cons_zero, List.set_cons_succ, dIsX, dIsXV, dNew, dTryAs]
  refine ⟨y, p3, hy, y, p3, hy, y, p3, hy, szle (n := 3), fun a f => ⟨clF y ["NoMachine", "NoPlain", "NoLetters", "NoRule", "NoRow", "NoWord", "NoNumber", "NoDivisor", "NoArena", "NoState"], clF y ["NoMatch", "NoFactor", "NoWorth"], .inl (put_keep l3 f), .inl put_same, szle (n := 13), fun q3 g => ?_⟩⟩
  refine .gen (fun M1 => Sub M M1 ∧ M1 q3 = some (.lst (clF y ["NoMachine", "NoPlain", "NoLetters", "NoRule", "NoRow", "NoWord", "NoNumber", "NoDivisor", "NoArena", "NoState", "NoMatch", "NoFactor", "NoWorth"])) ∧ M1 p = some (.exc y)) ⟨(s3.trans (.new f)).trans (.new g), put_same, put_keep (put_keep p3 f) g⟩ fun M4 ⟨s4, l4, p4⟩ => ?_
  dsimp only [dSeq, dEnd, dSNil, dPass, dBreak, dCont, dNever, dDrop, dRet, dRetN, dIfS, dName, dAsg, dSet, dPar2, dPar3, dGNil, dGCons, dGTup, dSubL, dWhile, dFor, dItSeq, dItR1, dItR2, dItEnum, dVar, dC, dNil, dCons, dTup, dLst, dOp, dUn, dTB, dAndT, dOrT, dNotT, dAndV, dOrV, dNotV, dIf, dChain, dSlice, dNoP, dPart, dCB, dIsi, dCall, dRaise, oEq, oNe, oLt, oLe, oGt, oGe, oIsN, r_add_ii, r_add_ss, r_add_tt, r_add_r, r_add_l, r_add_ib, r_add_bi, r_add_bb, r_sub_ii, r_sub_bb, r_mul_ii, r_mul_si, r_fdiv_ii, r_mod_ii, r_pow_ii, r_neg_i, r_eq_ii, r_eq_ss, r_ord_ii, r_ix_t, r_ix_l, r_ix_r, r_ix_s, r_len_s, r_len_t, r_len_l, r_len_r, r_abs_i, r_int_i, r_int_b, r_list, r_tuple, r_repr_s, spEnds, wkX, List.getElem?_cons_zero, List.getElem?_cons_succ, List.set_cons_zero, List.set_cons_succ, dIsX, dIsXV, dNew, dTryAs]
  refine ⟨y, p4, hy, y, p4, hy, y, p4, hy, szle (n := 3), fun a f => ⟨clF y ["NoMachine", "NoPlain", "NoLetters", "NoRule", "NoRow", "NoWord", "NoNumber", "NoDivisor", "NoArena", "NoState", "NoMatch", "NoFactor", "NoWorth"], clF y ["NoLetter", "NoUndo", "NoThings"], .inl (put_keep l4 f), .inl put_same, szle (n := 16), fun q4 g => ?_⟩⟩
  refine .gen (fun M1 => Sub M M1 ∧ M1 q4 = some (.lst (clF y ["NoMachine", "NoPlain", "NoLetters", "NoRule", "NoRow", "NoWord", "NoNumber", "NoDivisor", "NoArena", "NoState", "NoMatch", "NoFactor", "NoWorth", "NoLetter", "NoUndo", "NoThings"])) ∧ M1 p = some (.exc y)) ⟨(s4.trans (.new f)).trans (.new g), put_same, put_keep (put_keep p4 f) g⟩ fun M5 ⟨s5, l5, p5⟩ => ?_
  dsimp only [dSeq, dEnd, dSNil, dPass, dBreak, dCont, dNever, dDrop, dRet, dRetN, dIfS, dName, dAsg, dSet, dPar2, dPar3, dGNil, dGCons, dGTup, dSubL, dWhile, dFor, dItSeq, dItR1, dItR2, dItEnum, dVar, dC, dNil, dCons, dTup, dLst, dOp, dUn, dTB, dAndT, dOrT, dNotT, dAndV, dOrV, dNotV, dIf, dChain, dSlice, dNoP, dPart, dCB, dIsi, dCall, dRaise, oEq, oNe, oLt, oLe, oGt, oGe, oIsN, r_add_ii, r_add_ss, r_add_tt, r_add_r, r_add_l, r_add_ib, r_add_bi, r_add_bb, r_sub_ii, r_sub_bb, r_mul_ii, r_mul_si, r_fdiv_ii, r_mod_ii, r_pow_ii, r_neg_i, r_eq_ii, r_eq_ss, r_ord_ii, r_ix_t, r_ix_l, r_ix_r, r_ix_s, r_len_s, r_len_t, r_len_l, r_len_r, r_abs_i, r_int_i, r_int_b, r_list, r_tuple, r_repr_s, spEnds, wkX, List.getElem?_cons_zero, List.getElem?_cons_succ, List.set_cons_zero, List.set_cons_succ, dIsX, dIsXV, dNew, dTryAs]
  refine ⟨y, p5, hy, y, p5, hy, y, p5, hy, szle (n := 3), fun a f => ⟨clF y ["NoMachine", "NoPlain", "NoLetters", "NoRule", "NoRow", "NoWord", "NoNumber", "NoDivisor", "NoArena", "NoState", "NoMatch", "NoFactor", "NoWorth", "NoLetter", "NoUndo", "NoThings"], clF y ["NoRunner", "NoLimit", "HasRow"], .inl (put_keep l5 f), .inl put_same, szle (n := 19), fun q5 g => ?_⟩⟩
  refine .gen (fun M1 => Sub M M1 ∧ M1 q5 = some (.lst (clF y ["NoMachine", "NoPlain", "NoLetters", "NoRule", "NoRow", "NoWord", "NoNumber", "NoDivisor", "NoArena", "NoState", "NoMatch", "NoFactor", "NoWorth", "NoLetter", "NoUndo", "NoThings", "NoRunner", "NoLimit", "HasRow"])) ∧ M1 p = some (.exc y)) ⟨(s5.trans (.new f)).trans (.new g), put_same, put_keep (put_keep p5 f) g⟩ fun M6 ⟨s6, l6, p6⟩ => ?_
  dsimp only [dSeq, dEnd, dSNil, dPass, dBreak, dCont, dNever, dDrop, dRet, dRetN, dIfS, dName, dAsg, dSet, dPar2, dPar3, dGNil, dGCons, dGTup, dSubL, dWhile, dFor, dItSeq, dItR1, dItR2, dItEnum, dVar, dC, dNil, dCons, dTup, dLst, dOp, dUn, dTB, dAndT, dOrT, dNotT, dAndV, dOrV, dNotV, dIf, dChain, dSlice, dNoP, dPart, dCB, dIsi, dCall, dRaise, oEq, oNe, oLt, oLe, oGt, oGe, oIsN, r_add_ii, r_add_ss, r_add_tt, r_add_r, r_add_l, r_add_ib, r_add_bi, r_add_bb, r_sub_ii, r_sub_bb, r_mul_ii, r_mul_si, r_fdiv_ii, r_mod_ii, r_pow_ii, r_neg_i, r_eq_ii, r_eq_ss, r_ord_ii, r_ix_t, r_ix_l, r_ix_r, r_ix_s, r_len_s, r_len_t, r_len_l, r_len_r, r_abs_i, r_int_i, r_int_b, r_list, r_tuple, r_repr_s, spEnds, wkX, List.getElem?_cons_zero, List.getElem?_cons_succ, List.set_cons_zero, List.set_cons_succ, dIsX, dIsXV, dNew, dTryAs]
  refine ⟨y, p6, hy, szle (n := 1), fun a f => ⟨clF y ["NoMachine", "NoPlain", "NoLetters", "NoRule", "NoRow", "NoWord", "NoNumber", "NoDivisor", "NoArena", "NoState", "NoMatch", "NoFactor", "NoWorth", "NoLetter", "NoUndo", "NoThings", "NoRunner", "NoLimit", "HasRow"], clF y ["TooGreat"], .inl (put_keep l6 f), .inl put_same, szle (n := 20), fun q6 g => ?_⟩⟩
  have sF : Sub M (put M6 a (.lst (clF y ["TooGreat"]))) := s6.trans (.new f)
  exact .to (sF.put2 q6 (.lst (eclOf y))) (q q6 (sF.none g))

def Errl (M : DM) : List Addr → List Str → Prop
  | [], [] => True
  | a :: as, c :: cs => M a = some (.exc c) ∧ Errl M as cs
  | _, _ => False
theorem Errl.sub {M M' : DM} (s : Sub M M') : ∀ {as : List Addr} {l : List Str}, Errl M as l → Errl M' as l
  | [], [], _ => trivial
  | _ :: _, _ :: _, h => ⟨s _ _ h.1, Errl.sub s h.2⟩
  | [], _ :: _, h => h.elim
  | _ :: _, [], h => h.elim
theorem Errl.app {M : DM} : ∀ {as bs : List Addr} {l l' : List Str}, Errl M as l → Errl M bs l' → Errl M (as ++ bs) (l ++ l')
  | [], _, [], _, _, h => h
  | _ :: _, _, _ :: _, _, h, g => ⟨h.1, Errl.app h.2 g⟩
  | [], _, _ :: _, _, h, _ => h.elim
  | _ :: _, _, [], _, h, _ => h.elim
theorem Errl.len {M : DM} : ∀ {as : List Addr} {l : List Str}, Errl M as l → as.length = l.length
  | [], [], _ => rfl
  | _ :: _, _ :: _, h => congrArg Nat.succ (Errl.len h.2)
  | [], _ :: _, h => h.elim
  | _ :: _, [], h => h.elim
/-- but for the pen's own place -/
theorem Errl.pen {M : DM} {p : Addr} {o : MO} {ds : List D} (hp : M p = some (.lst ds)) : ∀ {as : List Addr} {l : List Str}, Errl M as l → Errl (put M p o) as l
  | [], [], _ => trivial
  | a :: _, _ :: _, h => ⟨by rw [put_ne (fun z => by have := h.1; rw [z, hp] at this; cases this)]; exact h.1, Errl.pen hp h.2⟩
  | [], _ :: _, h => h.elim
  | _ :: _, [], h => h.elim
theorem lc_bools {t : DE} {δ : DSt} {i : Nat} {A : Addr} {Q : D → DM → Prop} {f : Int → Bool} (ht : ∀ (j : Int) (M : DM) (R : D → DM → Prop), R (.bl (f j)) M → t.run (δ.set i (some (.int j))) M R) :
    ∀ (js : List Int) (acc : List D) (M : DM), acc.length + js.length < 1000 → Q (.ref A) (put M A (.lst (acc ++ js.map fun j => .bl (f j)))) → lcRun t i δ A Q (fun _ => True) (js.map D.int) (put M A (.lst acc))
  | [], acc, M, _, q => ⟨trivial, by rw [List.map_nil, List.append_nil] at q; exact q⟩
  | j :: js, acc, M, hl, q => ⟨trivial, ht j _ _ ⟨acc, put_same, by rw [List.length_cons] at hl; exact Nat.lt_of_lt_of_le (show acc.length < 1000 by omega) (szle (n := 1000)), by
      rw [put_put]
      refine lc_bools ht js (acc ++ [.bl (f j)]) M (by rw [List.length_append]; simp only [List.length_cons, List.length_nil] at hl ⊢; omega) ?_
      rw [List.append_assoc]
      exact q⟩⟩
def intsU (n : Nat) : List Int := (List.range n).map fun (i : Nat) => (i : Int)
theorem rngD_ints (n : Nat) : rngD 0 n = (intsU n).map D.int := by
  unfold rngD intsU
  rw [List.map_map]
  refine List.map_congr_left fun i _ => ?_
  show D.int (0 + (i : Int)) = D.int (i : Int)
  rw [Int.zero_add]
theorem dats_bools {M : DM} : ∀ bs : List Bool, dats M (bs.map PyData.bool) (bs.map D.bl)
  | [] => by rw [List.map_nil, List.map_nil, dats]
  | b :: bs => by
    rw [List.map_cons, List.map_cons, dats]
    exact ⟨_, _, rfl, by rw [dat], dats_bools bs⟩
theorem lay_bools : ∀ bs : List Bool, PyData.canLayAll0 (bs.map PyData.bool) = true
  | [] => by simp [PyData.canLayAll0]
  | b :: bs => by simp [PyData.canLayAll0, PyData.canLay0, lay_bools bs]
theorem deep_bools : ∀ bs : List Bool, PyData.depthAll (bs.map PyData.bool) ≤ 1
  | [] => by simp [PyData.depthAll]
  | b :: bs => by
    have := deep_bools bs
    simp [PyData.depthAll, PyData.depth] at this ⊢
    try omega
theorem shaped_bools (bs : List Bool) : SeqAt.shaped (.list (bs.map PyData.bool)) = true := by
  have h := deep_bools bs
  unfold SeqAt.shaped
  rw [PyData.canLay0, lay_bools, PyData.depth, Bool.true_and]
  exact decide_eq_true (by omega)
/-- two lists of the same bools -/
theorem eq_bools {M : DM} {R : D → DM → Prop} {p q : Addr} {bs : List Bool} {neg : Bool} (hp : isL M (.ref p) (bs.map D.bl)) (hq : isL M (.ref q) (bs.map D.bl)) (h : R (.bl (true ^^ neg)) M) : (oEqN neg).run (.ref p) (.ref q) M R := by
  refine ⟨.list (bs.map .bool), .list (bs.map .bool), ?_, ?_, shaped_bools bs, shaped_bools bs, ?_⟩
  · rw [dat]; exact ⟨_, hp, dats_bools bs⟩
  · rw [dat]; exact ⟨_, hq, dats_bools bs⟩
  · rw [SeqAt.eqv_refl _ (by rw [PyData.canLay0]; exact lay_bools bs)]
    exact h
/-- the law's look at an error, against what is due -/
theorem cls_cmp {a : Addr} {y : Str} {k : Int} {δ : DSt} {M : DM} {R : D → DM → Prop} {X : XD} {t : DE} (hy : y ∈ cs33) (ha : M a = some (.exc y)) (hk : ecl.map (relE y) = (intsU 20).map fun j => decide (j = k))
    (ht : ∀ (j : Int) (M : DM) (R : D → DM → Prop), R (.bl (decide (j = k))) M → t.run ((δ.set 9 none).set 9 (some (.int j))) M R) (fin : ∀ M', Sub M M' → R (.bl false) M') :
    callQ S_law_x_classes [.ref a] M (fun d M1 => (dLc (dItR1 (dC (.int 20))) 9 t).run δ M1 fun z M2 => (oEqN true).run d z M2 R) X := by
  refine .go ⟨a, y, rfl, ha, hy, fun q f => ⟨by decide, fun A g => ?_⟩⟩
  have e : rngD 0 (20 : Int).toNat = (intsU 20).map D.int := rngD_ints 20
  rw [e]
  refine lc_bools (f := fun j => decide (j = k)) ht (intsU 20) [] _ (by decide) ?_
  rw [List.nil_append]
  have e2 : ((intsU 20).map fun j => D.bl (decide (j = k))) = (ecl.map (relE y)).map D.bl := by rw [hk, List.map_map]; rfl
  have e3 : eclOf y = (ecl.map (relE y)).map D.bl := by unfold eclOf; rw [List.map_map]; rfl
  refine eq_bools (bs := ecl.map (relE y)) (.inl ?_) (.inl ?_) (fin _ ((Sub.new f).trans (.new g)))
  · rw [← e3]; exact put_keep put_same g
  · rw [← e2]; exact put_same
theorem rel_later (y : Str) : relE y "LaterError" = true := by
  unfold relE
  rw [Bool.or_eq_true]
  exact .inr (by decide +kernel)
theorem err_loop {E : DEnds} {X : XD} {p q4 : Addr} {n : Nat} {full : List D} {s0 s2 s3 s5 s6 : Option D} (fin : ∀ δ M, δ.length = 10 → Pen M p n → δ[1]? = some (some (.ref p)) → E.nx δ M) :
    ∀ (as : List Addr) (l : List Str) (k : Nat) (M : DM) (s7 s8 s9 : Option D), Errl M as l → (∀ (i : Nat) (c : Str), l[i]? = some c → c ∈ cs33 ∧ ecl.map (relE c) = (intsU 20).map fun j => decide (j = ((k + i : Nat) : Int))) → M q4 = some (.lst full) → Pen M p n →
      forRun (dGTup (dGCons (dName 7) (dGCons (dName 8) (dGNil)))) (dSeq (dIfS (dTB (dOp oNe (dCall S_law_x_classes (dCons (dVar 8) (dNil)) (wkX X)) (dLc (dItR1 (dC (.int 20))) 9 (dOp oEq (dVar 9) (dVar 7))))) (dEnd (dRet (dC (.bl false)))) (dSNil))
  (dEnd (dIfS (dOrT (dNotT (dTB (dIsX cs33 "LaterError" (dVar 8)))) (dNotT (dTB (dIsXV cs33 (dVar 8))))) (dEnd (dRet (dC (.bl false)))) (dSNil)))) E (fun M => isL M (.ref q4) full) (enumD k (as.map D.ref)) [s0, some (.ref p), s2, s3, some (.ref q4), s5, s6, s7, s8, s9] M
  | [], l, k, M, s7, s8, s9, _, _, hq, pen => ⟨.inl hq, fin _ _ rfl pen rfl⟩
  | a :: as, [], k, M, s7, s8, s9, h, _, _, _ => h.elim
  | a :: as, c :: l, k, M, s7, s8, s9, h, hl, hq, pen => by
    rw [List.map_cons, enumD, forRun]
    dsimp only [dSeq, dEnd, dSNil, dPass, dBreak, dCont, dNever, dDrop, dRet, dRetN, dIfS, dName, dAsg, dSet, dPar2, dPar3, dGNil, dGCons, dGTup, dSubL, dWhile, dFor, dItSeq, dItR1, dItR2, dItEnum, dVar, dC, dNil, dCons, dTup, dLst, dOp, dUn, dTB, dAndT, dOrT, dNotT, dAndV, dOrV, dNotV, dIf, dChain, dSlice, dNoP, dPart, dCB, dIsi, dCall, dRaise, oEq, oNe, oLt, oLe, oGt, oGe, oIsN, r_add_ii, r_add_ss, r_add_tt, r_add_r, r_add_l, r_add_ib, r_add_bi, r_add_bb, r_sub_ii, r_sub_bb, r_mul_ii, r_mul_si, r_fdiv_ii, r_mod_ii, r_pow_ii, r_neg_i, r_eq_ii, r_eq_ss, r_ord_ii, r_ix_t, r_ix_l, r_ix_r, r_ix_s, r_len_s, r_len_t, r_len_l, r_len_r, r_abs_i, r_int_i, r_int_b, r_list, r_tuple, r_repr_s, spEnds, wkX, List.getElem?_cons_zero, List.getElem?_cons_succ, List.set_cons_zero, List.set_cons_succ, dIsX, dIsXV, dNew, dTryAs]
    obtain ⟨hc, hk⟩ := hl 0 c rfl
    refine ⟨.inl hq, cls_cmp hc h.1 hk (fun j M R r => by show R (.bl (decide (j = ((k : Nat) : Int)) ^^ false)) M; rw [Bool.xor_false]; exact r) fun M1 s1 => ?_⟩
    dsimp only [dSeq, dEnd, dSNil, dPass, dBreak, dCont, dNever, dDrop, dRet, dRetN, dIfS, dName, dAsg, dSet, dPar2, dPar3, dGNil, dGCons, dGTup, dSubL, dWhile, dFor, dItSeq, dItR1, dItR2, dItEnum, dVar, dC, dNil, dCons, dTup, dLst, dOp, dUn, dTB, dAndT, dOrT, dNotT, dAndV, dOrV, dNotV, dIf, dChain, dSlice, dNoP, dPart, dCB, dIsi, dCall, dRaise, oEq, oNe, oLt, oLe, oGt, oGe, oIsN, r_add_ii, r_add_ss, r_add_tt, r_add_r, r_add_l, r_add_ib, r_add_bi, r_add_bb, r_sub_ii, r_sub_bb, r_mul_ii, r_mul_si, r_fdiv_ii, r_mod_ii, r_pow_ii, r_neg_i, r_eq_ii, r_eq_ss, r_ord_ii, r_ix_t, r_ix_l, r_ix_r, r_ix_s, r_len_s, r_len_t, r_len_l, r_len_r, r_abs_i, r_int_i, r_int_b, r_list, r_tuple, r_repr_s, spEnds, wkX, List.getElem?_cons_zero, List.getElem?_cons_succ, List.set_cons_zero, List.set_cons_succ, dIsX, dIsXV, dNew, dTryAs]
    refine bcase_f rfl (.here ?_)
    dsimp only [dSeq, dEnd, dSNil, dPass, dBreak, dCont, dNever, dDrop, dRet, dRetN, dIfS, dName, dAsg, dSet, dPar2, dPar3, dGNil, dGCons, dGTup, dSubL, dWhile, dFor, dItSeq, dItR1, dItR2, dItEnum, dVar, dC, dNil, dCons, dTup, dLst, dOp, dUn, dTB, dAndT, dOrT, dNotT, dAndV, dOrV, dNotV, dIf, dChain, dSlice, dNoP, dPart, dCB, dIsi, dCall, dRaise, oEq, oNe, oLt, oLe, oGt, oGe, oIsN, r_add_ii, r_add_ss, r_add_tt, r_add_r, r_add_l, r_add_ib, r_add_bi, r_add_bb, r_sub_ii, r_sub_bb, r_mul_ii, r_mul_si, r_fdiv_ii, r_mod_ii, r_pow_ii, r_neg_i, r_eq_ii, r_eq_ss, r_ord_ii, r_ix_t, r_ix_l, r_ix_r, r_ix_s, r_len_s, r_len_t, r_len_l, r_len_r, r_abs_i, r_int_i, r_int_b, r_list, r_tuple, r_repr_s, spEnds, wkX, List.getElem?_cons_zero, List.getElem?_cons_succ, List.set_cons_zero, List.set_cons_succ, dIsX, dIsXV, dNew, dTryAs]
    refine ⟨c, s1 _ _ h.1, hc, ?_⟩
    rw [rel_later]
    refine ⟨c, s1 _ _ h.1, hc, .here ?_⟩
    obtain ⟨o, ho, po⟩ := pen
    exact err_loop fin as l (k + 1) M1 _ _ _ (h.2.sub s1) (fun i d hd => by
      have := hl (i + 1) d hd
      rw [show k + 1 + i = k + (i + 1) by omega]
      exact this) (s1 _ _ hq) ⟨o, s1 _ _ ho, po⟩

theorem mul_x {r : Int} (h0 : 0 ≤ r) (h1 : r < 99) : PySem.MulOk "x" r := by
  have e : (Str.ofString "x").length = 1 := by decide
  refine ⟨?_, fun h _ => ?_, fun h _ => ?_⟩
  · rw [decide_eq_false (by omega), decide_eq_false (by omega)]; rfl
  · show ¬ (((Str.ofString "x").length : Int) > _)
    rw [e]
    have : (1 : Int) ≤ (2 ^ 63 - 1) / r := (Int.le_ediv_iff_mul_le (by omega)).mpr (by omega)
    omega
  · show Builtin.Str.tooLong ((Str.ofString "x").length * r.toNat) = false
    rw [e]
    have : r.toNat < 99 := by omega
    have h2 := szle (n := 99)
    unfold Builtin.Str.tooLong
    simp
    omega
theorem ecl_at : ∀ (i : Nat) (c : Str), ecl[i]? = some c → c ∈ cs33 ∧ ecl.map (relE c) = (intsU 20).map fun j => decide (j = ((0 + i : Nat) : Int)) := by
  intro i c h
  have hl : i < 20 := (List.getElem?_eq_some_iff.mp h).1
  have key : ∀ i : Fin 20, (ecl[i.val]?).all (fun c => decide (c ∈ cs33) && decide (ecl.map (relE c) = (intsU 20).map fun j => decide (j = ((0 + i.val : Nat) : Int)))) = true := by decide +kernel
  have k := key ⟨i, hl⟩
  rw [show ecl[(⟨i, hl⟩ : Fin 20).val]? = some c from h] at k
  have k2 : (decide (c ∈ cs33) && decide (ecl.map (relE c) = (intsU 20).map fun j => decide (j = ((0 + i : Nat) : Int)))) = true := k
  rw [Bool.and_eq_true] at k2
  exact ⟨of_decide_eq_true k2.1, of_decide_eq_true k2.2⟩
theorem turn33 {E : DEnds} {X : XD} {p : Addr} (fin : ∀ δ M, δ.length = 10 → E.nx δ M) : ∀ (xs : List D) (n : Nat) (M : DM) (s0 s2 s3 s4 s5 s6 s7 s8 s9 : Option D), Pen M p n → n + 5 * xs.length ≤ 1000 →
    forRun (dName 2) (dSeq (dSet 3 (dCall S_law_x_pick (dCons (dVar 1) (dCons (dLst (dCons (dC (.str "")) (dCons (dC (.str "a")) (dCons (dC (.str "no row")) (dCons (dOp oMul (dC (.str "x")) (dCall S_law_take (dCons (dVar 1) (dCons (dC (.int 99)) (dNil))) (wkX X))) (dNil)))))) (dNil))) (wkX X)))
  (dSeq (dSet 4 (dLst (dCons (dNew "NoMachine" (dVar 3)) (dCons (dNew "NoPlain" (dVar 3)) (dCons (dNew "NoLetters" (dVar 3)) (dCons (dNew "NoRule" (dVar 3)) (dCons (dNew "NoRow" (dVar 3)) (dCons (dNew "NoWord" (dVar 3)) (dNil)))))))))
  (dSeq (dSet 4 (dOp oAdd (dVar 4) (dLst (dCons (dNew "NoNumber" (dVar 3)) (dCons (dNew "NoDivisor" (dVar 3)) (dCons (dNew "NoArena" (dVar 3)) (dCons (dNew "NoState" (dVar 3)) (dCons (dNew "NoMatch" (dVar 3)) (dNil)))))))))
  (dSeq (dSet 4 (dOp oAdd (dVar 4) (dLst (dCons (dNew "NoFactor" (dVar 3)) (dCons (dNew "NoWorth" (dVar 3)) (dCons (dNew "NoLetter" (dVar 3)) (dCons (dNew "NoUndo" (dVar 3)) (dCons (dNew "NoThings" (dVar 3)) (dNil)))))))))
  (dSeq (dSet 4 (dOp oAdd (dVar 4) (dLst (dCons (dNew "NoRunner" (dVar 3)) (dCons (dNew "NoLimit" (dVar 3)) (dCons (dNew "HasRow" (dVar 3)) (dCons (dNew "TooGreat" (dVar 3)) (dNil))))))))
  (dSeq (dSet 5 (dC .non))
  (dSeq (dTryAs cs33 S_number_of (dCons (dC (.int 7)) (dCons (dUn oNeg (dCall S_law_take (dCons (dVar 1) (dCons (dC (.int 9)) (dNil))) xNo)) (dNil))) 6 5)
  (dSeq (dIfS (dOrT (dTB (dOp (oIsN false) (dVar 5) (dC .non))) (dTB (dOp oNe (dCall S_law_x_classes (dCons (dVar 5) (dNil)) (wkX X)) (dLc (dItR1 (dC (.int 20))) 9 (dOp oEq (dVar 9) (dC (.int 7))))))) (dEnd (dRet (dC (.bl false)))) (dSNil))
  (dEnd (dFor (dItEnum (dVar 4)) (dGTup (dGCons (dName 7) (dGCons (dName 8) (dGNil)))) (dSeq (dIfS (dTB (dOp oNe (dCall S_law_x_classes (dCons (dVar 8) (dNil)) (wkX X)) (dLc (dItR1 (dC (.int 20))) 9 (dOp oEq (dVar 9) (dVar 7))))) (dEnd (dRet (dC (.bl false)))) (dSNil))
  (dEnd (dIfS (dOrT (dNotT (dTB (dIsX cs33 "LaterError" (dVar 8)))) (dNotT (dTB (dIsXV cs33 (dVar 8))))) (dEnd (dRet (dC (.bl false)))) (dSNil)))))))))))))) E (fun _ => True) xs [s0, some (.ref p), s2, s3, s4, s5, s6, s7, s8, s9] M
  | [], n, M, s0, s2, s3, s4, s5, s6, s7, s8, s9, pen, hn => ⟨trivial, fin _ _ rfl⟩
  | x :: xs, n, M, s0, s2, s3, s4, s5, s6, s7, s8, s9, pen, hn => by
    rw [List.length_cons] at hn
    rw [forRun]
    dsimp only [dSeq, dEnd, dSNil, dPass, dBreak, dCont, dNever, dDrop, dRet, dRetN, dIfS, dName, dAsg, dSet, dPar2, dPar3, dGNil, dGCons, dGTup, dSubL, dWhile, dFor, dItSeq, dItR1, dItR2, dItEnum, dVar, dC, dNil, dCons, dTup, dLst, dOp, dUn, dTB, dAndT, dOrT, dNotT, dAndV, dOrV, dNotV, dIf, dChain, dSlice, dNoP, dPart, dCB, dIsi, dCall, dRaise, oEq, oNe, oLt, oLe, oGt, oGe, oIsN, r_add_ii, r_add_ss, r_add_tt, r_add_r, r_add_l, r_add_ib, r_add_bi, r_add_bb, r_sub_ii, r_sub_bb, r_mul_ii, r_mul_si, r_fdiv_ii, r_mod_ii, r_pow_ii, r_neg_i, r_eq_ii, r_eq_ss, r_ord_ii, r_ix_t, r_ix_l, r_ix_r, r_ix_s, r_len_s, r_len_t, r_len_l, r_len_r, r_abs_i, r_int_i, r_int_b, r_list, r_tuple, r_repr_s, spEnds, wkX, List.getElem?_cons_zero, List.getElem?_cons_succ, List.set_cons_zero, List.set_cons_succ, dIsX, dIsXV, dNew, dTryAs]
    refine ⟨trivial, .go ⟨p, 99, n, rfl, by decide, by unfold Sm; decide +kernel, pen, by omega, fun r o g0 g1 po => ?_⟩⟩
    have pen1 : Pen (put M p o) p (n + 1) := .now po
    dsimp only [dSeq, dEnd, dSNil, dPass, dBreak, dCont, dNever, dDrop, dRet, dRetN, dIfS, dName, dAsg, dSet, dPar2, dPar3, dGNil, dGCons, dGTup, dSubL, dWhile, dFor, dItSeq, dItR1, dItR2, dItEnum, dVar, dC, dNil, dCons, dTup, dLst, dOp, dUn, dTB, dAndT, dOrT, dNotT, dAndV, dOrV, dNotV, dIf, dChain, dSlice, dNoP, dPart, dCB, dIsi, dCall, dRaise, oEq, oNe, oLt, oLe, oGt, oGe, oIsN, r_add_ii, r_add_ss, r_add_tt, r_add_r, r_add_l, r_add_ib, r_add_bi, r_add_bb, r_sub_ii, r_sub_bb, r_mul_ii, r_mul_si, r_fdiv_ii, r_mod_ii, r_pow_ii, r_neg_i, r_eq_ii, r_eq_ss, r_ord_ii, r_ix_t, r_ix_l, r_ix_r, r_ix_s, r_len_s, r_len_t, r_len_l, r_len_r, r_abs_i, r_int_i, r_int_b, r_list, r_tuple, r_repr_s, spEnds, wkX, List.getElem?_cons_zero, List.getElem?_cons_succ, List.set_cons_zero, List.set_cons_succ, dIsX, dIsXV, dNew, dTryAs]
    refine ⟨mul_x g0 g1, szle (n := 4), fun q0 f0 => .go (pick_new pen1 (by omega) f0 (by show 0 < 4; decide) (by show 4 < 1000000; decide) fun d o2 _ po2 => .gen (fun M0 => Pen M0 p (n + 2)) (.now po2) fun M0 pen0 => ?_)⟩
    dsimp only [dSeq, dEnd, dSNil, dPass, dBreak, dCont, dNever, dDrop, dRet, dRetN, dIfS, dName, dAsg, dSet, dPar2, dPar3, dGNil, dGCons, dGTup, dSubL, dWhile, dFor, dItSeq, dItR1, dItR2, dItEnum, dVar, dC, dNil, dCons, dTup, dLst, dOp, dUn, dTB, dAndT, dOrT, dNotT, dAndV, dOrV, dNotV, dIf, dChain, dSlice, dNoP, dPart, dCB, dIsi, dCall, dRaise, oEq, oNe, oLt, oLe, oGt, oGe, oIsN, r_add_ii, r_add_ss, r_add_tt, r_add_r, r_add_l, r_add_ib, r_add_bi, r_add_bb, r_sub_ii, r_sub_bb, r_mul_ii, r_mul_si, r_fdiv_ii, r_mod_ii, r_pow_ii, r_neg_i, r_eq_ii, r_eq_ss, r_ord_ii, r_ix_t, r_ix_l, r_ix_r, r_ix_s, r_len_s, r_len_t, r_len_l, r_len_r, r_abs_i, r_int_i, r_int_b, r_list, r_tuple, r_repr_s, spEnds, wkX, List.getElem?_cons_zero, List.getElem?_cons_succ, List.set_cons_zero, List.set_cons_succ, dIsX, dIsXV, dNew, dTryAs]
    refine fun a0 f0 a1 f1 a2 f2 a3 f3 a4 f4 a5 f5 => ⟨szle (n := 6), fun b g => .gen (fun Nw => Sub M0 Nw ∧ ∃ as, Nw b = some (.lst (as.map D.ref)) ∧ Errl Nw as ["NoMachine", "NoPlain", "NoLetters", "NoRule", "NoRow", "NoWord"]) ⟨((((((Sub.new f0).trans (.new f1)).trans (.new f2)).trans (.new f3)).trans (.new f4)).trans (.new f5)).trans (.new g), [a0, a1, a2, a3, a4, a5], put_same, ⟨put_keep (put_keep (put_keep (put_keep (put_keep (put_keep (put_same) f1) f2) f3) f4) f5) g, put_keep (put_keep (put_keep (put_keep (put_keep (put_same) f2) f3) f4) f5) g, put_keep (put_keep (put_keep (put_keep (put_same) f3) f4) f5) g, put_keep (put_keep (put_keep (put_same) f4) f5) g, put_keep (put_keep (put_same) f5) g, put_keep (put_same) g, trivial⟩⟩ fun M1 ⟨u1, as1, q1, e1⟩ => ?_⟩
    have s1 := u1
    dsimp only [dSeq, dEnd, dSNil, dPass, dBreak, dCont, dNever, dDrop, dRet, dRetN, dIfS, dName, dAsg, dSet, dPar2, dPar3, dGNil, dGCons, dGTup, dSubL, dWhile, dFor, dItSeq, dItR1, dItR2, dItEnum, dVar, dC, dNil, dCons, dTup, dLst, dOp, dUn, dTB, dAndT, dOrT, dNotT, dAndV, dOrV, dNotV, dIf, dChain, dSlice, dNoP, dPart, dCB, dIsi, dCall, dRaise, oEq, oNe, oLt, oLe, oGt, oGe, oIsN, r_add_ii, r_add_ss, r_add_tt, r_add_r, r_add_l, r_add_ib, r_add_bi, r_add_bb, r_sub_ii, r_sub_bb, r_mul_ii, r_mul_si, r_fdiv_ii, r_mod_ii, r_pow_ii, r_neg_i, r_eq_ii, r_eq_ss, r_ord_ii, r_ix_t, r_ix_l, r_ix_r, r_ix_s, r_len_s, r_len_t, r_len_l, r_len_r, r_abs_i, r_int_i, r_int_b, r_list, r_tuple, r_repr_s, spEnds, wkX, List.getElem?_cons_zero, List.getElem?_cons_succ, List.set_cons_zero, List.set_cons_succ, dIsX, dIsXV, dNew, dTryAs]
    refine fun a0 f0 a1 f1 a2 f2 a3 f3 a4 f4 => ⟨szle (n := 5), fun c g => ⟨as1.map D.ref, [D.ref a0, D.ref a1, D.ref a2, D.ref a3, D.ref a4], .inl (put_keep (put_keep (put_keep (put_keep (put_keep (put_keep q1 f0) f1) f2) f3) f4) g), .inl put_same, by rw [List.length_map, e1.len]; exact szle (n := 11), fun b2 h => .gen (fun Nw => Sub M1 Nw ∧ ∃ as, Nw b2 = some (.lst (as.map D.ref)) ∧ Errl Nw as ["NoMachine", "NoPlain", "NoLetters", "NoRule", "NoRow", "NoWord", "NoNumber", "NoDivisor", "NoArena", "NoState", "NoMatch"])
      (have sb := ((((((Sub.new f0).trans (.new f1)).trans (.new f2)).trans (.new f3)).trans (.new f4)).trans (.new g)).trans (.new h); ⟨sb, as1 ++ [a0, a1, a2, a3, a4], by rw [List.map_append]; exact put_same, Errl.app (as := as1) (l := ["NoMachine", "NoPlain", "NoLetters", "NoRule", "NoRow", "NoWord"]) (l' := ["NoNumber", "NoDivisor", "NoArena", "NoState", "NoMatch"]) (e1.sub sb) ⟨put_keep (put_keep (put_keep (put_keep (put_keep (put_keep (put_same) f1) f2) f3) f4) g) h, put_keep (put_keep (put_keep (put_keep (put_keep (put_same) f2) f3) f4) g) h, put_keep (put_keep (put_keep (put_keep (put_same) f3) f4) g) h, put_keep (put_keep (put_keep (put_same) f4) g) h, put_keep (put_keep (put_same) g) h, trivial⟩⟩) fun M2 ⟨u2, as2, q2, e2⟩ => ?_⟩⟩
    have s2 := s1.trans u2
    dsimp only [dSeq, dEnd, dSNil, dPass, dBreak, dCont, dNever, dDrop, dRet, dRetN, dIfS, dName, dAsg, dSet, dPar2, dPar3, dGNil, dGCons, dGTup, dSubL, dWhile, dFor, dItSeq, dItR1, dItR2, dItEnum, dVar, dC, dNil, dCons, dTup, dLst, dOp, dUn, dTB, dAndT, dOrT, dNotT, dAndV, dOrV, dNotV, dIf, dChain, dSlice, dNoP, dPart, dCB, dIsi, dCall, dRaise, oEq, oNe, oLt, oLe, oGt, oGe, oIsN, r_add_ii, r_add_ss, r_add_tt, r_add_r, r_add_l, r_add_ib, r_add_bi, r_add_bb, r_sub_ii, r_sub_bb, r_mul_ii, r_mul_si, r_fdiv_ii, r_mod_ii, r_pow_ii, r_neg_i, r_eq_ii, r_eq_ss, r_ord_ii, r_ix_t, r_ix_l, r_ix_r, r_ix_s, r_len_s, r_len_t, r_len_l, r_len_r, r_abs_i, r_int_i, r_int_b, r_list, r_tuple, r_repr_s, spEnds, wkX, List.getElem?_cons_zero, List.getElem?_cons_succ, List.set_cons_zero, List.set_cons_succ, dIsX, dIsXV, dNew, dTryAs]
    refine fun a0 f0 a1 f1 a2 f2 a3 f3 a4 f4 => ⟨szle (n := 5), fun c g => ⟨as2.map D.ref, [D.ref a0, D.ref a1, D.ref a2, D.ref a3, D.ref a4], .inl (put_keep (put_keep (put_keep (put_keep (put_keep (put_keep q2 f0) f1) f2) f3) f4) g), .inl put_same, by rw [List.length_map, e2.len]; exact szle (n := 16), fun b3 h => .gen (fun Nw => Sub M2 Nw ∧ ∃ as, Nw b3 = some (.lst (as.map D.ref)) ∧ Errl Nw as ["NoMachine", "NoPlain", "NoLetters", "NoRule", "NoRow", "NoWord", "NoNumber", "NoDivisor", "NoArena", "NoState", "NoMatch", "NoFactor", "NoWorth", "NoLetter", "NoUndo", "NoThings"])
      (have sb := ((((((Sub.new f0).trans (.new f1)).trans (.new f2)).trans (.new f3)).trans (.new f4)).trans (.new g)).trans (.new h); ⟨sb, as2 ++ [a0, a1, a2, a3, a4], by rw [List.map_append]; exact put_same, Errl.app (as := as2) (l := ["NoMachine", "NoPlain", "NoLetters", "NoRule", "NoRow", "NoWord", "NoNumber", "NoDivisor", "NoArena", "NoState", "NoMatch"]) (l' := ["NoFactor", "NoWorth", "NoLetter", "NoUndo", "NoThings"]) (e2.sub sb) ⟨put_keep (put_keep (put_keep (put_keep (put_keep (put_keep (put_same) f1) f2) f3) f4) g) h, put_keep (put_keep (put_keep (put_keep (put_keep (put_same) f2) f3) f4) g) h, put_keep (put_keep (put_keep (put_keep (put_same) f3) f4) g) h, put_keep (put_keep (put_keep (put_same) f4) g) h, put_keep (put_keep (put_same) g) h, trivial⟩⟩) fun M3 ⟨u3, as3, q3, e3⟩ => ?_⟩⟩
    have s3 := s2.trans u3
    dsimp only [dSeq, dEnd, dSNil, dPass, dBreak, dCont, dNever, dDrop, dRet, dRetN, dIfS, dName, dAsg, dSet, dPar2, dPar3, dGNil, dGCons, dGTup, dSubL, dWhile, dFor, dItSeq, dItR1, dItR2, dItEnum, dVar, dC, dNil, dCons, dTup, dLst, dOp, dUn, dTB, dAndT, dOrT, dNotT, dAndV, dOrV, dNotV, dIf, dChain, dSlice, dNoP, dPart, dCB, dIsi, dCall, dRaise, oEq, oNe, oLt, oLe, oGt, oGe, oIsN, r_add_ii, r_add_ss, r_add_tt, r_add_r, r_add_l, r_add_ib, r_add_bi, r_add_bb, r_sub_ii, r_sub_bb, r_mul_ii, r_mul_si, r_fdiv_ii, r_mod_ii, r_pow_ii, r_neg_i, r_eq_ii, r_eq_ss, r_ord_ii, r_ix_t, r_ix_l, r_ix_r, r_ix_s, r_len_s, r_len_t, r_len_l, r_len_r, r_abs_i, r_int_i, r_int_b, r_list, r_tuple, r_repr_s, spEnds, wkX, List.getElem?_cons_zero, List.getElem?_cons_succ, List.set_cons_zero, List.set_cons_succ, dIsX, dIsXV, dNew, dTryAs]
    refine fun a0 f0 a1 f1 a2 f2 a3 f3 => ⟨szle (n := 4), fun c g => ⟨as3.map D.ref, [D.ref a0, D.ref a1, D.ref a2, D.ref a3], .inl (put_keep (put_keep (put_keep (put_keep (put_keep q3 f0) f1) f2) f3) g), .inl put_same, by rw [List.length_map, e3.len]; exact szle (n := 20), fun b4 h => .gen (fun Nw => Sub M3 Nw ∧ ∃ as, Nw b4 = some (.lst (as.map D.ref)) ∧ Errl Nw as ["NoMachine", "NoPlain", "NoLetters", "NoRule", "NoRow", "NoWord", "NoNumber", "NoDivisor", "NoArena", "NoState", "NoMatch", "NoFactor", "NoWorth", "NoLetter", "NoUndo", "NoThings", "NoRunner", "NoLimit", "HasRow", "TooGreat"])
      (have sb := (((((Sub.new f0).trans (.new f1)).trans (.new f2)).trans (.new f3)).trans (.new g)).trans (.new h); ⟨sb, as3 ++ [a0, a1, a2, a3], by rw [List.map_append]; exact put_same, Errl.app (as := as3) (l := ["NoMachine", "NoPlain", "NoLetters", "NoRule", "NoRow", "NoWord", "NoNumber", "NoDivisor", "NoArena", "NoState", "NoMatch", "NoFactor", "NoWorth", "NoLetter", "NoUndo", "NoThings"]) (l' := ["NoRunner", "NoLimit", "HasRow", "TooGreat"]) (e3.sub sb) ⟨put_keep (put_keep (put_keep (put_keep (put_keep (put_same) f1) f2) f3) g) h, put_keep (put_keep (put_keep (put_keep (put_same) f2) f3) g) h, put_keep (put_keep (put_keep (put_same) f3) g) h, put_keep (put_keep (put_same) g) h, trivial⟩⟩) fun M4 ⟨u4, as4, q4, e4⟩ => ?_⟩⟩
    have s4 := s3.trans u4
    have pen2 : Pen M4 p (n + 2) := by
      obtain ⟨o, ho, po⟩ := pen0
      exact ⟨o, s4 _ _ ho, po⟩
    dsimp only [dSeq, dEnd, dSNil, dPass, dBreak, dCont, dNever, dDrop, dRet, dRetN, dIfS, dName, dAsg, dSet, dPar2, dPar3, dGNil, dGCons, dGTup, dSubL, dWhile, dFor, dItSeq, dItR1, dItR2, dItEnum, dVar, dC, dNil, dCons, dTup, dLst, dOp, dUn, dTB, dAndT, dOrT, dNotT, dAndV, dOrV, dNotV, dIf, dChain, dSlice, dNoP, dPart, dCB, dIsi, dCall, dRaise, oEq, oNe, oLt, oLe, oGt, oGe, oIsN, r_add_ii, r_add_ss, r_add_tt, r_add_r, r_add_l, r_add_ib, r_add_bi, r_add_bb, r_sub_ii, r_sub_bb, r_mul_ii, r_mul_si, r_fdiv_ii, r_mod_ii, r_pow_ii, r_neg_i, r_eq_ii, r_eq_ss, r_ord_ii, r_ix_t, r_ix_l, r_ix_r, r_ix_s, r_len_s, r_len_t, r_len_l, r_len_r, r_abs_i, r_int_i, r_int_b, r_list, r_tuple, r_repr_s, spEnds, wkX, List.getElem?_cons_zero, List.getElem?_cons_succ, List.set_cons_zero, List.set_cons_succ, dIsX, dIsXV, dNew, dTryAs]
    refine .here ?_
    dsimp only [dSeq, dEnd, dSNil, dPass, dBreak, dCont, dNever, dDrop, dRet, dRetN, dIfS, dName, dAsg, dSet, dPar2, dPar3, dGNil, dGCons, dGTup, dSubL, dWhile, dFor, dItSeq, dItR1, dItR2, dItEnum, dVar, dC, dNil, dCons, dTup, dLst, dOp, dUn, dTB, dAndT, dOrT, dNotT, dAndV, dOrV, dNotV, dIf, dChain, dSlice, dNoP, dPart, dCB, dIsi, dCall, dRaise, oEq, oNe, oLt, oLe, oGt, oGe, oIsN, r_add_ii, r_add_ss, r_add_tt, r_add_r, r_add_l, r_add_ib, r_add_bi, r_add_bb, r_sub_ii, r_sub_bb, r_mul_ii, r_mul_si, r_fdiv_ii, r_mod_ii, r_pow_ii, r_neg_i, r_eq_ii, r_eq_ss, r_ord_ii, r_ix_t, r_ix_l, r_ix_r, r_ix_s, r_len_s, r_len_t, r_len_l, r_len_r, r_abs_i, r_int_i, r_int_b, r_list, r_tuple, r_repr_s, spEnds, wkX, List.getElem?_cons_zero, List.getElem?_cons_succ, List.set_cons_zero, List.set_cons_succ, dIsX, dIsXV, dNew, dTryAs]
    refine .go ⟨p, 9, n + 2, rfl, by decide, by unfold Sm; decide +kernel, pen2, by omega, fun r o g0 g1 po => ?_⟩
    obtain ⟨o0, ho0, cs, kk, rest, eo, _⟩ := id pen2
    subst eo
    have hq : (put M4 p o) b4 = some (.lst (as4.map D.ref)) := by
      rw [put_ne ?_]
      · exact q4
      · intro z
        rw [z, ho0] at q4
        have z2 := e4.len
        cases as4 with
        | nil => cases z2
        | cons a as =>
          injection q4 with q5
          injection q5 with q6
          cases q6
    have he := e4.pen (o := o) ho0
    have pen3 : Pen (put M4 p o) p (n + 3) := .now po
    generalize put M4 p o = M5 at hq he pen3 ⊢
    dsimp only [dSeq, dEnd, dSNil, dPass, dBreak, dCont, dNever, dDrop, dRet, dRetN, dIfS, dName, dAsg, dSet, dPar2, dPar3, dGNil, dGCons, dGTup, dSubL, dWhile, dFor, dItSeq, dItR1, dItR2, dItEnum, dVar, dC, dNil, dCons, dTup, dLst, dOp, dUn, dTB, dAndT, dOrT, dNotT, dAndV, dOrV, dNotV, dIf, dChain, dSlice, dNoP, dPart, dCB, dIsi, dCall, dRaise, oEq, oNe, oLt, oLe, oGt, oGe, oIsN, r_add_ii, r_add_ss, r_add_tt, r_add_r, r_add_l, r_add_ib, r_add_bi, r_add_bb, r_sub_ii, r_sub_bb, r_mul_ii, r_mul_si, r_fdiv_ii, r_mod_ii, r_pow_ii, r_neg_i, r_eq_ii, r_eq_ss, r_ord_ii, r_ix_t, r_ix_l, r_ix_r, r_ix_s, r_len_s, r_len_t, r_len_l, r_len_r, r_abs_i, r_int_i, r_int_b, r_list, r_tuple, r_repr_s, spEnds, wkX, List.getElem?_cons_zero, List.getElem?_cons_succ, List.set_cons_zero, List.set_cons_succ, dIsX, dIsXV, dNew, dTryAs]
    refine ⟨fun _ _ => False, fun y M' => y = "NoDivisor" ∧ M' = M5, fun _ _ z => z.elim, fun y M' ⟨ey, em⟩ => ?_, .here ⟨_, _, rfl, trivial, trivial, ?_⟩⟩
    · subst ey em
      refine ⟨by decide +kernel, fun a ha => .gen (fun M6 => Sub M' M6 ∧ M6 a = some (.exc "NoDivisor")) ⟨.new ha, put_same⟩ fun M6 ⟨s6, h6⟩ => ?_⟩
      dsimp only [dSeq, dEnd, dSNil, dPass, dBreak, dCont, dNever, dDrop, dRet, dRetN, dIfS, dName, dAsg, dSet, dPar2, dPar3, dGNil, dGCons, dGTup, dSubL, dWhile, dFor, dItSeq, dItR1, dItR2, dItEnum, dVar, dC, dNil, dCons, dTup, dLst, dOp, dUn, dTB, dAndT, dOrT, dNotT, dAndV, dOrV, dNotV, dIf, dChain, dSlice, dNoP, dPart, dCB, dIsi, dCall, dRaise, oEq, oNe, oLt, oLe, oGt, oGe, oIsN, r_add_ii, r_add_ss, r_add_tt, r_add_r, r_add_l, r_add_ib, r_add_bi, r_add_bb, r_sub_ii, r_sub_bb, r_mul_ii, r_mul_si, r_fdiv_ii, r_mod_ii, r_pow_ii, r_neg_i, r_eq_ii, r_eq_ss, r_ord_ii, r_ix_t, r_ix_l, r_ix_r, r_ix_s, r_len_s, r_len_t, r_len_l, r_len_r, r_abs_i, r_int_i, r_int_b, r_list, r_tuple, r_repr_s, spEnds, wkX, List.getElem?_cons_zero, List.getElem?_cons_succ, List.set_cons_zero, List.set_cons_succ, dIsX, dIsXV, dNew, dTryAs]
      refine bcase_f rfl (cls_cmp (k := 7) (by decide +kernel) h6 (by decide +kernel) (fun j M R r => by show R (.bl (decide (j = 7) ^^ false)) M; rw [Bool.xor_false]; exact r) fun M7 s7 => ?_)
      dsimp only [dSeq, dEnd, dSNil, dPass, dBreak, dCont, dNever, dDrop, dRet, dRetN, dIfS, dName, dAsg, dSet, dPar2, dPar3, dGNil, dGCons, dGTup, dSubL, dWhile, dFor, dItSeq, dItR1, dItR2, dItEnum, dVar, dC, dNil, dCons, dTup, dLst, dOp, dUn, dTB, dAndT, dOrT, dNotT, dAndV, dOrV, dNotV, dIf, dChain, dSlice, dNoP, dPart, dCB, dIsi, dCall, dRaise, oEq, oNe, oLt, oLe, oGt, oGe, oIsN, r_add_ii, r_add_ss, r_add_tt, r_add_r, r_add_l, r_add_ib, r_add_bi, r_add_bb, r_sub_ii, r_sub_bb, r_mul_ii, r_mul_si, r_fdiv_ii, r_mod_ii, r_pow_ii, r_neg_i, r_eq_ii, r_eq_ss, r_ord_ii, r_ix_t, r_ix_l, r_ix_r, r_ix_s, r_len_s, r_len_t, r_len_l, r_len_r, r_abs_i, r_int_i, r_int_b, r_list, r_tuple, r_repr_s, spEnds, wkX, List.getElem?_cons_zero, List.getElem?_cons_succ, List.set_cons_zero, List.set_cons_succ, dIsX, dIsXV, dNew, dTryAs]
      refine bcase_f rfl (.here ⟨as4.map D.ref, .inl (s7 _ _ (s6 _ _ hq)), ?_⟩)
      have s67 := s6.trans s7
      have penE : Pen M7 p (n + 3) := by
        obtain ⟨o, ho, po⟩ := pen3
        exact ⟨o, s67 _ _ ho, po⟩
      refine err_loop ?_ as4 ecl 0 M7 _ _ _ (he.sub s67) ecl_at (s67 _ _ hq) penE
      intro δ M8 hl pen8 h1
      match δ, hl, h1 with
      | [t0, t1, t2, t3, t4, t5, t6, t7, t8, t9], _, h1 =>
        have e1 : t1 = some (.ref p) := by simpa using h1
        subst e1
        exact .here (turn33 fin xs (n + 3) M8 _ _ _ _ _ _ _ _ _ pen8 (by omega))
    · exact bcase_t (decide_eq_true (by omega)) ⟨rfl, rfl⟩
theorem p_law33 (ds : List D) (M : DM) (Q : D → DM → Prop) (X : XD) (hl : ds.length = 1) (h : S_law33 ds M Q X) : (b_law33 (wkX X)).run (spEnds Q) (dStart 10 ds) M := by
  obtain ⟨ns, rfl, hn, q⟩ := h
  show (b_law33 _).run (spEnds Q) [some (.lst (ns.map D.int)), none, none, none, none, none, none, none, none, none] M
  dsimp only [b_law33, dSeq, dFor, dSet, dItR1, dC]
  refine .go ⟨ns, rfl, hn, fun p o f po => .here ⟨by decide, ?_⟩⟩
  refine turn33 ?_ _ 0 _ _ _ _ _ _ _ _ _ _ (.now po) (by rw [rngD_len]; decide)
  intro δ M' _
  exact .here (.here (q M'))
end LD

/-! LE4: lambdas without parameters, handed to a def that calls them in a try; laws with such -/
namespace LD
open PySem PySem.Spec PyProof.Rows L2

/-- of the told tables, this one alone -/
def oneTab (M : DM) (d : Str × Option Str) (q : Str) : DM := fun a => match M a with
  | some (.tab d' q') => if d' = d ∧ q' = q then some (.tab d' q') else none
  | some (.raw _) => none
  | o => o
theorem oneTab_sub {M : DM} {d : Str × Option Str} {q : Str} : Sub (oneTab M d q) M := fun a o e => by
  unfold oneTab at e
  split at e
  · rename_i d' q' h
    split at e
    · cases e; exact h
    · cases e
  · cases e
  · exact e
theorem oneTab_tab {M : DM} {d : Str × Option Str} {q : Str} {a : Addr} {d' : Str × Option Str} {q' : Str} (h : oneTab M d q a = some (.tab d' q')) : d' = d ∧ q' = q := by
  unfold oneTab at h
  split at h
  · split at h
    · rename_i z; cases h; exact z
    · cases h
  · cases h
  · rename_i o hn _
    exact (hn _ _ h).elim
theorem oneTab_keep {M : DM} {d : Str × Option Str} {q : Str} {a : Addr} {o : MO} (h : M a = some o) (n : ∀ d' q', o = .tab d' q' → d' = d ∧ q' = q) (r : ∀ u, o ≠ .raw u := by intro _ z; cases z) : oneTab M d q a = some o := by
  unfold oneTab
  rw [h]
  cases o with
  | tab d' q' => exact if_pos (n _ _ rfl)
  | raw u => exact (r u rfl).elim
  | _ => rfl
theorem oneTab_none {M : DM} {d : Str × Option Str} {q : Str} {a : Addr} (h : M a = none) : oneTab M d q a = none := by
  unfold oneTab
  rw [h]

section
variable {K : PySem.W.Frag} {H H1 : Hp} {M : DM} {d : Str × Option Str} {q : Str}
theorem ext_lam (e : LamX.ExtN H H1) : Ext H H1 := ⟨fun a xs h => e a _ h (fun _ z => by cases z), fun a o u h => e a _ h (fun _ z => by cases z)⟩
/-- a lambda was made -/
theorem mrel_lam (m : MRel K H (oneTab M d q)) (e : LamX.ExtN H H1) (t : LamX.TabS H1 (He.cT K d).2 q) : MRel K H1 (oneTab M d q) := fun a o h => by
  have z := m a o h
  cases o with
  | lst ds => obtain ⟨vs, h1, h2⟩ := z; exact ⟨vs, e _ _ h1 (fun _ z => by cases z), dens_ext (ext_lam e) _ _ h2⟩
  | dct kvs => obtain ⟨vs, h1, h2⟩ := z; exact ⟨vs, e _ _ h1 (fun _ z => by cases z), denKV_ext (ext_lam e) _ _ h2⟩
  | rol ds => obtain ⟨u, vs, h1, h2⟩ := z; exact ⟨u, vs, e _ _ h1 (fun _ z => by cases z), dens_ext (ext_lam e) _ _ h2⟩
  | exc x => exact z.elim (fun z => .inl (e _ _ z fun _ y => by unfold ExO at y; cases y)) fun z => .inr (e _ _ z fun _ y => by unfold ExI at y; cases y)
  | tab d' q' =>
    obtain ⟨rfl, rfl⟩ := oneTab_tab h
    obtain ⟨h0, _⟩ := z
    exact ⟨h0, h0 ▸ t⟩
  | raw u =>
    exfalso
    unfold oneTab at h
    split at h
    · split at h <;> cases h
    · cases h
    · rename_i o hn hr
      exact hr _ h
end

/-! ### x(lambda: f(..)), x a def that calls what it got in a try, and tells a word -/
/-- what such a def makes of the lambda's reading -/
def TTw (K : PySem.W.Frag) (cs : List Str) (wd : Str → Str) : (XK → Hp → VK → Prop) → Hp → VK → Prop := fun tl H Q => ∀ (E' : XK) (Q' : VK),
  (∀ cls d H', (d = none ∧ ∃ y M', cls = .ref (He.ga K y) ∧ y ∈ cs ∧ Ext H H' ∧ MRel K H' M' ∧ ∀ H'', Ext H' H'' → MRel K H'' M' → Q (.str (wd y)) H'') → E' cls d H') →
  (∀ v H', (∃ M', Ext H H' ∧ MRel K H' M' ∧ ∀ H'', Ext H' H'' → MRel K H'' M' → Q (.str "fine") H'') → Q' v H') → tl E' H Q'
def dLamW (sp : DSp) (t : DA) (d : Str × Option Str) (q : Str) (cs : List Str) (wd : Str → Str) : DE where
  run δ M Q := (∃ P, M P = some (.tab d q)) ∧ t.run δ (oneTab M d q) fun ds M1 => ∃ (Q0 : D → DM → Prop) (X0 : XD), (∀ e M', Q0 e M' → Q (.str "fine") M') ∧ (∀ y M', X0 y M' → y ∈ cs ∧ Q (.str (wd y)) M') ∧ GhV ds M1 fun ds' M2 => sp ds' M2 Q0 X0
  mono h k := ⟨h.1, t.mono h.2 fun ds M1 ⟨Q0, X0, h1, h2, h3⟩ => ⟨Q0, X0, fun e M' q => k _ _ (h1 e M' q), fun y M' q => ⟨(h2 y M' q).1, k _ _ (h2 y M' q).2⟩, h3⟩⟩
section
variable {X : Cx} {x a f : Str} {g : Addr} {k : Nat} {pg : Arguments} {bg : List Stmt} {sg : Scope} {Ng : List Str} {gfd : FuncData} {d : Str × Option Str} {q : Str} {params : Arguments} {scope : Scope} {e : Expr} {es : List Expr} {t : DA} {ps : List Str} {sp : DSp} {cs : List Str} {wd : Str → Str} {p lpos pf pc pos : Pos}
theorem qe_lamW (Fg : FunD X.K x x pg bg sg [] [] g gfd) (hg : Gl X x) (hm : X.mg x = some (.ref g)) (Bg : L2.Binds X.K gfd [a] []) (Sg : FnScope Ng [a] sg) (hNg : Ng[0]? = some a) (hva : Vis sg a)
    (hG : ∀ (cdg : Value), LamX.GivesTo X Ng x sg g cdg bg a q (TTw X.K cs wd)) (TB : LamX.TabB X.base X.mg (He.cT X.K d).1 (He.cT X.K d).2) (hcode : X.env.code = .ref (He.cT X.K d).1) (hq : X.env.qual ++ "<lambda>" = q) (hr : Rm gb (k + 2) X.A) (L : LamX.LamS X.env.scope scope)
    (gy : ∀ y ∈ cs, X.mg y = some (.ref (He.ga X.K y))) (G : Good false X.prog X.w X.K X.mg X.base f k ps sp) (hgf : ∀ (A : Around) (outer : List Env) (s : Shared) (H : Hp) (E : XK) (f' c' : Addr), Gl (LamX.lamCx X A outer s H E scope f' c') f)
    (ha : ∀ (A : Around) (outer : List Env) (s : Shared) (H : Hp) (E : XK) (f' c' : Addr), QA (LamX.lamCx X A outer s H E scope f' c') (e :: es) t) (hi : t.Is ps.length)
    (hdef : defaultsOf params X.env = ([], []) := by rfl) (hbind : ∀ (q : Str) (cl : List (Str × Addr)) (pm cv ctv : Value), bindArgs (PySem.W.kla_fn "<lambda>" q params (.Call (.Name f pf) (e :: es) [] pc) scope cl pm cv ctv) ⟨[], []⟩ = pure [] := by intros; rfl)
    (hn : (e :: es).length = ps.length := by rfl) (hdb : (f == ("__debug__" : Str)) = false := by decide) (he : ∀ env, starEach (e :: es) env = (false, eval e env) :: starEach es env := by intro _; rfl) (hpl : ∀ env, (backTo pc (starEach es env)).any (·.1) = false := by intro _; rfl)
    (hdx : (x == ("__debug__" : Str)) = false := by decide) (hd : (a == ("__debug__" : Str)) = false := by decide) (hcd : (a == ("__classdict__" : Str)) = false := by decide) :
    QE X (.Call (.Name x p) [.Lambda params (.Call (.Name f pf) (e :: es) [] pc) scope lpos] [] pos) (dLamW sp t d q cs wd) := by
  obtain ⟨oc, od, dV, kV, doc, pm, an, cdv, ct, osl, rfl, lk, hcg, _, _⟩ := Fg.ex
  have T1 : ((He.cT X.K d).2, X.env.qual ++ "<lambda>") ∈ [((He.cT X.K d).2, X.env.qual ++ "<lambda>")] := List.mem_cons_self
  refine PE.imp (LamX.pe_lamcall (T := [((He.cT X.K d).2, X.env.qual ++ "<lambda>")]) (t := fun E => lCallS X.K X.mg sp t (fun cls d _ H' => E cls d H')) hg hm Fg.kp lk hcg Bg Sg hNg hva (TT := TTw X.K cs wd) (by rw [hq]; exact hG cdv) TB hcode T1
    (fun p hp _ => by rw [List.mem_singleton.mp hp]) hr.room L hdef hbind (fun A outer s H E f' c' hr2 => ?_) hdx hd hcd) fun σ H Q z => ?_
  · exact pe_callW (X := LamX.lamCx X A outer s H E scope f' c') (gb := false) G ⟨hr2, fun z => nomatch z⟩ (takes_of (E := E) rfl rfl rfl rfl) (hgf A outer s H E f' c') (ha A outer s H E f' c') hi hn hdb (he _) (hpl _)
  · obtain ⟨δ, M, sr, m, ⟨P, hP⟩, z⟩ := z
    have m1 := m.sub (oneTab_sub (d := d) (q := q))
    obtain ⟨h0, tab⟩ : IsTab X.K H P d q := m P _ hP
    subst h0
    have tabs : LamX.Tabs [((He.cT X.K d).2, X.env.qual ++ "<lambda>")] H := fun p hp => by
      rw [List.mem_singleton.mp hp]
      show LamX.TabS H _ (X.env.qual ++ "<lambda>")
      rw [hq]
      exact tab
    refine ⟨tabs, fun H1 eN tb E' Q' hE hQ => ?_⟩
    have tab1 : LamX.TabS H1 (He.cT X.K d).2 q := by
      have y := tb _ T1
      rw [← hq]
      exact y
    have x1 := ext_lam eN
    refine ⟨δ, _, sr.ext x1, mrel_lam m1 eN tab1, t.mono z fun ds M1 ⟨Q0, X0, h1, h2, h3⟩ => ⟨Q0, X0, fun e M' q0 v H' x' m' _ => ?_, fun y M' C H' q0 gC x' m' => ?_, h3⟩⟩
    · refine hQ _ _ ?_
      exact ⟨M', x', m', fun H'' x'' m'' => h1 e M' q0 _ H'' ((x1.trans x').trans x'') m'' dstr⟩
    · obtain ⟨hy, q1⟩ := h2 y M' q0
      have eC : C = He.ga X.K y := by
        have z := gC.symm.trans (gy y hy)
        cases z
        rfl
      subst eC
      refine hE _ _ _ ?_
      exact ⟨rfl, y, M', rfl, hy, x', m', fun H'' x'' m'' => q1 _ H'' ((x1.trans x').trans x'') m'' dstr⟩
end

/-! ### the def that calls what it got -/
section
variable {X : Cx} {x a n m q : Str} {cs : List Str} {wd : Str → Str} {Ng : List Str} {sg : Scope} {g : Addr} {cdg : Value} {rest : List Stmt} {tr : DS} {pm0 pn0 pp0 p1 p2 pe np pm pn2 pa pos' pos : Pos} {kc : Nat}
theorem gives_word (E : Errs X.K cs) (gL : X.mg "LaterError" = some (.ref (He.ga X.K "LaterError"))) (hN : Ng.Nodup) (h0 : Ng[0]? = some a) (h1 : Ng[1]? = some m) (h2 : Ng[2]? = some n) (km : sg.names.lookup m = some .local) (kn : sg.names.lookup n = some .local) (kl : sg.names.lookup ("LaterError" : Str) = some .globalImplicit) (hdn : (n == ("__debug__" : Str)) = false) (hcn : (n == ("__classdict__" : Str)) = false)
    (hrest : ∀ (s : Shared) (H : Hp), QSs ((cxOf C8.CX0 X.prog X.w X.K X.mg X.base Ng x sg g cdg X.A X.stack s H C8.E0).nox) rest tr)
    (fine : ∀ (E : DEnds) (δ : DSt) (M : DM), δ.length = Ng.length → δ[1]? = some (some .non) → (∀ M'', Sub M M'' → E.rt (.str "fine") M'') → tr.run E δ M)
    (word : ∀ (E : DEnds) (δ : DSt) (M : DM) (b : Addr) (y : Str), δ.length = Ng.length → δ[1]? = some (some (.ref b)) → M b = some (.exc y) → y ∈ cs → (∀ M'', Sub M M'' → E.rt (.str (wd y)) M'') → tr.run E δ M) :
    LamX.GivesTo X Ng x sg g cdg (.Assign [.Name m pm0] (.Constant .none kc pn0) pp0 :: .Try [.Expr (.Call (.Name a p1) [] [] p2) pe] [.ExceptHandler (some (.Name "LaterError" np)) (some n) [.Assign [.Name m pm] (.Name n pn2) pa] pos'] [] [] pos :: rest) a q (TTw X.K cs wd) := by
  intro f c' s H Q tl act hc h
  have len : 2 < Ng.length := (List.getElem?_eq_some_iff.mp h2).1
  refine ⟨_, pss_cons (ps_set (i := 1) hN h1 (.inl km) pe_non rfl (.inl rfl)) (pss_cons (ps_tryK (X := (cxOf C8.CX0 X.prog X.w X.K X.mg X.base Ng x sg g cdg X.A X.stack s H C8.E0).nox) (i := 2) (j := 1)
      (te := fun W σZ HZ Q => ∃ Ech : XK, (∀ cls d σ' H', Ech cls d H' → W cls d σ' H') ∧ σZ[0]? = some (some (.ref f)) ∧ HZ c' = some (LamX.CodeO c' q) ∧ tl Ech HZ Q) E rfl rfl rfl hN h2 (by decide) kn gL kl (fun W pn xe tk => ?_) (fun b pn => ?_) rfl) (hrest s H)), ?_⟩
  · refine ⟨fun pins s' σ H' Q I ⟨Ech, hW, e1, e2, e3⟩ => ?_⟩
    exact (act W pn xe Ech p1 p2 tk hW).run pins s' σ H' Q I ⟨e1, e2, e3⟩
  · exact qss_one (qs_set hN h1 (.inl km) (qe_var (pe_var h2 (.inl kn) hdn hcn)) rfl (.inl rfl))
  · -- the run, from the lambda's reading
    have l0 : (L2.start Ng [V.ref f]).length = Ng.length := by
      unfold L2.start
      rw [List.length_append, List.length_map, List.length_replicate]
      show 1 + (Ng.length - 1) = Ng.length
      omega
    have nones : ∀ (K : PySem.W.Frag) (H : Hp) (σ : L2.St), σ.length = Ng.length → SRel K H σ (List.replicate Ng.length none) := fun K H σ hl => ⟨by rw [hl, List.length_replicate], fun i d e => by
      rw [List.getElem?_replicate] at e
      split at e <;> cases e⟩
    show ∃ Ech : XK, _
    refine ⟨fun cls d H' => ∀ σ', _, fun cls d σ' H' z => z σ', ?_, hc, h _ _ (fun cls d H' z σ' => ?_) fun v H' z => ?_⟩
    · show ((L2.start Ng [V.ref f]).set 1 (some V.non))[0]? = _
      rw [List.getElem?_set_ne (by decide)]
      rfl
    · obtain ⟨rfl, y, M', rfl, hy, x', m', fin⟩ := z
      refine ⟨rfl, y, M', List.replicate Ng.length none, rfl, hy, fun hl => nones _ _ _ hl, List.length_replicate, x', m', fun b hb σ2 H2 x2 s2 m2 => ?_⟩
      refine ⟨_, _, s2, m2, word _ _ _ b y (by simp) ?_ put_same hy fun M'' sub v H'' x'' m'' dn => ?_⟩
      · rw [List.getElem?_set_ne (by decide), List.getElem?_set_self (by rw [List.length_replicate]; omega)]
      · rw [lstr dn]
        exact fin H'' (x2.trans x'') (m''.sub ((Sub.new hb).trans sub))
    · obtain ⟨M', x', m', fin⟩ := z
      have s1 : SRel X.K H' ((L2.start Ng [V.ref f]).set 1 (some V.non)) ((List.replicate Ng.length none).set 1 (some .non)) := (nones X.K H' _ l0).set dnon 1
      refine ⟨_, _, s1, m', fine _ _ _ (by simp) ?_ fun M'' sub v H'' x'' m'' dn => ?_⟩
      · rw [List.getElem?_set_self (by rw [List.length_replicate]; omega)]
      · rw [lstr dn]
        exact fin H'' x'' (m''.sub sub)
end
end LD

/-! LE5: the end of a law whose def makes lambdas -/
namespace LD
open PySem PySem.Spec PyProof.Rows L2

/-- .. and the def's table -/
def scrT (t : Bool) (a : Addr) (u : HO) (P : Addr) : Hp := fun b => if b = P then some (.tbl #[]) else scrH t a u b
theorem scrT_P {t : Bool} {a P : Addr} {u : HO} : scrT t a u P P = some (.tbl #[]) := if_pos rfl
theorem scrT_ne {t : Bool} {a b P : Addr} {u : HO} (h : b ≠ P) : scrT t a u P b = scrH t a u b := if_neg h
section
variable {P : Program} {w : World} {K : PySem.W.Frag} {mg mb : Str → Option Value} {k : Nat} {fa a T : Addr} {c : Addr} {fd : FuncData} {x : Str} {sp : DSp} {s : Shared} {vs : List Value} {ns : List Int} {d : Str × Option Str} {q : Str}
theorem law_runT (KX : K.In s.heap) (hns : s.heap.Ns mainGlobals mg) (hb : s.heap.Ns builtinsNs mb) (hbb : ∀ y : Str, y ≠ "__name__" → mb y = bootBuiltins y) (hlim : s.heap.NoLimit) (hg : s.gens = #[])
    (hT : s.heap.get? (He.cT K d).2 = some { cls := .none, data := .fields #[] }) (nT : K.lookup (He.cT K d).2 = none) (hC : PySem.W.codeHdIn K (He.cT K d).1 (He.cT K d).2 = true)
    (hbm : ∃ (bm : Addr) (ob : Obj), mg "__builtins__" = some (.ref bm) ∧ bm ≠ builtinsNs ∧ s.heap.get? bm = some ob ∧ ob.cls = .type "module" ∧ ob.dict = some builtinsNs ∧ ob.data = .plain)
    (ha : s.heap.get? a = some { cls := .type "list", data := .seq vs.toArray }) (hi : IntsAre vs ns) (hl : ns.length ≤ sizeLine) (hr : Rm gb k callerA)
    (F : ∀ base : Heap, K.In base → base.Ns mainGlobals mg → LamX.TabB base mg (He.cT K d).1 (He.cT K d).2 → FnG gb P w K mg base k fa fd [x] (lSp K mg 1 sp)) (hbind : ∀ (s : Shared) (u : Value), BindsTo s fd ⟨[u], []⟩ [(x, u)])
    (hsp : sp [.lst (ns.map D.int)] (put (fun _ => none) (He.cT K d).2 (.tab d q)) (fun d _ => d = .bl true) xNo) :
    codeAny (model P w) callerA (.call (.ref fa) ⟨[.ref a], []⟩) (fun r s' => r = .ok (.ret (.bool true)) ∧ OldK s.heap s'.heap ∧ s'.os = s.os ∧ AllBare s'.gens) s := by
  generalize eT : (He.cT K d).2 = T at hT nT hC F hsp
  let ob : Obj := { cls := .type "list", data := .seq vs.toArray }
  let u : HO := .frz ob (.lst (ns.map V.int))
  have rv := vals_ints hi
  have hlen := hi.length
  have aT : a ≠ T := fun z => by
    rw [z, hT] at ha
    cases ha
  have go : ∀ t : Bool, (t = true → K.lookup a = none) → (t = false → K.lookup a = some ob) →
      codeAny (model P w) callerA (.call (.ref fa) ⟨[.ref a], []⟩) (fun r s' => r = .ok (.ret (.bool true)) ∧ OldK s.heap s'.heap ∧ s'.os = s.os ∧ AllBare s'.gens) s := by
    intro t ht hf
    have cases_ : ∀ {b : Addr} {v : HO}, scrT t a u T b = some v → (b = T ∧ v = .tbl #[]) ∨ (b = a ∧ t = true ∧ v = u) := fun {b v} e => by
      by_cases hbT : b = T
      · subst hbT
        rw [scrT_P] at e
        exact .inl ⟨rfl, (Option.some.inj e).symm⟩
      · rw [scrT_ne hbT] at e
        exact .inr (scrH_cases e)
    have ok : HOk P w (scrT t a u T) s.heap := by
      intro b v e
      rcases cases_ e with ⟨rfl, rfl⟩ | ⟨rfl, _, rfl⟩
      · exact hT
      · exact ⟨ha, by rw [List.length_map]; exact hl, vs, _, rv, ha⟩
    have free : ∀ {b : Addr} {o : Obj}, s.heap.get? b = some o → (∀ xs n, o.data ≠ .seq xs n) → o.data ≠ .fields #[] → scrT t a u T b = none := by
      intro b o e h1 h2
      cases z : scrT t a u T b with
      | none => rfl
      | some v =>
        exfalso
        rcases cases_ z with ⟨rfl, _⟩ | ⟨rfl, _, _⟩
        · rw [hT] at e; cases e; exact h2 rfl
        · rw [ha] at e; cases e; exact h1 _ _ rfl
    have nsB : ∀ {b : Addr} {m : Str → Option Value}, s.heap.Ns b m → (hidT s.heap (scrT t a u T)).Ns b m := fun ⟨o, es, ep, e, dd, r⟩ => ⟨o, es, ep, hidT_get e (free e (fun _ _ z => by rw [dd] at z; cases z) (fun z => by rw [dd] at z; cases z)), dd, r⟩
    have KB : K.In (hidT s.heap (scrT t a u T)) := by
      intro b o e
      refine hidT_get (KX b o e) ?_
      cases z : scrT t a u T b with
      | none => rfl
      | some v =>
        rcases cases_ z with ⟨rfl, _⟩ | ⟨rfl, ht', _⟩
        · rw [nT] at e; cases e
        · rw [ht ht'] at e; cases e
    have md : Mod K mg (hidT s.heap (scrT t a u T)) := ⟨KB, nsB hns, ⟨mb, nsB hb, hbb⟩, hlim.elim fun mc z => ⟨mc, nsB z.1, z.2⟩⟩
    have e0 : Env0 P w K mg (hidT s.heap (scrT t a u T)) callerA [] s (scrT t a u T) :=
      ⟨rfl, md, fun b o e => of_hidT e, Nat.le_of_eq (hidT_size _ _), trivial, fun b hb => (List.not_mem_nil hb).elim, ok, .of_eq hg⟩
    have TB : LamX.TabB (hidT s.heap (scrT t a u T)) mg (He.cT K d).1 T := by
      obtain ⟨bm, bo, b1, b2, b3, b4, b5, b6⟩ := hbm
      obtain ⟨og, esg, epg, eg, dg, _⟩ := id hns
      refine ⟨PySem.W.codeHd_of_K KB hC, ⟨bm, bo, b1, b2, fun z => ?_, fun z => ?_, hidT_get b3 (free b3 (fun _ _ z => by rw [b6] at z; cases z) (fun z => by rw [b6] at z; cases z)), b4, b5, b6⟩, fun z => ?_⟩
      · rw [z, eg] at b3; cases b3; rw [dg] at b6; cases b6
      · rw [z, hT] at b3; cases b3; cases b6
      · rw [z, hT] at eg; cases eg; cases dg
    have dn : den K (scrT t a u T) (.ref a) (.lst (ns.map D.int)) := by
      rw [den]
      refine ⟨a, ns.map V.int, rfl, ?_, dens_ints⟩
      cases t with
      | true => exact .inl ⟨ob, by rw [scrT_ne aT]; exact scrH_t⟩
      | false => exact .inr ⟨ob, vs.toArray, 0, hf rfl, rfl, rfl, rfl, by rw [List.size_toArray, hlen]; exact hl, rv⟩
    have mr : MRel K (scrT t a u T) (put (fun _ => none) T (.tab d q)) := fun b o e => by
      by_cases hbT : b = T
      · subst hbT
        rw [put_same] at e
        cases e
        exact ⟨eT.symm, LamX.TabS.nil scrT_P⟩
      · rw [put_ne hbT] at e; cases e
    have hS : lSp K mg 1 sp [.ref a] (scrT t a u T) (fun v _ => v = .bl true) fun _ _ _ => False := by
      refine ⟨rfl, _, _, dens_cons dn dens_nil, mr, _, _, fun d M q v H' _ _ d' => ?_, fun _ _ q => q.elim, hsp⟩
      subst q
      exact lbl d'
    refine codeAny_mono ((F _ KB (nsB hns) TB).run (args := ⟨[.ref a], []⟩) (us := [.ref a]) (vs := [.ref a]) hr e0 (hbind s _) (.cons rfl .nil) hS) fun r s' h => ?_
    cases r with
    | error e => exact h.elim fun _ z => z.elim fun _ z => z.elim fun _ z => z.elim fun _ z => z.elim fun _ z => z.2.2.2.2.2.2.2.elim
    | ok fl =>
      cases fl with
      | next => exact h.elim
      | brk => exact h.elim
      | cont => exact h.elim
      | ret y =>
        obtain ⟨v, H', os, bare, un, ok', r', z⟩ := h
        subst z
        cases r'
        have same : ∀ b o, b ≠ T → s.heap.get? b = some o → s'.heap.get? b = some o := fun b o nb e => by
          cases z : scrT t a u T b with
          | none => exact un.keep b o e z List.not_mem_nil List.not_mem_nil
          | some v =>
            rcases cases_ z with ⟨z1, _⟩ | ⟨rfl, _, rfl⟩
            · exact (nb z1).elim
            · have e1 := (ok' _ _ (un.frzs _ _ _ z)).1
              rw [ha] at e
              cases e
              exact e1
        obtain ⟨more, gT⟩ := un.tbls T #[] scrT_P
        have atT := ok' T _ gT
        refine ⟨rfl, ⟨fun b o e => ?_, fun b o e => ?_⟩, os, bare⟩
        · by_cases hbT : b = T
          · subst hbT
            rw [hT] at e
            cases e
            exact .inr (.inl ⟨((PySem.W.codeHd_of_K KX hC).tab hT).isCodeTable, rfl, #[], more, rfl, atT⟩)
          · exact .inl (same b o hbT e)
        · by_cases hbT : b = T
          · subst hbT
            exact ⟨_, atT⟩
          · exact ⟨o, same b o hbT e⟩
  cases hk : K.lookup a with
  | none => exact go true (fun _ => hk) fun z => nomatch z
  | some o =>
    have e := KX a o hk
    rw [ha] at e
    cases e
    exact go false (fun z => nomatch z) fun _ => hk
end
/-- a law, from its def's promise -/
theorem law_endT {l : PySem.W.OpenLaw} {n k : Nat} {q : Program} {loose : List Str} {XP : (Str → Option Value) → Heap → Prop} {YP : World → Heap → Prop} {d : DefRec} {x : Str}
    (hn : l.most = some n) (hn2 : n ≤ sizeLine) (hdf : d.params.defaults = []) (hr : Rm gb k callerA)
    (F : ∀ (w : World) (mg : Str → Option Value) (fa : Addr) (h : Heap), YP w h → h.Ns mainGlobals mg → mg d.name = some (.ref fa) →
      ∃ (K : PySem.W.Frag) (fd : FuncData) (sp : DSp) (dd : Str × Option Str) (qq : Str), K.In h ∧ (∀ (s : Shared) (u : Value), BindsTo s fd ⟨[u], []⟩ [(x, u)]) ∧
        (h.get? (He.cT K dd).2 = some { cls := .none, data := .fields #[] } ∧ K.lookup (He.cT K dd).2 = none ∧ PySem.W.codeHdIn K (He.cT K dd).1 (He.cT K dd).2 = true) ∧
        (∀ ns : List Int, ns.length ≤ n → sp [.lst (ns.map D.int)] (put (fun _ => none) (He.cT K dd).2 (.tab dd qq)) (fun d _ => d = .bl true) xNo) ∧
        ∀ base : Heap, K.In base → base.Ns mainGlobals mg → LamX.TabB base mg (He.cT K dd).1 (He.cT K dd).2 → FnG gb l.prog w K mg base k fa fd [x] (lSp K mg 1 sp)) :
    PySem.W.WalkO q loose XP YP l.row.toRowW d [] (fun f vs => PySem.call f vs) := by
  apply Att.attach_callB hn hdf
  intro w s₀ s₁ mg mb fa o pm cd doc a vs ns G Y ho hd hcd hmg hobj hints hlen hbits hg
  obtain ⟨K, fd, sp, dd, qq, KX, hb, ⟨hT, nT, hC⟩, hsp, hF⟩ := F w mg fa _ Y G.T.g hmg
  exact law_runT KX G.T.g G.T.b G.T.builtins G.T.nolimit hg hT nT hC G.T.bmain hobj hints (Nat.le_trans hlen hn2) hr hF hb (hsp ns hlen)
end LD

/-! LE6: in, list methods, a name bound to a list comprehension -/
namespace LD
open PySem PySem.Spec PyProof.Rows L2

/-! ### flat values -/
def flatD : D → Bool
  | .non => true
  | .bl _ => true
  | .int _ => true
  | .str _ => true
  | _ => false
def flV : D → V
  | .bl b => .bl b
  | .int i => .int i
  | .str x => .str x
  | _ => .non
section
variable {K : PySem.W.Frag} {H : Hp}
theorem flat_den {v : V} {d : D} (h : den K H v d) (f : flatD d = true) : v = flV d ∧ flatV v = true := by
  cases d with
  | non => rw [den] at h; subst h; exact ⟨rfl, rfl⟩
  | bl b => rw [den] at h; subst h; exact ⟨rfl, rfl⟩
  | int b => rw [den] at h; subst h; exact ⟨rfl, rfl⟩
  | str b => rw [den] at h; subst h; exact ⟨rfl, rfl⟩
  | _ => cases f
theorem flats_den : ∀ {vs : List V} {ds : List D}, dens K H vs ds → ds.all flatD = true → vs = ds.map flV ∧ vs.all flatV = true
  | vs, [], h, _ => by rw [dens] at h; subst h; exact ⟨rfl, rfl⟩
  | vs, d :: ds, h, f => by
    rw [dens] at h
    obtain ⟨v, r, e, h1, h2⟩ := h
    rw [List.all_cons, Bool.and_eq_true] at f
    obtain ⟨e1, f1⟩ := flat_den h1 f.1
    obtain ⟨e2, f2⟩ := flats_den h2 f.2
    subst e
    exact ⟨by rw [List.map_cons, ← e1, ← e2], by rw [List.all_cons, f1, f2]; rfl⟩
end
/-- x in ys, ys a list or tuple of flat values -/
def oIn (neg : Bool) : DO2 where
  run x y M Q := ∃ ds, isSeq M y ds ∧ flatD x = true ∧ ds.all flatD = true ∧ Q (.bl (inV (flV x) (ds.map flV) ^^ neg)) M
  mono h k := let ⟨ds, h1, h2, h3, h4⟩ := h; ⟨ds, h1, h2, h3, k _ _ h4⟩
section
variable {X : Cx}
theorem o_in : O2 X (compareOp .In) (oIn false) := by
  intro pins s σ H x y v u Q I rx ry h
  obtain ⟨dx, dy, M, hx, hy, m, ds, h1, h2, h3, q⟩ := h
  obtain ⟨a, vs, rfl, sq, dv⟩ := isSeq_sq m hy h1
  obtain ⟨e1, f1⟩ := flat_den hx h2
  obtain ⟨e2, f2⟩ := flats_den dv h3
  have q2 := q _ _ (.refl H) m dbl
  rw [Bool.xor_false, ← e1, ← e2] at q2
  exact op_in_seq pins s σ H x _ v u Q I rx ry ⟨a, vs, rfl, sq, f1, f2, q2⟩
theorem o_notin : O2 X (compareOp .NotIn) (oIn true) := by
  intro pins s σ H x y v u Q I rx ry h
  obtain ⟨dx, dy, M, hx, hy, m, ds, h1, h2, h3, q⟩ := h
  obtain ⟨a, vs, rfl, sq, dv⟩ := isSeq_sq m hy h1
  obtain ⟨e1, f1⟩ := flat_den hx h2
  obtain ⟨e2, f2⟩ := flats_den dv h3
  have q2 := q _ _ (.refl H) m dbl
  rw [Bool.xor_true, ← e1, ← e2] at q2
  exact op_notIn_seq pins s σ H x _ v u Q I rx ry ⟨a, vs, rfl, sq, f1, f2, q2⟩
end

/-! ### methods of lists -/
structure DMt where
  run : D → List D → DM → (D → DM → Prop) → Prop
  mono : ∀ {x : D} {xs : List D} {M : DM} {Q Q' : D → DM → Prop}, run x xs M Q → (∀ d M', Q d M' → Q' d M') → run x xs M Q'
def lM (K : PySem.W.Frag) (r : DMt) : V → List V → Hp → VK → Prop := fun x xs H Q => ∃ d ds M, den K H x d ∧ dens K H xs ds ∧ MRel K H M ∧ r.run d ds M (lQ K H Q)
abbrev OM (X : Cx) (id : String) (r : DMt) : Prop := MtR X id (lM X.K r)
def dMethL (r : DMt) (to : DE) (t : DA) : DE where
  run δ M Q := to.run δ M fun d M1 => (∃ ds, isL M1 d ds) ∧ t.run δ M1 fun xs M2 => r.run d xs M2 Q
  mono h k := to.mono h fun d M1 q => ⟨q.1, t.mono q.2 fun xs M2 q => r.mono q k⟩
def mAppend : DMt where
  run x xs M Q := match x, xs with
    | .ref p, [y] => ∃ ds, M p = some (.lst ds) ∧ ds.length < sizeLine ∧ Q .non (put M p (.lst (ds ++ [y])))
    | _, _ => False
  mono {x xs M Q Q'} h k := by
    revert h
    split <;> intro h
    · obtain ⟨ds, h1, h2, h3⟩ := h; exact ⟨ds, h1, h2, k _ _ h3⟩
    · exact h
def mIndex : DMt where
  run x xs M Q := match xs with
    | [y] => ∃ (ds : List D) (j : Nat) (z : D), isL M x ds ∧ flatD y = true ∧ ds.all flatD = true ∧ ds[j]? = some z ∧ eqV (flV z) (flV y) = true ∧ (∀ (m : Nat) (z' : D), m < j → ds[m]? = some z' → eqV (flV z') (flV y) = false) ∧ Q (.int (j : Nat)) M
    | _ => False
  mono {x xs M Q Q'} h k := by
    revert h
    split <;> intro h
    · obtain ⟨ds, j, z, h1, h2, h3, h4, h5, h6, h7⟩ := h; exact ⟨ds, j, z, h1, h2, h3, h4, h5, h6, k _ _ h7⟩
    · exact h
def mCountB : DMt where
  run x xs M Q := match xs with
    | [.bl k] => ∃ bs : List Bool, isL M x (bs.map D.bl) ∧ Q (.int (bs.count k : Nat)) M
    | _ => False
  mono {x xs M Q Q'} h k := by
    revert h
    split <;> intro h
    · obtain ⟨bs, h1, h2⟩ := h; exact ⟨bs, h1, k _ _ h2⟩
    · exact h
section
variable {X : Cx}
theorem m_append : OM X "list.append" mAppend := by
  intro pins s σ H x xs v us Q I rx rxs h
  obtain ⟨d, ds, M, hd, hds, m, q⟩ := h
  dsimp only [mAppend] at q
  split at q
  · obtain ⟨es, h1, h2, h3⟩ := q
    rw [den] at hd
    subst hd
    obtain ⟨y, rfl, dy⟩ := dens1 hds
    obtain ⟨vs, h4, h5⟩ := m _ _ h1
    have x3 : Ext H (upd H _ (.lst (vs ++ [y]))) := .put h4 trivial
    exact mt_append pins s σ H _ _ v us Q I rx rxs ⟨_, vs, y, rfl, rfl, h4, by rw [dens_length h5]; exact h2, h3 _ _ x3 (m.put (u := .lst (es ++ [_])) h4 trivial ⟨_, upd_same, dens_append (dens_ext x3 _ _ h5) (dens_cons (den_ext x3 _ _ dy) dens_nil)⟩) dnon⟩
  · exact q.elim
theorem m_index : OM X "list.index" mIndex := by
  intro pins s σ H x xs v us Q I rx rxs h
  obtain ⟨d, ds, M, hd, hds, m, q⟩ := h
  dsimp only [mIndex] at q
  split at q
  · obtain ⟨es, j, z, h1, h2, h3, h4, h5, h6, h7⟩ := q
    obtain ⟨y, rfl, dy⟩ := dens1 hds
    obtain ⟨a, vs, rfl, sq, dv⟩ := isL_rd m hd h1
    obtain ⟨e1, f1⟩ := flat_den dy h2
    obtain ⟨e2, f2⟩ := flats_den dv h3
    subst e1 e2
    refine mt_index pins s σ H _ _ v us Q I rx rxs ⟨a, es.map flV, _, j, flV z, rfl, rfl, sq, f1, f2, by rw [List.getElem?_map, h4]; rfl, h5, fun k z' hk hz => ?_, h7 _ _ (.refl H) m dint⟩
    rw [List.getElem?_map] at hz
    cases e : es[k]? with
    | none => rw [e] at hz; cases hz
    | some w => rw [e] at hz; cases hz; exact h6 k w hk e
  · exact q.elim
theorem countP_eqU {x : V} : ∀ {xs : List V} {us : List Value}, L2.Vals xs us → xs.all flatV = true → us.countP (eqU x) = xs.countP fun y => eqV y x
  | _, _, .nil, _ => rfl
  | y :: xs, u :: us, .cons r t, f => by
    rw [List.all_cons, Bool.and_eq_true] at f
    rw [List.countP_cons, List.countP_cons, countP_eqU t f.2, eqU_of r f.1]
theorem count_bools (k : Bool) : ∀ bs : List Bool, ((bs.map D.bl).map flV).countP (fun y => eqV y (.bl k)) = bs.count k
  | [] => rfl
  | b :: bs => by
    rw [List.map_cons, List.map_cons, List.countP_cons, List.count_cons, count_bools k bs]
    rfl
theorem m_countB : OM X "list.count" mCountB := by
  intro pins s σ H x xs v us Q I rx rxs h
  obtain ⟨d, ds, M, hd, hds, m, q⟩ := h
  dsimp only [mCountB] at q
  split at q
  · rename_i k
    obtain ⟨bs, h1, q⟩ := q
    obtain ⟨y, rfl, dy⟩ := dens1 hds
    cases lbl dy
    obtain ⟨a, vs, rfl, sq, dv⟩ := isL_rd m hd h1
    obtain ⟨e2, f2⟩ := flats_den dv (by rw [List.all_map]; exact List.all_eq_true.mpr fun _ _ => rfl)
    subst e2
    obtain ⟨u, rfl, ru⟩ := vals1 rxs
    cases rx
    cases ru
    obtain ⟨its, rv, ⟨⟨cl, dd, data, sl⟩, n, ho, hcl, hdn, hda⟩, hlen⟩ := I.list sq
    simp only at hcl hda
    subst hcl hda
    refine call_meets PySem.F.slot_list_count ⟨_, ho, rfl⟩ PySem.F.entry_list_count (PySem.F.args_list_count_2 _ _) (SeqAt.list_countAt a its.toArray n dd sl (.bool k) (eqU (.bl k))) ⟨ho, fun y hy => mem_eqAt (x := .bl k) rfl rfl rv f2 y (by simpa using hy), ?_⟩
    refine ⟨.int (bs.count k : Nat), H, I.tok _, ⟨s.toks, ?_⟩, q _ _ (.refl H) m dint⟩
    rw [show its.toArray.toList = its from rfl, countP_eqU rv f2, count_bools]
  · exact q.elim
variable {o e : Expr} {es : List Expr} {to : DE} {t : DA} {name : Str} {apos cpos : Pos} {id : String} {r : DMt}
theorem qe_methL (slot : Slot "list" name id) (hty : typeOf (.builtin id) = pure (.type "method_descriptor")) (hm : OM X id r) (ho : QE X o to) (ha : QA X (e :: es) t)
    (hbase : attributeBase o name X.env (eval o X.env) = eval o X.env := by rfl)
    (hfew : ((backTo cpos (starEach (e :: es) X.env)).all (fun x => !x.1) && (backToKw cpos (keywordEach [] X.env)).all (fun x => x.1.isSome)
      && decide ((e :: es).length + ([] : List Keyword).length + (if ([] : List Keyword).isEmpty then 0 else 1) < 30)) = true := by rfl)
    (hline : (apos.endLine == cpos.line) = true := by rfl) (hs : starEach (e :: es) X.env = (false, eval e X.env) :: starEach es X.env := by rfl) (hplain : (backTo cpos (starEach es X.env)).any (·.1) = false := by rfl) :
    QE X (.Call (.Attribute o name apos) (e :: es) [] cpos) (dMethL r to t) := by
  refine PE.imp (pe_bm PySem.F.plainAttrs_list slot hty hm ho ha hbase hfew hline hs hplain) fun σ H Q q => ?_
  obtain ⟨δ, M, s, m, q⟩ := q
  refine lE_step s m q fun d M1 v H1 x1 m1 d1 q1 => ?_
  obtain ⟨⟨ds, h1⟩, q1⟩ := q1
  obtain ⟨a, vs, rfl, sq, dv⟩ := isL_rd m1 d1 h1
  refine ⟨.inl ⟨rfl, vs, sq⟩, ?_⟩
  refine lA_step (s.ext x1) m1 q1 fun xs M2 ws H2 x2 m2 d2 q2 => ?_
  exact ⟨d, xs, M2, den_ext x2 _ _ d1, d2, m2, r.mono q2 fun _ _ h => lQ_ext (x1.trans x2) h⟩
end

/-! ### name = [..] on one line -/
section
variable {X : Cx} {elt iter : Expr} {x y : Str} {px py pos spos : Pos} {scope : Scope} {w : DI} {t : DE} {i j : Nat}
theorem qs_setLc (hc : X.calm = true) (hN : X.N.Nodup) (hy : X.N[j]? = some y) (hyl : X.env.scope.names.lookup y = some .local)
    (hsw : swapsWith (.ListComp elt [⟨.Name x px, iter, [], 0⟩] scope pos) (some (.Name y py)) spos.line X.env = pure true) (hi : QI X (.Name x px) iter w) (ok : BlkOk X.N X.env.scope scope [(x, i)])
    (hg : ∀ (s : Shared) (H : Hp) (C : Addr) (cl : List (Str × Addr)) (fp : List Addr), PG (X.blk s H scope (compEnvC scope cl C X.env) fp) (.Name x px) (gName i))
    (he : ∀ (s : Shared) (H : Hp) (C : Addr) (cl : List (Str × Addr)) (fp : List Addr), QE (X.blk s H scope (compEnvC scope cl C X.env) fp) elt t) (hs : ∀ z, foldedSetIterable iter X.env z = pure z := by intro _; rfl) :
    QS X (.Assign [.Name y py] (.ListComp elt [⟨.Name x px, iter, [], 0⟩] scope pos) spos) (dSet j (dLc w i t)) := by
  refine PS.imp (ps_setLc (te := lE X.K t) hc hN hy hyl hsw hi ok hg (fun _ _ _ _ _ => pts_nil) he hs) fun D σ H q => ?_
  obtain ⟨δ, M, s, m, q⟩ := q
  refine lLc ⟨δ, M, s, m, (dLc w i t).mono q fun d M1 q v H1 x1 m1 d1 => ?_⟩
  exact q _ H1 x1 ((s.ext x1).set d1 j) m1
end
end LD

/-! LE7: k32 -/
namespace LD
open PySem PySem.Spec PyProof.Rows L2

def cs32 : List Str := ["LaterError", "NoMachine", "NoPlain", "NoLetters", "NoRule", "NoRow", "NoWord", "NoNumber", "NoDivisor", "NoMatch", "NoLimit", "HasRow", "TooGreat"]
def ecl32 : List Str := ["NoMachine", "NoPlain", "NoLetters", "NoRule", "NoRow", "NoWord", "NoNumber", "NoDivisor", "NoMatch", "TooGreat", "NoLimit", "HasRow"]
def wds32 : List Str := ["machine", "plain", "letters", "rule", "row", "word", "number", "divisor", "match", "great", "limit", "has"]
/-- the word of a class -/
def wd_law_x_word (y : Str) : Str := ((ecl32.zip wds32).lookup y).getD "odd"
abbrev S_law32 : DSp := fun ds M Q X => ∃ (ns : List Int) (P : Addr), ds = [.lst (ns.map D.int)] ∧ ns.length ≤ 63 ∧ M P = some (.tab ("law", none) "law.<locals>.<lambda>") ∧ ∀ M', Q (.bl true) M'

def b_law_x_word (X : XD) : DS :=
  dSeq (dIfS (dTB (dOp (oIsN false) (dVar 1) (dC .non))) (dEnd (dRet (dC (.str "fine")))) (dSNil))
  (dSeq (dSet 3 (dLst (dCons (dIsX cs32 "NoMachine" (dVar 1)) (dCons (dIsX cs32 "NoPlain" (dVar 1)) (dCons (dIsX cs32 "NoLetters" (dVar 1)) (dNil))))))
  (dSeq (dSet 3 (dOp oAdd (dVar 3) (dLst (dCons (dIsX cs32 "NoRule" (dVar 1)) (dCons (dIsX cs32 "NoRow" (dVar 1)) (dCons (dIsX cs32 "NoWord" (dVar 1)) (dNil)))))))
  (dSeq (dSet 3 (dOp oAdd (dVar 3) (dLst (dCons (dIsX cs32 "NoNumber" (dVar 1)) (dCons (dIsX cs32 "NoDivisor" (dVar 1)) (dCons (dIsX cs32 "NoMatch" (dVar 1)) (dNil)))))))
  (dSeq (dSet 3 (dOp oAdd (dVar 3) (dLst (dCons (dIsX cs32 "TooGreat" (dVar 1)) (dCons (dIsX cs32 "NoLimit" (dVar 1)) (dCons (dIsX cs32 "HasRow" (dVar 1)) (dNil)))))))
  (dSeq (dSet 4 (dLst (dCons (dC (.str "machine")) (dCons (dC (.str "plain")) (dCons (dC (.str "letters")) (dCons (dC (.str "rule")) (dCons (dC (.str "row")) (dCons (dC (.str "word")) (dCons (dC (.str "number")) (dCons (dC (.str "divisor")) (dCons (dC (.str "match")) (dCons (dC (.str "great")) (dCons (dC (.str "limit")) (dNil))))))))))))))
  (dSeq (dDrop (dMethL mAppend (dVar 4) (dCons (dC (.str "has")) (dNil))))
  (dEnd (dRet (dIf (dAndT (dTB (dOp oEq (dMethL mCountB (dVar 3) (dCons (dC (.bl true)) (dNil))) (dC (.int 1)))) (dTB (dIsXV cs32 (dVar 1)))) (dOp oIx (dVar 4) (dMethL mIndex (dVar 3) (dCons (dC (.bl true)) (dNil)))) (dC (.str "odd")))))))))))
def b_law32 (X : XD) : DS :=
  dSeq (dSet 1 (dCall S_law_open (dCons (dVar 0) (dNil)) X))
  (dSeq (dFor (dItR1 (dC (.int 8))) (dName 2) (dSeq (dSet 3 (dCall S_law_x_number (dCons (dOp oSub (dCall S_law_take (dCons (dVar 1) (dCons (dC (.int 99)) (dNil))) X) (dC (.int 49))) (dCons (dOp oAdd (dC (.int 1)) (dCall S_law_take (dCons (dVar 1) (dCons (dC (.int 9)) (dNil))) X)) (dNil))) X))
  (dSeq (dSet 4 (dLst (dCons (dTup (dCons (dC (.int 2)) (dCons (dC (.int 4)) (dNil)))) (dCons (dTup (dCons (dC (.int 0)) (dCons (dC (.int 2)) (dNil)))) (dCons (dTup (dCons (dC (.int 1)) (dCons (dC (.int 0)) (dNil)))) (dCons (dTup (dCons (dC (.int 1)) (dCons (dUn oNeg (dC (.int 1))) (dNil)))) (dCons (dTup (dCons (dUn oNeg (dC (.int 1))) (dCons (dUn oNeg (dC (.int 1))) (dNil)))) (dCons (dLst (dCons (dC (.int 1)) (dCons (dC (.int 2)) (dNil)))) (dCons (dTup (dCons (dC (.int 1)) (dNil))) (dCons (dTup (dCons (dC (.int 1)) (dCons (dC (.int 2)) (dCons (dC (.int 3)) (dNil))))) (dCons (dTup (dCons (dC (.bl true)) (dCons (dC (.int 1)) (dNil)))) (dCons (dTup (dCons (dC (.int 1)) (dCons (dC (.bl true)) (dNil)))) (dCons (dTup (dCons (dC (.int 6)) (dCons (dC (.int 3)) (dNil)))) (dNil))))))))))))))
  (dSeq (dSet 4 (dOp oAdd (dVar 4) (dLst (dCons (dC .non) (dCons (dC (.str "1")) (dCons (dC (.int 1)) (dCons (dTup (dNil)) (dCons (dTup (dCons (dC .non) (dCons (dC (.int 1)) (dNil)))) (dCons (dTup (dCons (dC (.int 1)) (dCons (dC .non) (dNil)))) (dCons (dTup (dCons (dC (.str "1")) (dCons (dC (.int 2)) (dNil)))) (dCons (dTup (dCons (dTup (dCons (dC (.int 1)) (dCons (dC (.int 2)) (dNil)))) (dCons (dC (.int 1)) (dNil)))) (dCons (dTup (dCons (dVar 3) (dCons (dC (.int 1)) (dNil)))) (dCons (dTup (dCons (dOp oPow (dC (.int 10)) (dC (.int 20))) (dCons (dOp oPow (dC (.int 10)) (dC (.int 20))) (dNil)))) (dNil))))))))))))))
  (dSeq (dSet 5 (dCall S_law_x_pick (dCons (dVar 1) (dCons (dVar 4) (dNil))) X))
  (dSeq (dSet 6 (dLc (dItR1 (dC (.int 2))) 12 (dOp oEq (dCall S_law_take (dCons (dVar 1) (dCons (dC (.int 3)) (dNil))) xNo) (dC (.int 0)))))
  (dSeq (dAsg (dTup (dCons (dIf (dTB (dOp oIx (dVar 6) (dC (.int 0)))) (dVar 5) (dVar 3)) (dCons (dIf (dTB (dOp oIx (dVar 6) (dC (.int 1)))) (dVar 5) (dVar 3)) (dNil)))) (dGTup (dGCons (dName 10) (dGCons (dName 11) (dGNil)))))
  (dSeq (dSet 7 (dIf (dTB (dOp (oIn false) (dC (.bl true)) (dVar 6))) (dC (.str "number")) (dC (.str "fine"))))
  (dSeq (dIfS (dTB (dOp oNe (dLamW S_plus (dCons (dVar 10) (dCons (dVar 11) (dNil))) ("law", none) "law.<locals>.<lambda>" cs32 wd_law_x_word) (dVar 7))) (dEnd (dRet (dC (.bl false)))) (dSNil))
  (dSeq (dIfS (dTB (dOp oNe (dLamW S_minus (dCons (dVar 10) (dCons (dVar 11) (dNil))) ("law", none) "law.<locals>.<lambda>" cs32 wd_law_x_word) (dVar 7))) (dEnd (dRet (dC (.bl false)))) (dSNil))
  (dSeq (dIfS (dTB (dOp oNe (dLamW S_compared (dCons (dVar 10) (dCons (dVar 11) (dNil))) ("law", none) "law.<locals>.<lambda>" cs32 wd_law_x_word) (dVar 7))) (dEnd (dRet (dC (.bl false)))) (dSNil))
  (dSeq (dSet 9 (dIf (dTB (dOp oIx (dVar 6) (dC (.int 0)))) (dCall S_law_x_pick (dCons (dVar 1) (dCons (dLst (dCons (dC .non) (dCons (dC (.bl true)) (dCons (dC (.bl false)) (dCons (dC (.str "7")) (dCons (dTup (dCons (dC (.int 1)) (dNil))) (dCons (dLst (dNil)) (dCons (dTup (dCons (dC (.int 7)) (dCons (dC (.int 1)) (dNil)))) (dNil))))))))) (dNil))) X) (dOp oIx (dVar 3) (dC (.int 0)))))
  (dSeq (dSet 8 (dIf (dTB (dOp oIx (dVar 6) (dC (.int 1)))) (dCall S_law_x_pick (dCons (dVar 1) (dCons (dLst (dCons (dC .non) (dCons (dC (.bl true)) (dCons (dC (.int 0)) (dCons (dUn oNeg (dC (.int 1))) (dCons (dC (.str "7")) (dCons (dTup (dCons (dC (.int 1)) (dNil))) (dCons (dLst (dCons (dC (.int 1)) (dNil))) (dCons (dUn oNeg (dOp oPow (dC (.int 10)) (dC (.int 20)))) (dNil)))))))))) (dNil))) X) (dOp oIx (dVar 3) (dC (.int 1)))))
  (dSeq (dSet 7 (dIf (dTB (dOp oIx (dVar 6) (dC (.int 0)))) (dC (.str "number")) (dIf (dTB (dOp oIx (dVar 6) (dC (.int 1)))) (dC (.str "divisor")) (dC (.str "fine")))))
  (dEnd (dIfS (dTB (dOp oNe (dLamW S_number_of (dCons (dVar 9) (dCons (dVar 8) (dNil))) ("law", none) "law.<locals>.<lambda>" cs32 wd_law_x_word) (dVar 7))) (dEnd (dRet (dC (.bl false)))) (dSNil)))))))))))))))))
  (dEnd (dRet (dC (.bl true)))))

/-- of a list of bools, the first true one -/
def firstT : List Bool → Option Nat
  | [] => none
  | true :: _ => some 0
  | false :: bs => (firstT bs).map (· + 1)
theorem firstT_some : ∀ {bs : List Bool} {j : Nat}, firstT bs = some j → bs[j]? = some true ∧ ∀ m b, m < j → bs[m]? = some b → b = false
  | true :: bs, j, h => by
    have e : 0 = j := Option.some.inj h
    subst e
    exact ⟨rfl, fun m _ hm => absurd hm (Nat.not_lt_zero m)⟩
  | false :: bs, j, h => by
    cases e : firstT bs with
    | none => rw [firstT, e] at h; cases h
    | some i =>
      rw [firstT, e] at h
      have e2 : i + 1 = j := Option.some.inj h
      subst e2
      obtain ⟨h1, h2⟩ := firstT_some e
      refine ⟨h1, fun m b hm hb => ?_⟩
      cases m with
      | zero => exact (Option.some.inj hb).symm
      | succ m => exact h2 m b (by omega) hb
theorem word_facts : ∀ y ∈ cs32, ((ecl32.map (relE y)).count true = 1 ∧ ∃ j, firstT (ecl32.map (relE y)) = some j ∧ wds32[j]? = some (wd_law_x_word y)) ∨ ((ecl32.map (relE y)).count true = 0 ∧ wd_law_x_word y = "odd") := by
  intro y hy
  have key : ∀ y ∈ cs32, ((decide ((ecl32.map (relE y)).count true = 1) && (match firstT (ecl32.map (relE y)) with | some j => decide (wds32[j]? = some (wd_law_x_word y)) | none => false)) || (decide ((ecl32.map (relE y)).count true = 0) && decide (wd_law_x_word y = "odd"))) = true := by decide +kernel
  have k := key y hy
  rw [Bool.or_eq_true, Bool.and_eq_true, Bool.and_eq_true] at k
  rcases k with ⟨k1, k2⟩ | ⟨k1, k2⟩
  · refine .inl ⟨of_decide_eq_true k1, ?_⟩
    split at k2
    · rename_i j e; exact ⟨j, e, of_decide_eq_true k2⟩
    · cases k2
  · exact .inr ⟨of_decide_eq_true k1, of_decide_eq_true k2⟩
theorem p_word_fine (X : XD) (E : DEnds) (δ : DSt) (M : DM) (hl : δ.length = 5) (h1 : δ[1]? = some (some .non)) (q : ∀ M'', Sub M M'' → E.rt (.str "fine") M'') : (b_law_x_word X).run E δ M := by
  dsimp only [dSeq, dEnd, dSNil, dPass, dBreak, dCont, dNever, dDrop, dRet, dRetN, dIfS, dName, dAsg, dSet, dPar2, dPar3, dGNil, dGCons, dGTup, dSubL, dWhile, dFor, dItSeq, dItR1, dItR2, dItEnum, dVar, dC, dNil, dCons, dTup, dLst, dOp, dUn, dTB, dAndT, dOrT, dNotT, dAndV, dOrV, dNotV, dIf, dChain, dSlice, dNoP, dPart, dCB, dIsi, dCall, dRaise, oEq, oNe, oLt, oLe, oGt, oGe, oIsN, r_add_ii, r_add_ss, r_add_tt, r_add_r, r_add_l, r_add_ib, r_add_bi, r_add_bb, r_sub_ii, r_sub_bb, r_mul_ii, r_mul_si, r_fdiv_ii, r_mod_ii, r_pow_ii, r_neg_i, r_eq_ii, r_eq_ss, r_ord_ii, r_ix_t, r_ix_l, r_ix_r, r_ix_s, r_len_s, r_len_t, r_len_l, r_len_r, r_abs_i, r_int_i, r_int_b, r_list, r_tuple, r_repr_s, spEnds, wkX, List.getElem?_cons_zero, List.getElem?_cons_succ, List.set_cons_zero, List.set_cons_succ, dIsX, dIsXV, dNew, dTryAs, dMethL, mAppend, mIndex, mCountB, oIn, b_law_x_word]
  rw [h1]
  exact q M (.refl M)
theorem p_word (X : XD) (E : DEnds) (δ : DSt) (M : DM) (b : Addr) (y : Str) (hl : δ.length = 5) (h1 : δ[1]? = some (some (.ref b))) (hb : M b = some (.exc y)) (hy : y ∈ cs32) (q : ∀ M'', Sub M M'' → E.rt (.str (wd_law_x_word y)) M'') : (b_law_x_word X).run E δ M := by
  match δ, hl, h1 with
  | [t0, t1, t2, t3, t4], _, h1 =>
    have e1 : t1 = some (.ref b) := by simpa using h1
    subst e1
    clear h1
    dsimp only [dSeq, dEnd, dSNil, dPass, dBreak, dCont, dNever, dDrop, dRet, dRetN, dIfS, dName, dAsg, dSet, dPar2, dPar3, dGNil, dGCons, dGTup, dSubL, dWhile, dFor, dItSeq, dItR1, dItR2, dItEnum, dVar, dC, dNil, dCons, dTup, dLst, dOp, dUn, dTB, dAndT, dOrT, dNotT, dAndV, dOrV, dNotV, dIf, dChain, dSlice, dNoP, dPart, dCB, dIsi, dCall, dRaise, oEq, oNe, oLt, oLe, oGt, oGe, oIsN, r_add_ii, r_add_ss, r_add_tt, r_add_r, r_add_l, r_add_ib, r_add_bi, r_add_bb, r_sub_ii, r_sub_bb, r_mul_ii, r_mul_si, r_fdiv_ii, r_mod_ii, r_pow_ii, r_neg_i, r_eq_ii, r_eq_ss, r_ord_ii, r_ix_t, r_ix_l, r_ix_r, r_ix_s, r_len_s, r_len_t, r_len_l, r_len_r, r_abs_i, r_int_i, r_int_b, r_list, r_tuple, r_repr_s, spEnds, wkX, List.getElem?_cons_zero, List.getElem?_cons_succ, List.set_cons_zero, List.set_cons_succ, dIsX, dIsXV, dNew, dTryAs, dMethL, mAppend, mIndex, mCountB, oIn, b_law_x_word]
    refine .here ?_
    dsimp only [dSeq, dEnd, dSNil, dPass, dBreak, dCont, dNever, dDrop, dRet, dRetN, dIfS, dName, dAsg, dSet, dPar2, dPar3, dGNil, dGCons, dGTup, dSubL, dWhile, dFor, dItSeq, dItR1, dItR2, dItEnum, dVar, dC, dNil, dCons, dTup, dLst, dOp, dUn, dTB, dAndT, dOrT, dNotT, dAndV, dOrV, dNotV, dIf, dChain, dSlice, dNoP, dPart, dCB, dIsi, dCall, dRaise, oEq, oNe, oLt, oLe, oGt, oGe, oIsN, r_add_ii, r_add_ss, r_add_tt, r_add_r, r_add_l, r_add_ib, r_add_bi, r_add_bb, r_sub_ii, r_sub_bb, r_mul_ii, r_mul_si, r_fdiv_ii, r_mod_ii, r_pow_ii, r_neg_i, r_eq_ii, r_eq_ss, r_ord_ii, r_ix_t, r_ix_l, r_ix_r, r_ix_s, r_len_s, r_len_t, r_len_l, r_len_r, r_abs_i, r_int_i, r_int_b, r_list, r_tuple, r_repr_s, spEnds, wkX, List.getElem?_cons_zero, List.getElem?_cons_succ, List.set_cons_zero, List.set_cons_succ, dIsX, dIsXV, dNew, dTryAs, dMethL, mAppend, mIndex, mCountB, oIn]
    refine ⟨y, hb, hy, y, hb, hy, y, hb, hy, szle (n := 3), fun q0 f0 => .gen (fun Nw => Sub M Nw ∧ Nw q0 = some (.lst (clF y ["NoMachine", "NoPlain", "NoLetters"])) ∧ Nw b = some (.exc y)) ⟨.new f0, put_same, put_keep hb f0⟩ fun M1 ⟨s1, l1, p1⟩ => ?_⟩
    dsimp only [dSeq, dEnd, dSNil, dPass, dBreak, dCont, dNever, dDrop, dRet, dRetN, dIfS, dName, dAsg, dSet, dPar2, dPar3, dGNil, dGCons, dGTup, dSubL, dWhile, dFor, dItSeq, dItR1, dItR2, dItEnum, dVar, dC, dNil, dCons, dTup, dLst, dOp, dUn, dTB, dAndT, dOrT, dNotT, dAndV, dOrV, dNotV, dIf, dChain, dSlice, dNoP, dPart, dCB, dIsi, dCall, dRaise, oEq, oNe, oLt, oLe, oGt, oGe, oIsN, r_add_ii, r_add_ss, r_add_tt, r_add_r, r_add_l, r_add_ib, r_add_bi, r_add_bb, r_sub_ii, r_sub_bb, r_mul_ii, r_mul_si, r_fdiv_ii, r_mod_ii, r_pow_ii, r_neg_i, r_eq_ii, r_eq_ss, r_ord_ii, r_ix_t, r_ix_l, r_ix_r, r_ix_s, r_len_s, r_len_t, r_len_l, r_len_r, r_abs_i, r_int_i, r_int_b, r_list, r_tuple, r_repr_s, spEnds, wkX, List.getElem?_cons_zero, List.getElem?_cons_succ, List.set_cons_zero, List.set_cons_succ, dIsX, dIsXV, dNew, dTryAs, dMethL, mAppend, mIndex, mCountB, oIn]
    refine ⟨y, p1, hy, y, p1, hy, y, p1, hy, szle (n := 3), fun a f => ⟨clF y ["NoMachine", "NoPlain", "NoLetters"], clF y ["NoRule", "NoRow", "NoWord"], .inl (put_keep l1 f), .inl put_same, szle (n := 6), fun q1 g => ?_⟩⟩
    refine .gen (fun Nw => Sub M Nw ∧ Nw q1 = some (.lst (clF y ["NoMachine", "NoPlain", "NoLetters", "NoRule", "NoRow", "NoWord"])) ∧ Nw b = some (.exc y)) ⟨(s1.trans (.new f)).trans (.new g), put_same, put_keep (put_keep p1 f) g⟩ fun M2 ⟨s2, l2, p2⟩ => ?_
    dsimp only [dSeq, dEnd, dSNil, dPass, dBreak, dCont, dNever, dDrop, dRet, dRetN, dIfS, dName, dAsg, dSet, dPar2, dPar3, dGNil, dGCons, dGTup, dSubL, dWhile, dFor, dItSeq, dItR1, dItR2, dItEnum, dVar, dC, dNil, dCons, dTup, dLst, dOp, dUn, dTB, dAndT, dOrT, dNotT, dAndV, dOrV, dNotV, dIf, dChain, dSlice, dNoP, dPart, dCB, dIsi, dCall, dRaise, oEq, oNe, oLt, oLe, oGt, oGe, oIsN, r_add_ii, r_add_ss, r_add_tt, r_add_r, r_add_l, r_add_ib, r_add_bi, r_add_bb, r_sub_ii, r_sub_bb, r_mul_ii, r_mul_si, r_fdiv_ii, r_mod_ii, r_pow_ii, r_neg_i, r_eq_ii, r_eq_ss, r_ord_ii, r_ix_t, r_ix_l, r_ix_r, r_ix_s, r_len_s, r_len_t, r_len_l, r_len_r, r_abs_i, r_int_i, r_int_b, r_list, r_tuple, r_repr_s, spEnds, wkX, List.getElem?_cons_zero, List.getElem?_cons_succ, List.set_cons_zero, List.set_cons_succ, dIsX, dIsXV, dNew, dTryAs, dMethL, mAppend, mIndex, mCountB, oIn]
    refine ⟨y, p2, hy, y, p2, hy, y, p2, hy, szle (n := 3), fun a f => ⟨clF y ["NoMachine", "NoPlain", "NoLetters", "NoRule", "NoRow", "NoWord"], clF y ["NoNumber", "NoDivisor", "NoMatch"], .inl (put_keep l2 f), .inl put_same, szle (n := 9), fun q2 g => ?_⟩⟩
    refine .gen (fun Nw => Sub M Nw ∧ Nw q2 = some (.lst (clF y ["NoMachine", "NoPlain", "NoLetters", "NoRule", "NoRow", "NoWord", "NoNumber", "NoDivisor", "NoMatch"])) ∧ Nw b = some (.exc y)) ⟨(s2.trans (.new f)).trans (.new g), put_same, put_keep (put_keep p2 f) g⟩ fun M3 ⟨s3, l3, p3⟩ => ?_
    dsimp only [dSeq, dEnd, dSNil, dPass, dBreak, dCont, dNever, dDrop, dRet, dRetN, dIfS, dName, dAsg, dSet, dPar2, dPar3, dGNil, dGCons, dGTup, dSubL, dWhile, dFor, dItSeq, dItR1, dItR2, dItEnum, dVar, dC, dNil, dCons, dTup, dLst, dOp, dUn, dTB, dAndT, dOrT, dNotT, dAndV, dOrV, dNotV, dIf, dChain, dSlice, dNoP, dPart, dCB, dIsi, dCall, dRaise, oEq, oNe, oLt, oLe, oGt, oGe, oIsN, r_add_ii, r_add_ss, r_add_tt, r_add_r, r_add_l, r_add_ib, r_add_bi, r_add_bb, r_sub_ii, r_sub_bb, r_mul_ii, r_mul_si, r_fdiv_ii, r_mod_ii, r_pow_ii, r_neg_i, r_eq_ii, r_eq_ss, r_ord_ii, r_ix_t, r_ix_l, r_ix_r, r_ix_s, r_len_s, r_len_t, r_len_l, r_len_r, r_abs_i, r_int_i, r_int_b, r_list, r_tuple, r_repr_s, spEnds, wkX, List.getElem?_cons_zero, List.getElem?_cons_succ, List.set_cons_zero, List.set_cons_succ, dIsX, dIsXV, dNew, dTryAs, dMethL, mAppend, mIndex, mCountB, oIn]
    refine ⟨y, p3, hy, y, p3, hy, y, p3, hy, szle (n := 3), fun a f => ⟨clF y ["NoMachine", "NoPlain", "NoLetters", "NoRule", "NoRow", "NoWord", "NoNumber", "NoDivisor", "NoMatch"], clF y ["TooGreat", "NoLimit", "HasRow"], .inl (put_keep l3 f), .inl put_same, szle (n := 12), fun q3 g => ?_⟩⟩
    refine .gen (fun Nw => Sub M Nw ∧ Nw q3 = some (.lst (clF y ["NoMachine", "NoPlain", "NoLetters", "NoRule", "NoRow", "NoWord", "NoNumber", "NoDivisor", "NoMatch", "TooGreat", "NoLimit", "HasRow"])) ∧ Nw b = some (.exc y)) ⟨(s3.trans (.new f)).trans (.new g), put_same, put_keep (put_keep p3 f) g⟩ fun M4 ⟨s4, l4, p4⟩ => ?_
    dsimp only [dSeq, dEnd, dSNil, dPass, dBreak, dCont, dNever, dDrop, dRet, dRetN, dIfS, dName, dAsg, dSet, dPar2, dPar3, dGNil, dGCons, dGTup, dSubL, dWhile, dFor, dItSeq, dItR1, dItR2, dItEnum, dVar, dC, dNil, dCons, dTup, dLst, dOp, dUn, dTB, dAndT, dOrT, dNotT, dAndV, dOrV, dNotV, dIf, dChain, dSlice, dNoP, dPart, dCB, dIsi, dCall, dRaise, oEq, oNe, oLt, oLe, oGt, oGe, oIsN, r_add_ii, r_add_ss, r_add_tt, r_add_r, r_add_l, r_add_ib, r_add_bi, r_add_bb, r_sub_ii, r_sub_bb, r_mul_ii, r_mul_si, r_fdiv_ii, r_mod_ii, r_pow_ii, r_neg_i, r_eq_ii, r_eq_ss, r_ord_ii, r_ix_t, r_ix_l, r_ix_r, r_ix_s, r_len_s, r_len_t, r_len_l, r_len_r, r_abs_i, r_int_i, r_int_b, r_list, r_tuple, r_repr_s, spEnds, wkX, List.getElem?_cons_zero, List.getElem?_cons_succ, List.set_cons_zero, List.set_cons_succ, dIsX, dIsXV, dNew, dTryAs, dMethL, mAppend, mIndex, mCountB, oIn]
    refine ⟨szle (n := 11), fun w fw => .here ?_⟩
    dsimp only [dSeq, dEnd, dSNil, dPass, dBreak, dCont, dNever, dDrop, dRet, dRetN, dIfS, dName, dAsg, dSet, dPar2, dPar3, dGNil, dGCons, dGTup, dSubL, dWhile, dFor, dItSeq, dItR1, dItR2, dItEnum, dVar, dC, dNil, dCons, dTup, dLst, dOp, dUn, dTB, dAndT, dOrT, dNotT, dAndV, dOrV, dNotV, dIf, dChain, dSlice, dNoP, dPart, dCB, dIsi, dCall, dRaise, oEq, oNe, oLt, oLe, oGt, oGe, oIsN, r_add_ii, r_add_ss, r_add_tt, r_add_r, r_add_l, r_add_ib, r_add_bi, r_add_bb, r_sub_ii, r_sub_bb, r_mul_ii, r_mul_si, r_fdiv_ii, r_mod_ii, r_pow_ii, r_neg_i, r_eq_ii, r_eq_ss, r_ord_ii, r_ix_t, r_ix_l, r_ix_r, r_ix_s, r_len_s, r_len_t, r_len_l, r_len_r, r_abs_i, r_int_i, r_int_b, r_list, r_tuple, r_repr_s, spEnds, wkX, List.getElem?_cons_zero, List.getElem?_cons_succ, List.set_cons_zero, List.set_cons_succ, dIsX, dIsXV, dNew, dTryAs, dMethL, mAppend, mIndex, mCountB, oIn]
    refine ⟨⟨_, .inl put_same⟩, _, put_same, szle (n := 12), ?_⟩
    rw [put_put]
    have sF : Sub M (put M4 w (.lst (wds32.map D.str))) := s4.trans (.new fw)
    have lF := put_keep (u := .lst (wds32.map D.str)) l4 fw
    have pF := put_keep (u := .lst (wds32.map D.str)) p4 fw
    refine .gen (fun Nw => Sub M Nw ∧ Nw q3 = some (.lst (clF y ecl32)) ∧ Nw b = some (.exc y) ∧ Nw w = some (.lst (wds32.map D.str))) ⟨sF, lF, pF, put_same⟩ fun M5 ⟨s5, l5, p5, w5⟩ => ?_
    have eb : clF y ecl32 = (ecl32.map (relE y)).map D.bl := by unfold clF; rw [List.map_map]; rfl
    rw [eb] at l5
    dsimp only [dSeq, dEnd, dSNil, dPass, dBreak, dCont, dNever, dDrop, dRet, dRetN, dIfS, dName, dAsg, dSet, dPar2, dPar3, dGNil, dGCons, dGTup, dSubL, dWhile, dFor, dItSeq, dItR1, dItR2, dItEnum, dVar, dC, dNil, dCons, dTup, dLst, dOp, dUn, dTB, dAndT, dOrT, dNotT, dAndV, dOrV, dNotV, dIf, dChain, dSlice, dNoP, dPart, dCB, dIsi, dCall, dRaise, oEq, oNe, oLt, oLe, oGt, oGe, oIsN, r_add_ii, r_add_ss, r_add_tt, r_add_r, r_add_l, r_add_ib, r_add_bi, r_add_bb, r_sub_ii, r_sub_bb, r_mul_ii, r_mul_si, r_fdiv_ii, r_mod_ii, r_pow_ii, r_neg_i, r_eq_ii, r_eq_ss, r_ord_ii, r_ix_t, r_ix_l, r_ix_r, r_ix_s, r_len_s, r_len_t, r_len_l, r_len_r, r_abs_i, r_int_i, r_int_b, r_list, r_tuple, r_repr_s, spEnds, wkX, List.getElem?_cons_zero, List.getElem?_cons_succ, List.set_cons_zero, List.set_cons_succ, dIsX, dIsXV, dNew, dTryAs, dMethL, mAppend, mIndex, mCountB, oIn]
    refine ⟨⟨_, .inl l5⟩, _, .inl l5, ?_⟩
    rcases word_facts y hy with ⟨c1, j, e1, e2⟩ | ⟨c0, e2⟩
    · refine bcase_t (by rw [c1]; rfl) ⟨y, p5, hy, bcase_t rfl ⟨⟨_, .inl l5⟩, ?_⟩⟩
      obtain ⟨g1, g2⟩ := firstT_some e1
      refine ⟨_, j, .bl true, .inl l5, rfl, ?_, by rw [List.getElem?_map, g1]; rfl, rfl, fun m z hm hz => ?_, ?_⟩
      · rw [List.all_map]; exact List.all_eq_true.mpr fun _ _ => rfl
      · rw [List.getElem?_map] at hz
        cases eb : (ecl32.map (relE y))[m]? with
        | none => rw [eb] at hz; cases hz
        | some b0 =>
          rw [eb] at hz
          cases hz
          rw [g2 m b0 hm eb]
          rfl
      · have hj : j < wds32.length := (List.getElem?_eq_some_iff.mp e2).1
        refine ⟨_, _, .inl w5, ?_, q _ s5⟩
        unfold atI
        rw [List.length_map, ixN_in (by omega) (by omega)]
        show (wds32.map D.str)[(j : Int).toNat]? = _
        rw [Int.toNat_natCast, List.getElem?_map, e2]
        rfl
    · refine bcase_f (by rw [c0]; rfl) ?_
      rw [e2] at q
      exact q _ s5

/-! ### the law -/
abbrev dL : Str × Option Str := ("law", none)
abbrev qL : Str := "law.<locals>.<lambda>"
theorem one_lst {M : DM} {a : Addr} {ds : List D} (h : M a = some (.lst ds)) : oneTab M dL qL a = some (.lst ds) := oneTab_keep h (by intro _ _ z; cases z)
theorem one_tab {M : DM} {a : Addr} (h : M a = some (.tab dL qL)) : oneTab M dL qL a = some (.tab dL qL) := oneTab_keep h (by intro _ _ z; cases z; exact ⟨rfl, rfl⟩)
theorem one_pen {M : DM} {p : Addr} {n : Nat} (h : Pen M p n) : Pen (oneTab M dL qL) p n := by
  obtain ⟨o, h1, cs, k, rest, rfl, h3⟩ := h
  exact ⟨_, one_lst h1, cs, k, rest, rfl, h3⟩
theorem pen_ne {M : DM} {p q : Addr} {n : Nat} {ds : List D} (h : Pen M p n) (g : M q = some (.lst ds)) (hd : ds.length ≠ 3) : q ≠ p := fun z => by
  obtain ⟨o, h1, cs, k, rest, rfl, h3⟩ := h
  rw [z, h1] at g
  cases g
  exact hd rfl
theorem pen_tab {M : DM} {p q : Addr} {n : Nat} (h : Pen M p n) (g : M q = some (.tab dL qL)) : q ≠ p := fun z => by
  obtain ⟨o, h1, cs, k, rest, rfl, h3⟩ := h
  rw [z, h1] at g
  cases g
/-- a number, or what is none -/
def NumW (M : DM) (w : Bool) (x : D) : Prop := match w with
  | true => KnN M x ∧ isNum x = false
  | false => ∃ A B : Int, x = .tup [.int A, .int B] ∧ NumP A B ∧ Sm 4000 A ∧ Sm 4000 B
theorem two_word {f : Int → Int → Int → Int → D} {x y : D} {M : DM} : ∀ {w0 w1 : Bool}, NumW M w0 x → NumW M w1 y → twoN f x y M (fun _ M' => (w0 || w1) = false ∧ M' = M) (fun e M' => (w0 || w1) = true ∧ e = "NoNumber" ∧ M' = M)
  | true, _, hx, _ => ⟨hx.1, bcase_f hx.2 ⟨rfl, rfl, rfl⟩⟩
  | false, true, ⟨A, B, e, np, sA, sB⟩, hy => by
    subst e
    exact ⟨knN2, bcase_t np.is ⟨hy.1, bcase_f hy.2 ⟨rfl, rfl, rfl⟩⟩⟩
  | false, false, ⟨A, B, e, np, sA, sB⟩, ⟨C, E, e2, nq, sC, sE⟩ => by
    subst e e2
    exact ⟨knN2, bcase_t np.is ⟨knN2, bcase_t nq.is ⟨A, B, C, E, rfl, rfl, sA, sB, sC, sE, rfl, rfl⟩⟩⟩
def dueS (b : Bool) : Str := match b with | true => "number" | false => "fine"
theorem wd_number : wd_law_x_word "NoNumber" = "number" := by decide +kernel
theorem wd_divisor : wd_law_x_word "NoDivisor" = "divisor" := by decide +kernel
theorem lam_go {R : D → DM → Prop} {S : DSp} {t : DA} {δ : DSt} {f : Int → Int → Int → Int → D} {x y : D} {M : DM} {P : Addr} {w0 w1 : Bool} (hS : ∀ M Q X, twoN f x y M Q X → S [x, y] M Q X) (hP : M P = some (.tab dL qL))
    (ht : ∀ (R' : List D → DM → Prop) (M' : DM), R' [x, y] M' → t.run δ M' R') (hx : NumW (oneTab M dL qL) w0 x) (hy : NumW (oneTab M dL qL) w1 y) (k : R (.str (dueS (w0 || w1))) (oneTab M dL qL)) : (dLamW S t dL qL cs32 wd_law_x_word).run δ M R := by
  refine ⟨⟨P, hP⟩, ht _ _ ⟨_, _, fun e M' ⟨h1, h2⟩ => ?_, fun e M' ⟨h1, h2, h3⟩ => ?_, .here (hS _ _ _ (two_word hx hy))⟩⟩
  · rw [h2]; rw [h1] at k; exact k
  · rw [h3, h2, wd_number]
    rw [h1] at k
    exact ⟨by decide +kernel, k⟩
def due2 (w0 w1 : Bool) : Str := match w0, w1 with
  | true, _ => "number"
  | false, true => "divisor"
  | false, false => "fine"
/-- a right or wrong n, d -/
def NW (M : DM) (w : Bool) (A : Int) (x : D) : Prop := match w with
  | true => Kn M x ∧ isIntD x = false
  | false => x = .int A
def DW (M : DM) (w : Bool) (B : Int) (x : D) : Prop := match w with
  | true => Kn M x ∧ (isIntD x = false ∨ ∃ k : Int, x = .int k ∧ k < 1)
  | false => x = .int B
theorem NW.kn {M : DM} {w : Bool} {A : Int} {x : D} (h : NW M w A x) : Kn M x := by
  cases w with
  | true => exact h.1
  | false => cases (show x = .int A from h); exact trivial
theorem DW.kn {M : DM} {w : Bool} {A : Int} {x : D} (h : DW M w A x) : Kn M x := by
  cases w with
  | true => exact h.1
  | false => cases (show x = .int A from h); exact trivial
theorem num_word {n d : D} {M : DM} {A B : Int} (hB : 0 < B) (sB : Sm 9000 B) : ∀ {w0 w1 : Bool}, NW M w0 A n → DW M w1 B d → S_number_of [n, d] M (fun _ M' => (w0 || w1) = false ∧ M' = M) (fun e M' => (w0 || w1) = true ∧ e = (if w0 = true then ("NoNumber" : Str) else "NoDivisor") ∧ M' = M)
  | true, w1, hn, hd => ⟨n, d, rfl, hn.1, hd.kn, by
      cases n with
      | int i => cases hn.2
      | _ => exact ⟨rfl, rfl, rfl⟩⟩
  | false, true, hn, hd => by
    cases (show n = .int A from hn)
    refine ⟨_, d, rfl, trivial, hd.1, ?_⟩
    cases d with
    | int i =>
      rcases hd.2 with z | ⟨k, z, hk⟩
      · cases z
      · cases z
        exact bcase_t (decide_eq_true hk) ⟨rfl, rfl, rfl⟩
    | _ => exact ⟨rfl, rfl, rfl⟩
  | false, false, hn, hd => by
    cases (show n = .int A from hn)
    cases (show d = .int B from hd)
    exact ⟨_, _, rfl, trivial, trivial, bcase_f (decide_eq_false (by omega)) ⟨sB, rfl, rfl⟩⟩
theorem lam_go2 {R : D → DM → Prop} {t : DA} {δ : DSt} {n d : D} {M : DM} {P : Addr} {A B : Int} {w0 w1 : Bool} (hB : 0 < B) (sB : Sm 9000 B) (hP : M P = some (.tab dL qL))
    (ht : ∀ (R' : List D → DM → Prop) (M' : DM), R' [n, d] M' → t.run δ M' R') (hn : NW (oneTab M dL qL) w0 A n) (hd : DW (oneTab M dL qL) w1 B d) (k : R (.str (due2 w0 w1)) (oneTab M dL qL)) : (dLamW S_number_of t dL qL cs32 wd_law_x_word).run δ M R := by
  refine ⟨⟨P, hP⟩, ht _ _ ⟨_, _, fun e M' ⟨h1, h2⟩ => ?_, fun e M' ⟨h1, h2, h3⟩ => ?_, .here (num_word hB sB hn hd)⟩⟩
  · rw [h2]
    cases w0 <;> cases w1 <;> first | exact k | cases h1
  · rw [h3, h2]
    cases w0
    · rw [if_neg Bool.false_ne_true, wd_divisor]
      cases w1
      · cases h1
      · exact ⟨by decide +kernel, k⟩
    · rw [if_pos rfl, wd_number]
      exact ⟨by decide +kernel, k⟩
def pickD (bad : D) (A B : Int) (w : Bool) : D := match w with
  | true => bad
  | false => .tup [.int A, .int B]
theorem Pen.put' {M : DM} {p q : Addr} {n : Nat} {o : MO} (h : Pen M p n) (e : q ≠ p) : Pen (LD.put M q o) p n := by
  obtain ⟨u, h1, h2⟩ := h
  exact ⟨u, by rw [put_ne (Ne.symm e)]; exact h1, h2⟩
/-- what is no number -/
def badL (A B : Int) (q0 : Addr) : List D := [.tup [.int 2, .int 4], .tup [.int 0, .int 2], .tup [.int 1, .int 0], .tup [.int 1, .int (-1)], .tup [.int (-1), .int (-1)], .ref q0, .tup [.int 1], .tup [.int 1, .int 2, .int 3], .tup [.bl true, .int 1], .tup [.int 1, .bl true], .tup [.int 6, .int 3],
  .non, .str "1", .int 1, .tup [], .tup [.non, .int 1], .tup [.int 1, .non], .tup [.str "1", .int 2], .tup [.tup [.int 1, .int 2], .int 1], .tup [.tup [.int A, .int B], .int 1], .tup [.int (10 ^ (20 : Int).toNat), .int (10 ^ (20 : Int).toNat)]]
theorem bad_ok {A B : Int} {q0 : Addr} {d : D} (h : d ∈ badL A B q0) (M : DM) (hq : M q0 = some (.lst [.int 1, .int 2])) : KnN M d ∧ isNum d = false := by
  have kn : ∀ ds : List D, ds.length ≤ 3 → (∀ e ∈ ds, Kn M e) → KnN M (.tup ds) := fun ds h1 h2 => ⟨Nat.le_trans h1 (szle (n := 3)), h2⟩
  simp only [badL, List.mem_cons, List.not_mem_nil, or_false] at h
  rcases h with rfl | rfl | rfl | rfl | rfl | rfl | rfl | rfl | rfl | rfl | rfl | rfl | rfl | rfl | rfl | rfl | rfl | rfl | rfl | rfl | rfl
  case inr.inr.inr.inr.inr.inl => exact ⟨.inl ⟨_, .inl hq, trivial⟩, rfl⟩
  all_goals first
    | exact ⟨kn _ (by simp) (by intro e he; simp only [List.mem_cons, List.not_mem_nil, or_false] at he; rcases he with rfl | rfl | rfl <;> trivial), by first | rfl | decide +kernel⟩
    | exact ⟨kn _ (by simp) (by intro e he; simp only [List.mem_cons, List.not_mem_nil, or_false] at he; rcases he with rfl | rfl <;> trivial), by first | rfl | decide +kernel⟩
    | exact ⟨kn _ (by simp) (by intro e he; simp only [List.mem_cons, List.not_mem_nil, or_false] at he; rcases he with rfl; trivial), by first | rfl | decide +kernel⟩
    | exact ⟨kn _ (by simp) (by intro e he; cases he), rfl⟩
    | exact ⟨trivial, rfl⟩

theorem take_go {p : Addr} {m : Int} {n : Nat} {M : DM} {Q : D → DM → Prop} {X : XD} (hm : 0 < m) (sm : Sm 9000 m) (pen : Pen M p n) (hn : n < 1000000)
    (k : ∀ (r : Int) (M' : DM), 0 ≤ r → r < m → Pen M' p (n + 1) → (∀ a, a ≠ p → M' a = M a) → Q (.int r) M') : callQ S_law_take [.ref p, .int m] M Q X :=
  .go ⟨p, m, n, rfl, hm, sm, pen, hn, fun r o h0 h1 po => k r _ h0 h1 (.now po) fun a ha => put_ne ha⟩
theorem pick_go {p : Addr} {x : D} {es : List D} {n : Nat} {M : DM} {Q : D → DM → Prop} {X : XD} (hx : ∀ M' : DM, (∀ a, a ≠ p → M' a = M a) → isSeq M' x es) (hp : ∀ r, x = .ref r → r ≠ p) (h0 : 0 < es.length) (hz : es.length < 1000000) (pen : Pen M p n) (hn : n < 1000000)
    (k : ∀ (d : D) (M' : DM), d ∈ es → Pen M' p (n + 1) → (∀ a, a ≠ p → M' a = M a) → Q d M') : callQ S_law_x_pick [.ref p, x] M Q X :=
  .go ⟨p, x, es, n, rfl, hx, hp, h0, hz, pen, hn, fun d o hd po => k d _ hd (.now po) fun a ha => put_ne ha⟩
theorem wrong_in (w0 w1 : Bool) : (inV (flV (.bl true)) ([D.bl w0, D.bl w1].map flV) ^^ false) = (w0 || w1) := by cases w0 <;> cases w1 <;> rfl
theorem turn32 {E : DEnds} {X : XD} {p P : Addr} {b : DS} (hb : b = (dSeq (dSet 3 (dCall S_law_x_number (dCons (dOp oSub (dCall S_law_take (dCons (dVar 1) (dCons (dC (.int 99)) (dNil))) (wkX X)) (dC (.int 49))) (dCons (dOp oAdd (dC (.int 1)) (dCall S_law_take (dCons (dVar 1) (dCons (dC (.int 9)) (dNil))) (wkX X))) (dNil))) (wkX X)))
  (dSeq (dSet 4 (dLst (dCons (dTup (dCons (dC (.int 2)) (dCons (dC (.int 4)) (dNil)))) (dCons (dTup (dCons (dC (.int 0)) (dCons (dC (.int 2)) (dNil)))) (dCons (dTup (dCons (dC (.int 1)) (dCons (dC (.int 0)) (dNil)))) (dCons (dTup (dCons (dC (.int 1)) (dCons (dUn oNeg (dC (.int 1))) (dNil)))) (dCons (dTup (dCons (dUn oNeg (dC (.int 1))) (dCons (dUn oNeg (dC (.int 1))) (dNil)))) (dCons (dLst (dCons (dC (.int 1)) (dCons (dC (.int 2)) (dNil)))) (dCons (dTup (dCons (dC (.int 1)) (dNil))) (dCons (dTup (dCons (dC (.int 1)) (dCons (dC (.int 2)) (dCons (dC (.int 3)) (dNil))))) (dCons (dTup (dCons (dC (.bl true)) (dCons (dC (.int 1)) (dNil)))) (dCons (dTup (dCons (dC (.int 1)) (dCons (dC (.bl true)) (dNil)))) (dCons (dTup (dCons (dC (.int 6)) (dCons (dC (.int 3)) (dNil)))) (dNil))))))))))))))
  (dSeq (dSet 4 (dOp oAdd (dVar 4) (dLst (dCons (dC .non) (dCons (dC (.str "1")) (dCons (dC (.int 1)) (dCons (dTup (dNil)) (dCons (dTup (dCons (dC .non) (dCons (dC (.int 1)) (dNil)))) (dCons (dTup (dCons (dC (.int 1)) (dCons (dC .non) (dNil)))) (dCons (dTup (dCons (dC (.str "1")) (dCons (dC (.int 2)) (dNil)))) (dCons (dTup (dCons (dTup (dCons (dC (.int 1)) (dCons (dC (.int 2)) (dNil)))) (dCons (dC (.int 1)) (dNil)))) (dCons (dTup (dCons (dVar 3) (dCons (dC (.int 1)) (dNil)))) (dCons (dTup (dCons (dOp oPow (dC (.int 10)) (dC (.int 20))) (dCons (dOp oPow (dC (.int 10)) (dC (.int 20))) (dNil)))) (dNil))))))))))))))
  (dSeq (dSet 5 (dCall S_law_x_pick (dCons (dVar 1) (dCons (dVar 4) (dNil))) (wkX X)))
  (dSeq (dSet 6 (dLc (dItR1 (dC (.int 2))) 12 (dOp oEq (dCall S_law_take (dCons (dVar 1) (dCons (dC (.int 3)) (dNil))) xNo) (dC (.int 0)))))
  (dSeq (dAsg (dTup (dCons (dIf (dTB (dOp oIx (dVar 6) (dC (.int 0)))) (dVar 5) (dVar 3)) (dCons (dIf (dTB (dOp oIx (dVar 6) (dC (.int 1)))) (dVar 5) (dVar 3)) (dNil)))) (dGTup (dGCons (dName 10) (dGCons (dName 11) (dGNil)))))
  (dSeq (dSet 7 (dIf (dTB (dOp (oIn false) (dC (.bl true)) (dVar 6))) (dC (.str "number")) (dC (.str "fine"))))
  (dSeq (dIfS (dTB (dOp oNe (dLamW S_plus (dCons (dVar 10) (dCons (dVar 11) (dNil))) ("law", none) "law.<locals>.<lambda>" cs32 wd_law_x_word) (dVar 7))) (dEnd (dRet (dC (.bl false)))) (dSNil))
  (dSeq (dIfS (dTB (dOp oNe (dLamW S_minus (dCons (dVar 10) (dCons (dVar 11) (dNil))) ("law", none) "law.<locals>.<lambda>" cs32 wd_law_x_word) (dVar 7))) (dEnd (dRet (dC (.bl false)))) (dSNil))
  (dSeq (dIfS (dTB (dOp oNe (dLamW S_compared (dCons (dVar 10) (dCons (dVar 11) (dNil))) ("law", none) "law.<locals>.<lambda>" cs32 wd_law_x_word) (dVar 7))) (dEnd (dRet (dC (.bl false)))) (dSNil))
  (dSeq (dSet 9 (dIf (dTB (dOp oIx (dVar 6) (dC (.int 0)))) (dCall S_law_x_pick (dCons (dVar 1) (dCons (dLst (dCons (dC .non) (dCons (dC (.bl true)) (dCons (dC (.bl false)) (dCons (dC (.str "7")) (dCons (dTup (dCons (dC (.int 1)) (dNil))) (dCons (dLst (dNil)) (dCons (dTup (dCons (dC (.int 7)) (dCons (dC (.int 1)) (dNil)))) (dNil))))))))) (dNil))) (wkX X)) (dOp oIx (dVar 3) (dC (.int 0)))))
  (dSeq (dSet 8 (dIf (dTB (dOp oIx (dVar 6) (dC (.int 1)))) (dCall S_law_x_pick (dCons (dVar 1) (dCons (dLst (dCons (dC .non) (dCons (dC (.bl true)) (dCons (dC (.int 0)) (dCons (dUn oNeg (dC (.int 1))) (dCons (dC (.str "7")) (dCons (dTup (dCons (dC (.int 1)) (dNil))) (dCons (dLst (dCons (dC (.int 1)) (dNil))) (dCons (dUn oNeg (dOp oPow (dC (.int 10)) (dC (.int 20)))) (dNil)))))))))) (dNil))) (wkX X)) (dOp oIx (dVar 3) (dC (.int 1)))))
  (dSeq (dSet 7 (dIf (dTB (dOp oIx (dVar 6) (dC (.int 0)))) (dC (.str "number")) (dIf (dTB (dOp oIx (dVar 6) (dC (.int 1)))) (dC (.str "divisor")) (dC (.str "fine")))))
  (dEnd (dIfS (dTB (dOp oNe (dLamW S_number_of (dCons (dVar 9) (dCons (dVar 8) (dNil))) ("law", none) "law.<locals>.<lambda>" cs32 wd_law_x_word) (dVar 7))) (dEnd (dRet (dC (.bl false)))) (dSNil))))))))))))))))) (fin : ∀ δ M, δ.length = 13 → E.nx δ M) : ∀ (xs : List D) (n : Nat) (M : DM) (s0 s2 s3 s4 s5 s6 s7 s8 s9 s10 s11 s12 : Option D), Pen M p n → M P = some (.tab dL qL) → n + 10 * xs.length ≤ 1000 →
    forRun (dName 2) b E (fun _ => True) xs [s0, some (.ref p), s2, s3, s4, s5, s6, s7, s8, s9, s10, s11, s12] M
  | [], n, M, s0, s2, s3, s4, s5, s6, s7, s8, s9, s10, s11, s12, pen, hP, hn => ⟨trivial, fin _ _ rfl⟩
  | x :: xs, n, M, s0, s2, s3, s4, s5, s6, s7, s8, s9, s10, s11, s12, pen, hP, hn => by
    rw [List.length_cons] at hn
    rw [forRun]
    generalize hNX : forRun (dName 2) b E (fun _ => True) xs = NX
    rw [hb]
    dsimp only [dSeq, dEnd, dSNil, dPass, dBreak, dCont, dNever, dDrop, dRet, dRetN, dIfS, dName, dAsg, dSet, dPar2, dPar3, dGNil, dGCons, dGTup, dSubL, dWhile, dFor, dItSeq, dItR1, dItR2, dItEnum, dVar, dC, dNil, dCons, dTup, dLst, dOp, dUn, dTB, dAndT, dOrT, dNotT, dAndV, dOrV, dNotV, dIf, dChain, dSlice, dNoP, dPart, dCB, dIsi, dCall, dRaise, oEq, oNe, oLt, oLe, oGt, oGe, oIsN, r_add_ii, r_add_ss, r_add_tt, r_add_r, r_add_l, r_add_ib, r_add_bi, r_add_bb, r_sub_ii, r_sub_bb, r_mul_ii, r_mul_si, r_fdiv_ii, r_mod_ii, r_pow_ii, r_neg_i, r_eq_ii, r_eq_ss, r_ord_ii, r_ix_t, r_ix_l, r_ix_r, r_ix_s, r_len_s, r_len_t, r_len_l, r_len_r, r_abs_i, r_int_i, r_int_b, r_list, r_tuple, r_repr_s, spEnds, wkX, List.getElem?_cons_zero, List.getElem?_cons_succ, List.set_cons_zero, List.set_cons_succ, dIsX, dIsXV, dNew, dTryAs, dMethL, mAppend, mIndex, mCountB, oIn]
    refine ⟨trivial, take_go (by decide) (by unfold Sm; decide +kernel) pen (by omega) fun r1 M1 g0 g1 pen1 k1 => ?_⟩
    have hP1 : M1 P = some (.tab dL qL) := by rw [k1 _ (pen_tab pen hP)]; exact hP
    dsimp only [dSeq, dEnd, dSNil, dPass, dBreak, dCont, dNever, dDrop, dRet, dRetN, dIfS, dName, dAsg, dSet, dPar2, dPar3, dGNil, dGCons, dGTup, dSubL, dWhile, dFor, dItSeq, dItR1, dItR2, dItEnum, dVar, dC, dNil, dCons, dTup, dLst, dOp, dUn, dTB, dAndT, dOrT, dNotT, dAndV, dOrV, dNotV, dIf, dChain, dSlice, dNoP, dPart, dCB, dIsi, dCall, dRaise, oEq, oNe, oLt, oLe, oGt, oGe, oIsN, r_add_ii, r_add_ss, r_add_tt, r_add_r, r_add_l, r_add_ib, r_add_bi, r_add_bb, r_sub_ii, r_sub_bb, r_mul_ii, r_mul_si, r_fdiv_ii, r_mod_ii, r_pow_ii, r_neg_i, r_eq_ii, r_eq_ss, r_ord_ii, r_ix_t, r_ix_l, r_ix_r, r_ix_s, r_len_s, r_len_t, r_len_l, r_len_r, r_abs_i, r_int_i, r_int_b, r_list, r_tuple, r_repr_s, spEnds, wkX, List.getElem?_cons_zero, List.getElem?_cons_succ, List.set_cons_zero, List.set_cons_succ, dIsX, dIsXV, dNew, dTryAs, dMethL, mAppend, mIndex, mCountB, oIn]
    refine take_go (by decide) (by unfold Sm; decide +kernel) pen1 (by omega) fun r2 M2 g2 g3 pen2 k2 => ?_
    have hP2 : M2 P = some (.tab dL qL) := by rw [k2 _ (pen_tab pen1 hP1)]; exact hP1
    dsimp only [dSeq, dEnd, dSNil, dPass, dBreak, dCont, dNever, dDrop, dRet, dRetN, dIfS, dName, dAsg, dSet, dPar2, dPar3, dGNil, dGCons, dGTup, dSubL, dWhile, dFor, dItSeq, dItR1, dItR2, dItEnum, dVar, dC, dNil, dCons, dTup, dLst, dOp, dUn, dTB, dAndT, dOrT, dNotT, dAndV, dOrV, dNotV, dIf, dChain, dSlice, dNoP, dPart, dCB, dIsi, dCall, dRaise, oEq, oNe, oLt, oLe, oGt, oGe, oIsN, r_add_ii, r_add_ss, r_add_tt, r_add_r, r_add_l, r_add_ib, r_add_bi, r_add_bb, r_sub_ii, r_sub_bb, r_mul_ii, r_mul_si, r_fdiv_ii, r_mod_ii, r_pow_ii, r_neg_i, r_eq_ii, r_eq_ss, r_ord_ii, r_ix_t, r_ix_l, r_ix_r, r_ix_s, r_len_s, r_len_t, r_len_l, r_len_r, r_abs_i, r_int_i, r_int_b, r_list, r_tuple, r_repr_s, spEnds, wkX, List.getElem?_cons_zero, List.getElem?_cons_succ, List.set_cons_zero, List.set_cons_succ, dIsX, dIsXV, dNew, dTryAs, dMethL, mAppend, mIndex, mCountB, oIn]
    refine .go ⟨_, _, rfl, by omega, Sm.mono (k := 10) (by unfold Sm; omega) (by decide), .here ?_⟩
    obtain ⟨A, B, g, eA, np, e1, e2, hg, hle⟩ := numD_is (r1 - 49) (show 0 < 1 + r2 by omega)
    have sA : Sm 4000 A := Sm.mono (k := 10) (Sm.le (i := r1 - 49) (by unfold Sm; omega) (by rw [e1]; exact mul_abs_le hg)) (by decide)
    have sB : Sm 4000 B := Sm.mono (k := 10) (Sm.le (i := 1 + r2) (by unfold Sm; omega) (by rw [e2]; exact mul_abs_le hg)) (by decide)
    rw [eA]
    dsimp only [dSeq, dEnd, dSNil, dPass, dBreak, dCont, dNever, dDrop, dRet, dRetN, dIfS, dName, dAsg, dSet, dPar2, dPar3, dGNil, dGCons, dGTup, dSubL, dWhile, dFor, dItSeq, dItR1, dItR2, dItEnum, dVar, dC, dNil, dCons, dTup, dLst, dOp, dUn, dTB, dAndT, dOrT, dNotT, dAndV, dOrV, dNotV, dIf, dChain, dSlice, dNoP, dPart, dCB, dIsi, dCall, dRaise, oEq, oNe, oLt, oLe, oGt, oGe, oIsN, r_add_ii, r_add_ss, r_add_tt, r_add_r, r_add_l, r_add_ib, r_add_bi, r_add_bb, r_sub_ii, r_sub_bb, r_mul_ii, r_mul_si, r_fdiv_ii, r_mod_ii, r_pow_ii, r_neg_i, r_eq_ii, r_eq_ss, r_ord_ii, r_ix_t, r_ix_l, r_ix_r, r_ix_s, r_len_s, r_len_t, r_len_l, r_len_r, r_abs_i, r_int_i, r_int_b, r_list, r_tuple, r_repr_s, spEnds, wkX, List.getElem?_cons_zero, List.getElem?_cons_succ, List.set_cons_zero, List.set_cons_succ, dIsX, dIsXV, dNew, dTryAs, dMethL, mAppend, mIndex, mCountB, oIn]
    refine ⟨szle (n := 2), szle (n := 2), szle (n := 2), szle (n := 2), szle (n := 2), szle (n := 2), fun q0 f0 => ⟨szle (n := 1), szle (n := 3), szle (n := 2), szle (n := 2), szle (n := 2), szle (n := 11), fun q1 f1 => ?_⟩⟩
    refine .gen (fun Nw => Pen Nw p (n + 2) ∧ Nw P = some (.tab dL qL) ∧ Nw q0 = some (.lst [.int 1, .int 2]) ∧ Nw q1 = some (.lst ((badL A B q0).take 11))) ⟨(pen2.put f0).put f1, put_keep (put_keep hP2 f0) f1, put_keep put_same f1, put_same⟩ fun M3 ⟨pen3, hP3, h03, h13⟩ => ?_
    dsimp only [dSeq, dEnd, dSNil, dPass, dBreak, dCont, dNever, dDrop, dRet, dRetN, dIfS, dName, dAsg, dSet, dPar2, dPar3, dGNil, dGCons, dGTup, dSubL, dWhile, dFor, dItSeq, dItR1, dItR2, dItEnum, dVar, dC, dNil, dCons, dTup, dLst, dOp, dUn, dTB, dAndT, dOrT, dNotT, dAndV, dOrV, dNotV, dIf, dChain, dSlice, dNoP, dPart, dCB, dIsi, dCall, dRaise, oEq, oNe, oLt, oLe, oGt, oGe, oIsN, r_add_ii, r_add_ss, r_add_tt, r_add_r, r_add_l, r_add_ib, r_add_bi, r_add_bb, r_sub_ii, r_sub_bb, r_mul_ii, r_mul_si, r_fdiv_ii, r_mod_ii, r_pow_ii, r_neg_i, r_eq_ii, r_eq_ss, r_ord_ii, r_ix_t, r_ix_l, r_ix_r, r_ix_s, r_len_s, r_len_t, r_len_l, r_len_r, r_abs_i, r_int_i, r_int_b, r_list, r_tuple, r_repr_s, spEnds, wkX, List.getElem?_cons_zero, List.getElem?_cons_succ, List.set_cons_zero, List.set_cons_succ, dIsX, dIsXV, dNew, dTryAs, dMethL, mAppend, mIndex, mCountB, oIn]
    refine ⟨szle (n := 0), szle (n := 2), szle (n := 2), szle (n := 2), szle (n := 2), szle (n := 2), szle (n := 2), cpow (by decide) (by decide) (by decide), cpow (by decide) (by decide) (by decide), szle (n := 2), szle (n := 10), fun q2 f2 => ⟨(badL A B q0).take 11, (badL A B q0).drop 11, .inl (put_keep h13 f2), .inl put_same, szle (n := 21), fun q3 f3 => ?_⟩⟩
    refine .gen (fun Nw => Pen Nw p (n + 2) ∧ Nw P = some (.tab dL qL) ∧ Nw q0 = some (.lst [.int 1, .int 2]) ∧ Nw q3 = some (.lst (badL A B q0))) ⟨(pen3.put f2).put f3, put_keep (put_keep hP3 f2) f3, put_keep (put_keep h03 f2) f3, put_same⟩ fun M4 ⟨pen4, hP4, h04, h34⟩ => ?_
    dsimp only [dSeq, dEnd, dSNil, dPass, dBreak, dCont, dNever, dDrop, dRet, dRetN, dIfS, dName, dAsg, dSet, dPar2, dPar3, dGNil, dGCons, dGTup, dSubL, dWhile, dFor, dItSeq, dItR1, dItR2, dItEnum, dVar, dC, dNil, dCons, dTup, dLst, dOp, dUn, dTB, dAndT, dOrT, dNotT, dAndV, dOrV, dNotV, dIf, dChain, dSlice, dNoP, dPart, dCB, dIsi, dCall, dRaise, oEq, oNe, oLt, oLe, oGt, oGe, oIsN, r_add_ii, r_add_ss, r_add_tt, r_add_r, r_add_l, r_add_ib, r_add_bi, r_add_bb, r_sub_ii, r_sub_bb, r_mul_ii, r_mul_si, r_fdiv_ii, r_mod_ii, r_pow_ii, r_neg_i, r_eq_ii, r_eq_ss, r_ord_ii, r_ix_t, r_ix_l, r_ix_r, r_ix_s, r_len_s, r_len_t, r_len_l, r_len_r, r_abs_i, r_int_i, r_int_b, r_list, r_tuple, r_repr_s, spEnds, wkX, List.getElem?_cons_zero, List.getElem?_cons_succ, List.set_cons_zero, List.set_cons_succ, dIsX, dIsXV, dNew, dTryAs, dMethL, mAppend, mIndex, mCountB, oIn]
    have n3 := pen_ne pen4 h34 (show (21 : Nat) ≠ 3 by decide)
    have n0 := pen_ne pen4 h04 (show (2 : Nat) ≠ 3 by decide)
    refine pick_go (fun M' hM => .inl (by rw [hM q3 n3]; exact h34)) (fun r e => by cases e; exact n3) (by show 0 < 21; decide) (by show 21 < 1000000; decide) pen4 (by omega) fun bad M5 hbad pen5 k5 => .here ?_
    have hP5 : M5 P = some (.tab dL qL) := by rw [k5 _ (pen_tab pen4 hP4)]; exact hP4
    have h05 : M5 q0 = some (.lst [.int 1, .int 2]) := by rw [k5 _ n0]; exact h04
    dsimp only [dLc]
    dsimp only [dSeq, dEnd, dSNil, dPass, dBreak, dCont, dNever, dDrop, dRet, dRetN, dIfS, dName, dAsg, dSet, dPar2, dPar3, dGNil, dGCons, dGTup, dSubL, dWhile, dFor, dItSeq, dItR1, dItR2, dItEnum, dVar, dC, dNil, dCons, dTup, dLst, dOp, dUn, dTB, dAndT, dOrT, dNotT, dAndV, dOrV, dNotV, dIf, dChain, dSlice, dNoP, dPart, dCB, dIsi, dCall, dRaise, oEq, oNe, oLt, oLe, oGt, oGe, oIsN, r_add_ii, r_add_ss, r_add_tt, r_add_r, r_add_l, r_add_ib, r_add_bi, r_add_bb, r_sub_ii, r_sub_bb, r_mul_ii, r_mul_si, r_fdiv_ii, r_mod_ii, r_pow_ii, r_neg_i, r_eq_ii, r_eq_ss, r_ord_ii, r_ix_t, r_ix_l, r_ix_r, r_ix_s, r_len_s, r_len_t, r_len_l, r_len_r, r_abs_i, r_int_i, r_int_b, r_list, r_tuple, r_repr_s, spEnds, wkX, List.getElem?_cons_zero, List.getElem?_cons_succ, List.set_cons_zero, List.set_cons_succ, dIsX, dIsXV, dNew, dTryAs, dMethL, mAppend, mIndex, mCountB, oIn]
    refine ⟨by decide, fun wl fw => ?_⟩
    have e20 : rngD 0 (2 : Int).toNat = [.int 0, .int 1] := rfl
    rw [e20]
    refine ⟨trivial, ?_⟩
    dsimp only [dSeq, dEnd, dSNil, dPass, dBreak, dCont, dNever, dDrop, dRet, dRetN, dIfS, dName, dAsg, dSet, dPar2, dPar3, dGNil, dGCons, dGTup, dSubL, dWhile, dFor, dItSeq, dItR1, dItR2, dItEnum, dVar, dC, dNil, dCons, dTup, dLst, dOp, dUn, dTB, dAndT, dOrT, dNotT, dAndV, dOrV, dNotV, dIf, dChain, dSlice, dNoP, dPart, dCB, dIsi, dCall, dRaise, oEq, oNe, oLt, oLe, oGt, oGe, oIsN, r_add_ii, r_add_ss, r_add_tt, r_add_r, r_add_l, r_add_ib, r_add_bi, r_add_bb, r_sub_ii, r_sub_bb, r_mul_ii, r_mul_si, r_fdiv_ii, r_mod_ii, r_pow_ii, r_neg_i, r_eq_ii, r_eq_ss, r_ord_ii, r_ix_t, r_ix_l, r_ix_r, r_ix_s, r_len_s, r_len_t, r_len_l, r_len_r, r_abs_i, r_int_i, r_int_b, r_list, r_tuple, r_repr_s, spEnds, wkX, List.getElem?_cons_zero, List.getElem?_cons_succ, List.set_cons_zero, List.set_cons_succ, dIsX, dIsXV, dNew, dTryAs, dMethL, mAppend, mIndex, mCountB, oIn]
    have nwl := pen5.ne fw
    refine take_go (by decide) (by unfold Sm; decide +kernel) (pen5.put fw) (by omega) fun ra M6 _ _ pen6 k6 => ?_
    dsimp only [dSeq, dEnd, dSNil, dPass, dBreak, dCont, dNever, dDrop, dRet, dRetN, dIfS, dName, dAsg, dSet, dPar2, dPar3, dGNil, dGCons, dGTup, dSubL, dWhile, dFor, dItSeq, dItR1, dItR2, dItEnum, dVar, dC, dNil, dCons, dTup, dLst, dOp, dUn, dTB, dAndT, dOrT, dNotT, dAndV, dOrV, dNotV, dIf, dChain, dSlice, dNoP, dPart, dCB, dIsi, dCall, dRaise, oEq, oNe, oLt, oLe, oGt, oGe, oIsN, r_add_ii, r_add_ss, r_add_tt, r_add_r, r_add_l, r_add_ib, r_add_bi, r_add_bb, r_sub_ii, r_sub_bb, r_mul_ii, r_mul_si, r_fdiv_ii, r_mod_ii, r_pow_ii, r_neg_i, r_eq_ii, r_eq_ss, r_ord_ii, r_ix_t, r_ix_l, r_ix_r, r_ix_s, r_len_s, r_len_t, r_len_l, r_len_r, r_abs_i, r_int_i, r_int_b, r_list, r_tuple, r_repr_s, spEnds, wkX, List.getElem?_cons_zero, List.getElem?_cons_succ, List.set_cons_zero, List.set_cons_succ, dIsX, dIsXV, dNew, dTryAs, dMethL, mAppend, mIndex, mCountB, oIn]
    refine ⟨[], by rw [k6 _ nwl]; exact put_same, szle (n := 1), trivial, ?_⟩
    dsimp only [dSeq, dEnd, dSNil, dPass, dBreak, dCont, dNever, dDrop, dRet, dRetN, dIfS, dName, dAsg, dSet, dPar2, dPar3, dGNil, dGCons, dGTup, dSubL, dWhile, dFor, dItSeq, dItR1, dItR2, dItEnum, dVar, dC, dNil, dCons, dTup, dLst, dOp, dUn, dTB, dAndT, dOrT, dNotT, dAndV, dOrV, dNotV, dIf, dChain, dSlice, dNoP, dPart, dCB, dIsi, dCall, dRaise, oEq, oNe, oLt, oLe, oGt, oGe, oIsN, r_add_ii, r_add_ss, r_add_tt, r_add_r, r_add_l, r_add_ib, r_add_bi, r_add_bb, r_sub_ii, r_sub_bb, r_mul_ii, r_mul_si, r_fdiv_ii, r_mod_ii, r_pow_ii, r_neg_i, r_eq_ii, r_eq_ss, r_ord_ii, r_ix_t, r_ix_l, r_ix_r, r_ix_s, r_len_s, r_len_t, r_len_l, r_len_r, r_abs_i, r_int_i, r_int_b, r_list, r_tuple, r_repr_s, spEnds, wkX, List.getElem?_cons_zero, List.getElem?_cons_succ, List.set_cons_zero, List.set_cons_succ, dIsX, dIsXV, dNew, dTryAs, dMethL, mAppend, mIndex, mCountB, oIn]
    refine take_go (by decide) (by unfold Sm; decide +kernel) (pen6.put' nwl) (by omega) fun rb M7 _ _ pen7 k7 => ?_
    dsimp only [dSeq, dEnd, dSNil, dPass, dBreak, dCont, dNever, dDrop, dRet, dRetN, dIfS, dName, dAsg, dSet, dPar2, dPar3, dGNil, dGCons, dGTup, dSubL, dWhile, dFor, dItSeq, dItR1, dItR2, dItEnum, dVar, dC, dNil, dCons, dTup, dLst, dOp, dUn, dTB, dAndT, dOrT, dNotT, dAndV, dOrV, dNotV, dIf, dChain, dSlice, dNoP, dPart, dCB, dIsi, dCall, dRaise, oEq, oNe, oLt, oLe, oGt, oGe, oIsN, r_add_ii, r_add_ss, r_add_tt, r_add_r, r_add_l, r_add_ib, r_add_bi, r_add_bb, r_sub_ii, r_sub_bb, r_mul_ii, r_mul_si, r_fdiv_ii, r_mod_ii, r_pow_ii, r_neg_i, r_eq_ii, r_eq_ss, r_ord_ii, r_ix_t, r_ix_l, r_ix_r, r_ix_s, r_len_s, r_len_t, r_len_l, r_len_r, r_abs_i, r_int_i, r_int_b, r_list, r_tuple, r_repr_s, spEnds, wkX, List.getElem?_cons_zero, List.getElem?_cons_succ, List.set_cons_zero, List.set_cons_succ, dIsX, dIsXV, dNew, dTryAs, dMethL, mAppend, mIndex, mCountB, oIn]
    refine ⟨[] ++ [D.bl (decide (ra = 0) ^^ false)], by rw [k7 _ nwl]; exact put_same, Nat.lt_of_lt_of_le (by simp) (szle (n := 3)), trivial, ?_⟩
    have keep : ∀ a o, a ≠ p → a ≠ wl → M5 a = some o → put M7 wl (.lst ([] ++ [D.bl (decide (ra = 0) ^^ false)] ++ [D.bl (decide (rb = 0) ^^ false)])) a = some o := fun a o h1 h2 h3 => by
      rw [put_ne h2, k7 _ h1, put_ne h2, k6 _ h1, put_ne h2]; exact h3
    have nP : P ≠ wl := fun z => by rw [z, fw] at hP5; cases hP5
    have n0l : q0 ≠ wl := fun z => by rw [z, fw] at h05; cases h05
    refine .gen (fun Nw => Pen Nw p (n + 5) ∧ Nw P = some (.tab dL qL) ∧ Nw q0 = some (.lst [.int 1, .int 2]) ∧ ∃ w0 w1, Nw wl = some (.lst [.bl w0, .bl w1]))
      ⟨pen7.put' nwl, keep _ _ (pen_tab pen5 hP5) nP hP5, keep _ _ n0 n0l h05, _, _, put_same⟩ fun M8 ⟨pen8, hP8, h08, w0, w1, hw⟩ => ?_
    dsimp only [dSeq, dEnd, dSNil, dPass, dBreak, dCont, dNever, dDrop, dRet, dRetN, dIfS, dName, dAsg, dSet, dPar2, dPar3, dGNil, dGCons, dGTup, dSubL, dWhile, dFor, dItSeq, dItR1, dItR2, dItEnum, dVar, dC, dNil, dCons, dTup, dLst, dOp, dUn, dTB, dAndT, dOrT, dNotT, dAndV, dOrV, dNotV, dIf, dChain, dSlice, dNoP, dPart, dCB, dIsi, dCall, dRaise, oEq, oNe, oLt, oLe, oGt, oGe, oIsN, r_add_ii, r_add_ss, r_add_tt, r_add_r, r_add_l, r_add_ib, r_add_bi, r_add_bb, r_sub_ii, r_sub_bb, r_mul_ii, r_mul_si, r_fdiv_ii, r_mod_ii, r_pow_ii, r_neg_i, r_eq_ii, r_eq_ss, r_ord_ii, r_ix_t, r_ix_l, r_ix_r, r_ix_s, r_len_s, r_len_t, r_len_l, r_len_r, r_abs_i, r_int_i, r_int_b, r_list, r_tuple, r_repr_s, spEnds, wkX, List.getElem?_cons_zero, List.getElem?_cons_succ, List.set_cons_zero, List.set_cons_succ, dIsX, dIsXV, dNew, dTryAs, dMethL, mAppend, mIndex, mCountB, oIn]
    have nb : ∀ w M', M' q0 = some (.lst [.int 1, .int 2]) → NumW M' w (pickD bad A B w) := fun w M' h => by
      cases w
      · exact ⟨A, B, rfl, np, sA, sB⟩
      · exact bad_ok hbad M' h
    apply tailsG (ι := Unit) (fun _ => [s0, some (.ref p), some x, some (.tup [.int A, .int B]), some (.ref q3), some bad, some (.ref wl), s7, s8, s9, some (pickD bad A B w0), some (pickD bad A B w1), s12]) (fun _ => M8) fun _ => True
    · intro tl
      have tl := tl () trivial
      refine ⟨_, .bl w0, .inl hw, rfl, ?_⟩
      cases w0
      · refine bcase_f rfl ⟨_, .bl w1, .inl hw, rfl, ?_⟩
        cases w1
        · exact bcase_f rfl ⟨szle (n := 2), tl⟩
        · exact bcase_t rfl ⟨szle (n := 2), tl⟩
      · refine bcase_t rfl ⟨_, .bl w1, .inl hw, rfl, ?_⟩
        cases w1
        · exact bcase_f rfl ⟨szle (n := 2), tl⟩
        · exact bcase_t rfl ⟨szle (n := 2), tl⟩
    intro _ _
    dsimp only [dSeq, dEnd, dSNil, dPass, dBreak, dCont, dNever, dDrop, dRet, dRetN, dIfS, dName, dAsg, dSet, dPar2, dPar3, dGNil, dGCons, dGTup, dSubL, dWhile, dFor, dItSeq, dItR1, dItR2, dItEnum, dVar, dC, dNil, dCons, dTup, dLst, dOp, dUn, dTB, dAndT, dOrT, dNotT, dAndV, dOrV, dNotV, dIf, dChain, dSlice, dNoP, dPart, dCB, dIsi, dCall, dRaise, oEq, oNe, oLt, oLe, oGt, oGe, oIsN, r_add_ii, r_add_ss, r_add_tt, r_add_r, r_add_l, r_add_ib, r_add_bi, r_add_bb, r_sub_ii, r_sub_bb, r_mul_ii, r_mul_si, r_fdiv_ii, r_mod_ii, r_pow_ii, r_neg_i, r_eq_ii, r_eq_ss, r_ord_ii, r_ix_t, r_ix_l, r_ix_r, r_ix_s, r_len_s, r_len_t, r_len_l, r_len_r, r_abs_i, r_int_i, r_int_b, r_list, r_tuple, r_repr_s, spEnds, wkX, List.getElem?_cons_zero, List.getElem?_cons_succ, List.set_cons_zero, List.set_cons_succ, dIsX, dIsXV, dNew, dTryAs, dMethL, mAppend, mIndex, mCountB, oIn]
    apply tailsG (ι := Unit) (fun _ => [s0, some (.ref p), some x, some (.tup [.int A, .int B]), some (.ref q3), some bad, some (.ref wl), some (.str (dueS (w0 || w1))), s8, s9, some (pickD bad A B w0), some (pickD bad A B w1), s12]) (fun _ => M8) fun _ => True
    · intro tl
      have tl := tl () trivial
      refine ⟨_, .inl hw, rfl, rfl, ?_⟩
      rw [wrong_in]
      cases w0
      · cases w1
        · exact bcase_f rfl tl
        · exact bcase_t rfl tl
      · exact bcase_t rfl tl
    intro _ _
    dsimp only [dSeq, dEnd, dSNil, dPass, dBreak, dCont, dNever, dDrop, dRet, dRetN, dIfS, dName, dAsg, dSet, dPar2, dPar3, dGNil, dGCons, dGTup, dSubL, dWhile, dFor, dItSeq, dItR1, dItR2, dItEnum, dVar, dC, dNil, dCons, dTup, dLst, dOp, dUn, dTB, dAndT, dOrT, dNotT, dAndV, dOrV, dNotV, dIf, dChain, dSlice, dNoP, dPart, dCB, dIsi, dCall, dRaise, oEq, oNe, oLt, oLe, oGt, oGe, oIsN, r_add_ii, r_add_ss, r_add_tt, r_add_r, r_add_l, r_add_ib, r_add_bi, r_add_bb, r_sub_ii, r_sub_bb, r_mul_ii, r_mul_si, r_fdiv_ii, r_mod_ii, r_pow_ii, r_neg_i, r_eq_ii, r_eq_ss, r_ord_ii, r_ix_t, r_ix_l, r_ix_r, r_ix_s, r_len_s, r_len_t, r_len_l, r_len_r, r_abs_i, r_int_i, r_int_b, r_list, r_tuple, r_repr_s, spEnds, wkX, List.getElem?_cons_zero, List.getElem?_cons_succ, List.set_cons_zero, List.set_cons_succ, dIsX, dIsXV, dNew, dTryAs, dMethL, mAppend, mIndex, mCountB, oIn]
    refine lam_go (S := S_plus) (fun M Q X h => ⟨_, _, rfl, h⟩) hP8 (fun R' M' h => h) (nb w0 _ (one_lst h08)) (nb w1 _ (one_lst h08)) ?_
    dsimp only [dSeq, dEnd, dSNil, dPass, dBreak, dCont, dNever, dDrop, dRet, dRetN, dIfS, dName, dAsg, dSet, dPar2, dPar3, dGNil, dGCons, dGTup, dSubL, dWhile, dFor, dItSeq, dItR1, dItR2, dItEnum, dVar, dC, dNil, dCons, dTup, dLst, dOp, dUn, dTB, dAndT, dOrT, dNotT, dAndV, dOrV, dNotV, dIf, dChain, dSlice, dNoP, dPart, dCB, dIsi, dCall, dRaise, oEq, oNe, oLt, oLe, oGt, oGe, oIsN, r_add_ii, r_add_ss, r_add_tt, r_add_r, r_add_l, r_add_ib, r_add_bi, r_add_bb, r_sub_ii, r_sub_bb, r_mul_ii, r_mul_si, r_fdiv_ii, r_mod_ii, r_pow_ii, r_neg_i, r_eq_ii, r_eq_ss, r_ord_ii, r_ix_t, r_ix_l, r_ix_r, r_ix_s, r_len_s, r_len_t, r_len_l, r_len_r, r_abs_i, r_int_i, r_int_b, r_list, r_tuple, r_repr_s, spEnds, wkX, List.getElem?_cons_zero, List.getElem?_cons_succ, List.set_cons_zero, List.set_cons_succ, dIsX, dIsXV, dNew, dTryAs, dMethL, mAppend, mIndex, mCountB, oIn]
    refine bcase_f ne_same (.gen (fun Nw => Pen Nw p (n + 5) ∧ Nw P = some (.tab dL qL) ∧ Nw q0 = some (.lst [.int 1, .int 2]) ∧ Nw wl = some (.lst [.bl w0, .bl w1])) ⟨one_pen pen8, one_tab hP8, one_lst h08, one_lst hw⟩ fun M9 ⟨pen9, hP9, h09, hw9⟩ => ?_)
    dsimp only [dSeq, dEnd, dSNil, dPass, dBreak, dCont, dNever, dDrop, dRet, dRetN, dIfS, dName, dAsg, dSet, dPar2, dPar3, dGNil, dGCons, dGTup, dSubL, dWhile, dFor, dItSeq, dItR1, dItR2, dItEnum, dVar, dC, dNil, dCons, dTup, dLst, dOp, dUn, dTB, dAndT, dOrT, dNotT, dAndV, dOrV, dNotV, dIf, dChain, dSlice, dNoP, dPart, dCB, dIsi, dCall, dRaise, oEq, oNe, oLt, oLe, oGt, oGe, oIsN, r_add_ii, r_add_ss, r_add_tt, r_add_r, r_add_l, r_add_ib, r_add_bi, r_add_bb, r_sub_ii, r_sub_bb, r_mul_ii, r_mul_si, r_fdiv_ii, r_mod_ii, r_pow_ii, r_neg_i, r_eq_ii, r_eq_ss, r_ord_ii, r_ix_t, r_ix_l, r_ix_r, r_ix_s, r_len_s, r_len_t, r_len_l, r_len_r, r_abs_i, r_int_i, r_int_b, r_list, r_tuple, r_repr_s, spEnds, wkX, List.getElem?_cons_zero, List.getElem?_cons_succ, List.set_cons_zero, List.set_cons_succ, dIsX, dIsXV, dNew, dTryAs, dMethL, mAppend, mIndex, mCountB, oIn]
    refine lam_go (S := S_minus) (fun M Q X h => ⟨_, _, rfl, h⟩) hP9 (fun R' M' h => h) (nb w0 _ (one_lst h09)) (nb w1 _ (one_lst h09)) ?_
    dsimp only [dSeq, dEnd, dSNil, dPass, dBreak, dCont, dNever, dDrop, dRet, dRetN, dIfS, dName, dAsg, dSet, dPar2, dPar3, dGNil, dGCons, dGTup, dSubL, dWhile, dFor, dItSeq, dItR1, dItR2, dItEnum, dVar, dC, dNil, dCons, dTup, dLst, dOp, dUn, dTB, dAndT, dOrT, dNotT, dAndV, dOrV, dNotV, dIf, dChain, dSlice, dNoP, dPart, dCB, dIsi, dCall, dRaise, oEq, oNe, oLt, oLe, oGt, oGe, oIsN, r_add_ii, r_add_ss, r_add_tt, r_add_r, r_add_l, r_add_ib, r_add_bi, r_add_bb, r_sub_ii, r_sub_bb, r_mul_ii, r_mul_si, r_fdiv_ii, r_mod_ii, r_pow_ii, r_neg_i, r_eq_ii, r_eq_ss, r_ord_ii, r_ix_t, r_ix_l, r_ix_r, r_ix_s, r_len_s, r_len_t, r_len_l, r_len_r, r_abs_i, r_int_i, r_int_b, r_list, r_tuple, r_repr_s, spEnds, wkX, List.getElem?_cons_zero, List.getElem?_cons_succ, List.set_cons_zero, List.set_cons_succ, dIsX, dIsXV, dNew, dTryAs, dMethL, mAppend, mIndex, mCountB, oIn]
    refine bcase_f ne_same (.gen (fun Nw => Pen Nw p (n + 5) ∧ Nw P = some (.tab dL qL) ∧ Nw q0 = some (.lst [.int 1, .int 2]) ∧ Nw wl = some (.lst [.bl w0, .bl w1])) ⟨one_pen pen9, one_tab hP9, one_lst h09, one_lst hw9⟩ fun Ma ⟨pena, hPa, h0a, hwa⟩ => ?_)
    dsimp only [dSeq, dEnd, dSNil, dPass, dBreak, dCont, dNever, dDrop, dRet, dRetN, dIfS, dName, dAsg, dSet, dPar2, dPar3, dGNil, dGCons, dGTup, dSubL, dWhile, dFor, dItSeq, dItR1, dItR2, dItEnum, dVar, dC, dNil, dCons, dTup, dLst, dOp, dUn, dTB, dAndT, dOrT, dNotT, dAndV, dOrV, dNotV, dIf, dChain, dSlice, dNoP, dPart, dCB, dIsi, dCall, dRaise, oEq, oNe, oLt, oLe, oGt, oGe, oIsN, r_add_ii, r_add_ss, r_add_tt, r_add_r, r_add_l, r_add_ib, r_add_bi, r_add_bb, r_sub_ii, r_sub_bb, r_mul_ii, r_mul_si, r_fdiv_ii, r_mod_ii, r_pow_ii, r_neg_i, r_eq_ii, r_eq_ss, r_ord_ii, r_ix_t, r_ix_l, r_ix_r, r_ix_s, r_len_s, r_len_t, r_len_l, r_len_r, r_abs_i, r_int_i, r_int_b, r_list, r_tuple, r_repr_s, spEnds, wkX, List.getElem?_cons_zero, List.getElem?_cons_succ, List.set_cons_zero, List.set_cons_succ, dIsX, dIsXV, dNew, dTryAs, dMethL, mAppend, mIndex, mCountB, oIn]
    refine lam_go (S := S_compared) (fun M Q X h => ⟨_, _, rfl, h⟩) hPa (fun R' M' h => h) (nb w0 _ (one_lst h0a)) (nb w1 _ (one_lst h0a)) ?_
    dsimp only [dSeq, dEnd, dSNil, dPass, dBreak, dCont, dNever, dDrop, dRet, dRetN, dIfS, dName, dAsg, dSet, dPar2, dPar3, dGNil, dGCons, dGTup, dSubL, dWhile, dFor, dItSeq, dItR1, dItR2, dItEnum, dVar, dC, dNil, dCons, dTup, dLst, dOp, dUn, dTB, dAndT, dOrT, dNotT, dAndV, dOrV, dNotV, dIf, dChain, dSlice, dNoP, dPart, dCB, dIsi, dCall, dRaise, oEq, oNe, oLt, oLe, oGt, oGe, oIsN, r_add_ii, r_add_ss, r_add_tt, r_add_r, r_add_l, r_add_ib, r_add_bi, r_add_bb, r_sub_ii, r_sub_bb, r_mul_ii, r_mul_si, r_fdiv_ii, r_mod_ii, r_pow_ii, r_neg_i, r_eq_ii, r_eq_ss, r_ord_ii, r_ix_t, r_ix_l, r_ix_r, r_ix_s, r_len_s, r_len_t, r_len_l, r_len_r, r_abs_i, r_int_i, r_int_b, r_list, r_tuple, r_repr_s, spEnds, wkX, List.getElem?_cons_zero, List.getElem?_cons_succ, List.set_cons_zero, List.set_cons_succ, dIsX, dIsXV, dNew, dTryAs, dMethL, mAppend, mIndex, mCountB, oIn]
    refine bcase_f ne_same (.gen (fun Nw => Pen Nw p (n + 5) ∧ Nw P = some (.tab dL qL) ∧ Nw q0 = some (.lst [.int 1, .int 2]) ∧ Nw wl = some (.lst [.bl w0, .bl w1])) ⟨one_pen pena, one_tab hPa, one_lst h0a, one_lst hwa⟩ fun Mb ⟨penb, hPb, h0b, hwb⟩ => ?_)
    dsimp only [dSeq, dEnd, dSNil, dPass, dBreak, dCont, dNever, dDrop, dRet, dRetN, dIfS, dName, dAsg, dSet, dPar2, dPar3, dGNil, dGCons, dGTup, dSubL, dWhile, dFor, dItSeq, dItR1, dItR2, dItEnum, dVar, dC, dNil, dCons, dTup, dLst, dOp, dUn, dTB, dAndT, dOrT, dNotT, dAndV, dOrV, dNotV, dIf, dChain, dSlice, dNoP, dPart, dCB, dIsi, dCall, dRaise, oEq, oNe, oLt, oLe, oGt, oGe, oIsN, r_add_ii, r_add_ss, r_add_tt, r_add_r, r_add_l, r_add_ib, r_add_bi, r_add_bb, r_sub_ii, r_sub_bb, r_mul_ii, r_mul_si, r_fdiv_ii, r_mod_ii, r_pow_ii, r_neg_i, r_eq_ii, r_eq_ss, r_ord_ii, r_ix_t, r_ix_l, r_ix_r, r_ix_s, r_len_s, r_len_t, r_len_l, r_len_r, r_abs_i, r_int_i, r_int_b, r_list, r_tuple, r_repr_s, spEnds, wkX, List.getElem?_cons_zero, List.getElem?_cons_succ, List.set_cons_zero, List.set_cons_succ, dIsX, dIsXV, dNew, dTryAs, dMethL, mAppend, mIndex, mCountB, oIn]
    -- n and d
    have hB : 0 < B := np.pos
    have sB9 : Sm 9000 B := sB.mono (by decide)
    have a0 : ∃ es d, isSeq Mb (.tup [.int A, .int B]) es ∧ atI es 0 = some d ∧ d = .int A := ⟨_, _, rfl, rfl, rfl⟩
    apply tailsG (ι := D × DM) (fun i => [s0, some (.ref p), some x, some (.tup [.int A, .int B]), some (.ref q3), some bad, some (.ref wl), some (.str (dueS (w0 || w1))), s8, some i.1, some (pickD bad A B w0), some (pickD bad A B w1), s12]) (fun i => i.2) fun i => Pen i.2 p (n + 6) ∧ i.2 P = some (.tab dL qL) ∧ i.2 wl = some (.lst [.bl w0, .bl w1]) ∧ NW i.2 w0 A i.1 ∧ i.1 ≠ .ref p
    · intro tl
      refine ⟨_, .bl w0, .inl hwb, rfl, ?_⟩
      cases w0
      · exact bcase_f rfl ⟨_, _, rfl, rfl, tl (_, _) ⟨penb.mono (by omega), hPb, hwb, rfl, fun z => by cases z⟩⟩
      · refine bcase_t rfl ⟨szle (n := 1), szle (n := 0), fun qe fe => ⟨szle (n := 2), szle (n := 7), fun ql fl => ?_⟩⟩
        have pn := (penb.put (o := .lst []) fe).put (o := .lst [.non, .bl true, .bl false, .str "7", .tup [.int 1], .ref qe, .tup [.int 7, .int 1]]) fl
        have nqe : qe ≠ p := penb.ne fe
        have nql : ql ≠ p := (penb.put (o := .lst []) fe).ne fl
        refine pick_go (es := [.non, .bl true, .bl false, .str "7", .tup [.int 1], .ref qe, .tup [.int 7, .int 1]]) (fun M' hM => .inl (by rw [hM ql nql]; exact put_same)) (fun r e => by cases e; exact nql) (by show 0 < 7; decide) (by show 7 < 1000000; decide) pn (by omega) fun nn Mc hnn penc kc => ?_
        have hqe : Mc qe = some (.lst []) := by rw [kc _ nqe]; exact put_keep put_same fl
        refine tl (nn, Mc) ⟨penc, ?_, ?_, ?_, ?_⟩
        · show Mc P = _
          rw [kc _ (pen_tab penb hPb)]; exact put_keep (put_keep hPb fe) fl
        · show Mc wl = _
          rw [kc _ (pen_ne penb hwb (by simp))]; exact put_keep (put_keep hwb fe) fl
        · simp only [List.mem_cons, List.not_mem_nil, or_false] at hnn
          rcases hnn with rfl | rfl | rfl | rfl | rfl | rfl | rfl
          case inr.inr.inr.inr.inr.inl => exact ⟨.inl ⟨_, .inl hqe, trivial⟩, rfl⟩
          all_goals exact ⟨trivial, rfl⟩
        · simp only [List.mem_cons, List.not_mem_nil, or_false] at hnn
          rcases hnn with rfl | rfl | rfl | rfl | rfl | rfl | rfl
          case inr.inr.inr.inr.inr.inl => exact fun z => by cases z; exact nqe rfl
          all_goals exact fun z => by cases z
    rintro ⟨nn, Mc⟩ ⟨penc, hPc, hwc, hnn, nnp⟩
    dsimp only at penc hPc hwc hnn nnp
    dsimp only [dSeq, dEnd, dSNil, dPass, dBreak, dCont, dNever, dDrop, dRet, dRetN, dIfS, dName, dAsg, dSet, dPar2, dPar3, dGNil, dGCons, dGTup, dSubL, dWhile, dFor, dItSeq, dItR1, dItR2, dItEnum, dVar, dC, dNil, dCons, dTup, dLst, dOp, dUn, dTB, dAndT, dOrT, dNotT, dAndV, dOrV, dNotV, dIf, dChain, dSlice, dNoP, dPart, dCB, dIsi, dCall, dRaise, oEq, oNe, oLt, oLe, oGt, oGe, oIsN, r_add_ii, r_add_ss, r_add_tt, r_add_r, r_add_l, r_add_ib, r_add_bi, r_add_bb, r_sub_ii, r_sub_bb, r_mul_ii, r_mul_si, r_fdiv_ii, r_mod_ii, r_pow_ii, r_neg_i, r_eq_ii, r_eq_ss, r_ord_ii, r_ix_t, r_ix_l, r_ix_r, r_ix_s, r_len_s, r_len_t, r_len_l, r_len_r, r_abs_i, r_int_i, r_int_b, r_list, r_tuple, r_repr_s, spEnds, wkX, List.getElem?_cons_zero, List.getElem?_cons_succ, List.set_cons_zero, List.set_cons_succ, dIsX, dIsXV, dNew, dTryAs, dMethL, mAppend, mIndex, mCountB, oIn]
    apply tailsG (ι := D × DM) (fun i => [s0, some (.ref p), some x, some (.tup [.int A, .int B]), some (.ref q3), some bad, some (.ref wl), some (.str (dueS (w0 || w1))), some i.1, some nn, some (pickD bad A B w0), some (pickD bad A B w1), s12]) (fun i => i.2) fun i => Pen i.2 p (n + 7) ∧ i.2 P = some (.tab dL qL) ∧ i.2 wl = some (.lst [.bl w0, .bl w1]) ∧ NW i.2 w0 A nn ∧ DW i.2 w1 B i.1
    · intro tl
      refine ⟨_, .bl w1, .inl hwc, rfl, ?_⟩
      cases w1
      · exact bcase_f rfl ⟨_, _, rfl, rfl, tl (_, _) ⟨penc.mono (by omega), hPc, hwc, hnn, rfl⟩⟩
      · refine bcase_t rfl ⟨szle (n := 1), szle (n := 1), fun qe fe => ⟨cpow (by decide) (by decide) (by decide), szle (n := 8), fun ql fl => ?_⟩⟩
        have pn := (penc.put (o := .lst [.int 1]) fe).put (o := .lst [.non, .bl true, .int 0, .int (-1), .str "7", .tup [.int 1], .ref qe, .int (-(10 ^ (20 : Int).toNat))]) fl
        have nqe : qe ≠ p := penc.ne fe
        have nql : ql ≠ p := (penc.put (o := .lst [.int 1]) fe).ne fl
        refine pick_go (es := [.non, .bl true, .int 0, .int (-1), .str "7", .tup [.int 1], .ref qe, .int (-(10 ^ (20 : Int).toNat))]) (fun M' hM => .inl (by rw [hM ql nql]; exact put_same)) (fun r e => by cases e; exact nql) (by show 0 < 8; decide) (by show 8 < 1000000; decide) pn (by omega) fun dd Md hdd pend kd => ?_
        have hqe : Md qe = some (.lst [.int 1]) := by rw [kd _ nqe]; exact put_keep put_same fl
        have keepd : ∀ a o, a ≠ p → Mc a = some o → Md a = some o := fun a o h1 h2 => by rw [kd _ h1]; exact put_keep (put_keep h2 fe) fl
        refine tl (dd, Md) ⟨pend, keepd _ _ (pen_tab penc hPc) hPc, keepd _ _ (pen_ne penc hwc (by simp)) hwc, ?_, ?_⟩
        · cases w0 with
          | false => exact hnn
          | true =>
            refine ⟨?_, hnn.2⟩
            have kn := hnn.1
            cases nn with
            | ref a =>
              have na : a ≠ p := fun z => nnp (by rw [z])
              rcases kn with ⟨ds, h1, _⟩ | ⟨kvs, h1, _⟩
              · exact .inl ⟨ds, h1.elim (fun h1 => .inl (keepd _ _ na h1)) fun h1 => .inr (keepd _ _ na h1), trivial⟩
              · exact .inr ⟨kvs, keepd _ _ na h1, trivial⟩
            | ty t => exact kn.elim
            | _ => exact trivial
        · simp only [List.mem_cons, List.not_mem_nil, or_false] at hdd
          rcases hdd with rfl | rfl | rfl | rfl | rfl | rfl | rfl | rfl
          case inr.inr.inr.inr.inr.inr.inl => exact ⟨.inl ⟨_, .inl hqe, trivial⟩, .inl rfl⟩
          case inr.inr.inl => exact ⟨trivial, .inr ⟨_, rfl, by decide⟩⟩
          case inr.inr.inr.inl => exact ⟨trivial, .inr ⟨_, rfl, by decide⟩⟩
          case inr.inr.inr.inr.inr.inr.inr => exact ⟨trivial, .inr ⟨_, rfl, by decide⟩⟩
          all_goals exact ⟨trivial, .inl rfl⟩
    rintro ⟨dd, Md⟩ ⟨pend, hPd, hwd, hnd, hdd⟩
    dsimp only at pend hPd hwd hnd hdd
    dsimp only [dSeq, dEnd, dSNil, dPass, dBreak, dCont, dNever, dDrop, dRet, dRetN, dIfS, dName, dAsg, dSet, dPar2, dPar3, dGNil, dGCons, dGTup, dSubL, dWhile, dFor, dItSeq, dItR1, dItR2, dItEnum, dVar, dC, dNil, dCons, dTup, dLst, dOp, dUn, dTB, dAndT, dOrT, dNotT, dAndV, dOrV, dNotV, dIf, dChain, dSlice, dNoP, dPart, dCB, dIsi, dCall, dRaise, oEq, oNe, oLt, oLe, oGt, oGe, oIsN, r_add_ii, r_add_ss, r_add_tt, r_add_r, r_add_l, r_add_ib, r_add_bi, r_add_bb, r_sub_ii, r_sub_bb, r_mul_ii, r_mul_si, r_fdiv_ii, r_mod_ii, r_pow_ii, r_neg_i, r_eq_ii, r_eq_ss, r_ord_ii, r_ix_t, r_ix_l, r_ix_r, r_ix_s, r_len_s, r_len_t, r_len_l, r_len_r, r_abs_i, r_int_i, r_int_b, r_list, r_tuple, r_repr_s, spEnds, wkX, List.getElem?_cons_zero, List.getElem?_cons_succ, List.set_cons_zero, List.set_cons_succ, dIsX, dIsXV, dNew, dTryAs, dMethL, mAppend, mIndex, mCountB, oIn]
    -- what is due
    apply tailsG (ι := Unit) (fun _ => [s0, some (.ref p), some x, some (.tup [.int A, .int B]), some (.ref q3), some bad, some (.ref wl), some (.str (due2 w0 w1)), some dd, some nn, some (pickD bad A B w0), some (pickD bad A B w1), s12]) (fun _ => Md) fun _ => True
    · intro tl
      have tl := tl () trivial
      refine ⟨_, .bl w0, .inl hwd, rfl, ?_⟩
      cases w0
      · refine bcase_f rfl ⟨_, .bl w1, .inl hwd, rfl, ?_⟩
        cases w1
        · exact bcase_f rfl tl
        · exact bcase_t rfl tl
      · exact bcase_t rfl tl
    intro _ _
    dsimp only [dSeq, dEnd, dSNil, dPass, dBreak, dCont, dNever, dDrop, dRet, dRetN, dIfS, dName, dAsg, dSet, dPar2, dPar3, dGNil, dGCons, dGTup, dSubL, dWhile, dFor, dItSeq, dItR1, dItR2, dItEnum, dVar, dC, dNil, dCons, dTup, dLst, dOp, dUn, dTB, dAndT, dOrT, dNotT, dAndV, dOrV, dNotV, dIf, dChain, dSlice, dNoP, dPart, dCB, dIsi, dCall, dRaise, oEq, oNe, oLt, oLe, oGt, oGe, oIsN, r_add_ii, r_add_ss, r_add_tt, r_add_r, r_add_l, r_add_ib, r_add_bi, r_add_bb, r_sub_ii, r_sub_bb, r_mul_ii, r_mul_si, r_fdiv_ii, r_mod_ii, r_pow_ii, r_neg_i, r_eq_ii, r_eq_ss, r_ord_ii, r_ix_t, r_ix_l, r_ix_r, r_ix_s, r_len_s, r_len_t, r_len_l, r_len_r, r_abs_i, r_int_i, r_int_b, r_list, r_tuple, r_repr_s, spEnds, wkX, List.getElem?_cons_zero, List.getElem?_cons_succ, List.set_cons_zero, List.set_cons_succ, dIsX, dIsXV, dNew, dTryAs, dMethL, mAppend, mIndex, mCountB, oIn]
    have hn1 : NW (oneTab Md dL qL) w0 A nn := by
      cases w0 with
      | false => exact hnd
      | true =>
        refine ⟨?_, hnd.2⟩
        have kn := hnd.1
        cases nn with
        | ref a =>
          rcases kn with ⟨ds, h1, _⟩ | ⟨kvs, h1, _⟩
          · exact .inl ⟨ds, h1.elim (fun h1 => .inl (oneTab_keep h1 (by intro _ _ z; cases z))) fun h1 => .inr (oneTab_keep h1 (by intro _ _ z; cases z)), trivial⟩
          · exact .inr ⟨kvs, oneTab_keep h1 (by intro _ _ z; cases z), trivial⟩
        | ty t => exact kn.elim
        | _ => exact trivial
    have hd1 : DW (oneTab Md dL qL) w1 B dd := by
      cases w1 with
      | false => exact hdd
      | true =>
        refine ⟨?_, hdd.2⟩
        have kn := hdd.1
        cases dd with
        | ref a =>
          rcases kn with ⟨ds, h1, _⟩ | ⟨kvs, h1, _⟩
          · exact .inl ⟨ds, h1.elim (fun h1 => .inl (oneTab_keep h1 (by intro _ _ z; cases z))) fun h1 => .inr (oneTab_keep h1 (by intro _ _ z; cases z)), trivial⟩
          · exact .inr ⟨kvs, oneTab_keep h1 (by intro _ _ z; cases z), trivial⟩
        | ty t => exact kn.elim
        | _ => exact trivial
    refine lam_go2 hB sB9 hPd (fun R' M' h => h) hn1 hd1 ?_
    dsimp only [dSeq, dEnd, dSNil, dPass, dBreak, dCont, dNever, dDrop, dRet, dRetN, dIfS, dName, dAsg, dSet, dPar2, dPar3, dGNil, dGCons, dGTup, dSubL, dWhile, dFor, dItSeq, dItR1, dItR2, dItEnum, dVar, dC, dNil, dCons, dTup, dLst, dOp, dUn, dTB, dAndT, dOrT, dNotT, dAndV, dOrV, dNotV, dIf, dChain, dSlice, dNoP, dPart, dCB, dIsi, dCall, dRaise, oEq, oNe, oLt, oLe, oGt, oGe, oIsN, r_add_ii, r_add_ss, r_add_tt, r_add_r, r_add_l, r_add_ib, r_add_bi, r_add_bb, r_sub_ii, r_sub_bb, r_mul_ii, r_mul_si, r_fdiv_ii, r_mod_ii, r_pow_ii, r_neg_i, r_eq_ii, r_eq_ss, r_ord_ii, r_ix_t, r_ix_l, r_ix_r, r_ix_s, r_len_s, r_len_t, r_len_l, r_len_r, r_abs_i, r_int_i, r_int_b, r_list, r_tuple, r_repr_s, spEnds, wkX, List.getElem?_cons_zero, List.getElem?_cons_succ, List.set_cons_zero, List.set_cons_succ, dIsX, dIsXV, dNew, dTryAs, dMethL, mAppend, mIndex, mCountB, oIn]
    refine bcase_f ne_same (.here ?_)
    rw [← hNX]
    exact turn32 hb fin xs (n + 7) _ _ _ _ _ _ _ _ _ _ _ _ _ (one_pen pend) (one_tab hPd) (by omega)
theorem p_law32 (ds : List D) (M : DM) (Q : D → DM → Prop) (X : XD) (hl : ds.length = 1) (h : S_law32 ds M Q X) : (b_law32 (wkX X)).run (spEnds Q) (dStart 13 ds) M := by
  obtain ⟨ns, P, rfl, hn, hP, q⟩ := h
  show (b_law32 _).run (spEnds Q) [some (.lst (ns.map D.int)), none, none, none, none, none, none, none, none, none, none, none, none] M
  dsimp only [b_law32, dSeq, dFor, dSet, dItR1, dC]
  refine .go ⟨ns, rfl, hn, fun p o f po => .here ⟨by decide, ?_⟩⟩
  refine turn32 rfl ?_ _ 0 _ _ _ _ _ _ _ _ _ _ _ _ _ (.now po) (put_keep hP f) (by rw [rngD_len]; decide)
  intro δ M' _
  exact .here (.here (q M'))
/-- the code object of a def of the text -/
theorem code_ref {K : PySem.W.Frag} {d : Str × Option Str} {cdv : Value} {x qual : Str} {params : Arguments} {body : List Stmt} {scope : Scope} {dvs : List V} {kws : List (Str × V)} {fd : FuncData} (F : FunD K x qual params body scope dvs kws (He.fAd K d) fd) (h : CodeF K (He.fAd K d) cdv) : cdv = .ref (He.cT K d).1 := by
  obtain ⟨oc, od, dV, kV, doc, pm, an, cd, ct, osl, rfl, lk, hcd, _, _⟩ := F.ex
  obtain ⟨oc', od', fd', osl', lk', e⟩ := h
  rw [lk] at lk'
  cases lk'
  have e2 : cd = cdv := e
  subst e2
  cases cd with
  | ref c => exact congrArg Value.ref (He.codeOf_eq lk rfl).symm
  | _ => cases hcd
end LD

set_option maxHeartbeats 0
namespace R32
open PySem PySem.Spec PyProof.Rows L2 LD
def top (i : Nat) : Stmt := PySem.Challenge.pw_laterless_k32_numbers_refused.main.body.getD i (.Pass ⟨0, 0, 0, 0⟩)
abbrev FnP (K : PySem.W.Frag) (x : Str) (st : Stmt) (f : Addr) (fd : FuncData) : Prop := FunD K x x (defArgs st) (defBody st) (defScope st) [] [] f fd
section
variable {gb : Bool} {P : Program} {w : World} {K : PySem.W.Frag} {mg : Str → Option Value} {base : Heap} {f : Addr} {fd : FuncData}
theorem sc_is_integer : FnScope ["thing"] ["thing"] (defScope (top 15)) := ⟨rfl, rfl, rfl, by decide +kernel, rfl, by decide +kernel, by decide +kernel⟩
theorem ok_is_integer (F : FnP K "is_integer" (top 15) f fd) (hm : mg "is_integer" = some (.ref f)) (h_isinstance : mg "isinstance" = none) (h_int : mg "int" = none) (h_bool : mg "bool" = none) : Good gb P w K mg base "is_integer" 1 ["thing"] S_is_integer := by
  refine good_of (b := b_is_integer) F hm (F.bindsN fun _ _ _ _ _ _ us hl => match us, hl with | [_], _ => rfl) sc_is_integer p_is_integer fun cdv A outer s H E X hr lt => ?_
  have nd := sc_is_integer.nd
  exact qss_one (qs_ret (qe_and (qe_isi .int (qv 0) rfl h_isinstance rfl h_int bb_isinstance bb_int) (qe_one (qe_not (qe_isi .bool (qv 0) rfl h_isinstance rfl h_bool bb_isinstance bb_bool)))))
theorem sc_common : FnScope ["one", "other"] ["one", "other"] (defScope (top 16)) := ⟨rfl, rfl, rfl, by decide +kernel, rfl, by decide +kernel, by decide +kernel⟩
theorem ok_common (F : FnP K "common" (top 16) f fd) (hm : mg "common" = some (.ref f))  : Good gb P w K mg base "common" 1 ["one", "other"] S_common := by
  refine good_of (b := b_common) F hm (F.bindsN fun _ _ _ _ _ _ us hl => match us, hl with | [_, _], _ => rfl) sc_common p_common fun cdv A outer s H E X hr lt => ?_
  have nd := sc_common.nd
  exact qss_cons (qs_while po_bx (qt_cmp (o_ne hr.hu) (qv 1) (qe_int) (nomark _)) (qss_one (qs_par2 rfl nd rfl rfl (by decide) rfl rfl (qa_cons (qv 1) (qa_cons (qe_op o_mod (qv 0) (qv 1)) (qa_nil))) rfl)))
    (qss_one (qs_ret (qv 0)))
theorem sc_reduced : FnScope ["n", "d", "by"] ["n", "d"] (defScope (top 17)) := ⟨rfl, rfl, rfl, by decide +kernel, rfl, by decide +kernel, by decide +kernel⟩
theorem ok_reduced (F : FnP K "reduced" (top 17) f fd) (hm : mg "reduced" = some (.ref f)) (h_abs : mg "abs" = none) (G_common : Good gb P w K mg base "common" 1 ["one", "other"] S_common) : Good gb P w K mg base "reduced" 2 ["n", "d"] S_reduced := by
  refine good_of (b := b_reduced) F hm (F.bindsN fun _ _ _ _ _ _ us hl => match us, hl with | [_, _], _ => rfl) sc_reduced p_reduced fun cdv A outer s H E X hr lt => ?_
  have nd := sc_reduced.nd
  exact qss_cons (qs_set nd rfl (.inl rfl) (qe_fn (G_common.mono (by decide)) hr lt rfl (qa_cons (qe_callB c_abs rfl h_abs bb_abs (qa_cons (qv 0) (qa_nil))) (qa_cons (qv 1) (qa_nil))) (is_cons (is_cons is_nil))))
    (qss_one (qs_ret (qe_tup (qa_cons (qe_op o_fdiv (qv 0) (qv 2)) (qa_cons (qe_op o_fdiv (qv 1) (qv 2)) (qa_nil))))))
theorem sc_is_number : FnScope ["thing"] ["thing"] (defScope (top 18)) := ⟨rfl, rfl, rfl, by decide +kernel, rfl, by decide +kernel, by decide +kernel⟩
theorem ok_is_number (F : FnP K "is_number" (top 18) f fd) (hm : mg "is_number" = some (.ref f)) (h_abs : mg "abs" = none) (h_isinstance : mg "isinstance" = none) (h_tuple : mg "tuple" = none) (h_len : mg "len" = none) (G_common : Good gb P w K mg base "common" 1 ["one", "other"] S_common) (G_is_integer : Good gb P w K mg base "is_integer" 1 ["thing"] S_is_integer) : Good gb P w K mg base "is_number" 2 ["thing"] S_is_number := by
  refine good_of (b := b_is_number) F hm (F.bindsN fun _ _ _ _ _ _ us hl => match us, hl with | [_], _ => rfl) sc_is_number p_is_number fun cdv A outer s H E X hr lt => ?_
  have nd := sc_is_number.nd
  exact qss_cons (qs_if (PW.pt (qw_or (qt_not (qt_val (qe_isi .tuple (qv 0) rfl h_isinstance rfl h_tuple bb_isinstance bb_tuple))) (qw_or (qt_cmp (o_ne hr.hu) (qe_callB c_len rfl h_len bb_len (qa_cons (qv 0) (qa_nil))) (qe_int) (nomark _)) (qw_or (qt_not (qt_val (qe_fn (G_is_integer.mono (by decide)) hr lt rfl (qa_cons (qe_ix (qv 0) (qe_int) (fun _ _ => rfl)) (qa_nil)) (is_cons is_nil)))) (qw_or1 (qt_not (qt_val (qe_fn (G_is_integer.mono (by decide)) hr lt rfl (qa_cons (qe_ix (qv 0) (qe_int) (fun _ _ => rfl)) (qa_nil)) (is_cons is_nil))))))))) (qss_one (qs_ret (qe_bl))) (qss_nil))
    (qss_one (qs_ret (qe_and (qe_cmp o_ge (qe_ix (qv 0) (qe_int) (fun _ _ => rfl)) (qe_int) (nomark _)) (qe_one (qe_cmp (o_eq hr.hu) (qe_fn (G_common.mono (by decide)) hr lt rfl (qa_cons (qe_callB c_abs rfl h_abs bb_abs (qa_cons (qe_ix (qv 0) (qe_int) (fun _ _ => rfl)) (qa_nil))) (qa_cons (qe_ix (qv 0) (qe_int) (fun _ _ => rfl)) (qa_nil))) (is_cons (is_cons is_nil))) (qe_int) (nomark _))))))
theorem sc_need_number : FnScope ["thing"] ["thing"] (defScope (top 19)) := ⟨rfl, rfl, rfl, by decide +kernel, rfl, by decide +kernel, by decide +kernel⟩
theorem ok_need_number (F : FnP K "need_number" (top 19) f fd) (hm : mg "need_number" = some (.ref f)) (ex_NoNumber : ErrC K mg "NoNumber") (G_is_number : Good gb P w K mg base "is_number" 2 ["thing"] S_is_number) : Good gb P w K mg base "need_number" 3 ["thing"] S_need_number := by
  refine good_of (b := b_need_number) F hm (F.bindsN fun _ _ _ _ _ _ us hl => match us, hl with | [_], _ => rfl) sc_need_number p_need_number fun cdv A outer s H E X hr lt => ?_
  have nd := sc_need_number.nd
  exact qss_one (qs_if (qt_not (qt_val (qe_fn (G_is_number.mono (by decide)) hr lt rfl (qa_cons (qv 0) (qa_nil)) (is_cons is_nil)))) (qss_one (qs_raise ex_NoNumber lt rfl rfl)) (qss_nil))
theorem sc_number_of : FnScope ["n", "d"] ["n", "d"] (defScope (top 20)) := ⟨rfl, rfl, rfl, by decide +kernel, rfl, by decide +kernel, by decide +kernel⟩
theorem ok_number_of (F : FnP K "number_of" (top 20) f fd) (hm : mg "number_of" = some (.ref f)) (ex_NoDivisor : ErrC K mg "NoDivisor") (ex_NoNumber : ErrC K mg "NoNumber") (G_reduced : Good gb P w K mg base "reduced" 2 ["n", "d"] S_reduced) (G_is_integer : Good gb P w K mg base "is_integer" 1 ["thing"] S_is_integer) : Good gb P w K mg base "number_of" 3 ["n", "d"] S_number_of := by
  refine good_of (b := b_number_of) F hm (F.bindsN fun _ _ _ _ _ _ us hl => match us, hl with | [_, _], _ => rfl) sc_number_of p_number_of fun cdv A outer s H E X hr lt => ?_
  have nd := sc_number_of.nd
  exact qss_cons (qs_if (qt_not (qt_val (qe_fn (G_is_integer.mono (by decide)) hr lt rfl (qa_cons (qv 0) (qa_nil)) (is_cons is_nil)))) (qss_one (qs_raise ex_NoNumber lt rfl rfl)) (qss_nil))
    (qss_cons (qs_if (PW.pt (qw_or (qt_not (qt_val (qe_fn (G_is_integer.mono (by decide)) hr lt rfl (qa_cons (qv 1) (qa_nil)) (is_cons is_nil)))) (qw_or1 (qt_cmp o_lt (qv 1) (qe_int) (nomark _))))) (qss_one (qs_raise ex_NoDivisor lt rfl rfl)) (qss_nil))
    (qss_one (qs_ret (qe_fn (G_reduced.mono (by decide)) hr lt rfl (qa_cons (qv 0) (qa_cons (qv 1) (qa_nil))) (is_cons (is_cons is_nil))))))
theorem sc_raw_plus : FnScope ["a", "b"] ["a", "b"] (defScope (top 21)) := ⟨rfl, rfl, rfl, by decide +kernel, rfl, by decide +kernel, by decide +kernel⟩
theorem ok_raw_plus (F : FnP K "raw_plus" (top 21) f fd) (hm : mg "raw_plus" = some (.ref f)) (G_reduced : Good gb P w K mg base "reduced" 2 ["n", "d"] S_reduced) : Good gb P w K mg base "raw_plus" 3 ["a", "b"] S_raw_plus := by
  refine good_of (b := b_raw_plus) F hm (F.bindsN fun _ _ _ _ _ _ us hl => match us, hl with | [_, _], _ => rfl) sc_raw_plus p_raw_plus fun cdv A outer s H E X hr lt => ?_
  have nd := sc_raw_plus.nd
  exact qss_one (qs_ret (qe_fn (G_reduced.mono (by decide)) hr lt rfl (qa_cons (qe_op o_add (qe_op o_mul (qe_ix (qv 0) (qe_int) (fun _ _ => rfl)) (qe_ix (qv 1) (qe_int) (fun _ _ => rfl))) (qe_op o_mul (qe_ix (qv 1) (qe_int) (fun _ _ => rfl)) (qe_ix (qv 0) (qe_int) (fun _ _ => rfl)))) (qa_cons (qe_op o_mul (qe_ix (qv 0) (qe_int) (fun _ _ => rfl)) (qe_ix (qv 1) (qe_int) (fun _ _ => rfl))) (qa_nil))) (is_cons (is_cons is_nil))))
theorem sc_raw_minus : FnScope ["a", "b"] ["a", "b"] (defScope (top 22)) := ⟨rfl, rfl, rfl, by decide +kernel, rfl, by decide +kernel, by decide +kernel⟩
theorem ok_raw_minus (F : FnP K "raw_minus" (top 22) f fd) (hm : mg "raw_minus" = some (.ref f)) (G_reduced : Good gb P w K mg base "reduced" 2 ["n", "d"] S_reduced) : Good gb P w K mg base "raw_minus" 3 ["a", "b"] S_raw_minus := by
  refine good_of (b := b_raw_minus) F hm (F.bindsN fun _ _ _ _ _ _ us hl => match us, hl with | [_, _], _ => rfl) sc_raw_minus p_raw_minus fun cdv A outer s H E X hr lt => ?_
  have nd := sc_raw_minus.nd
  exact qss_one (qs_ret (qe_fn (G_reduced.mono (by decide)) hr lt rfl (qa_cons (qe_op o_sub (qe_op o_mul (qe_ix (qv 0) (qe_int) (fun _ _ => rfl)) (qe_ix (qv 1) (qe_int) (fun _ _ => rfl))) (qe_op o_mul (qe_ix (qv 1) (qe_int) (fun _ _ => rfl)) (qe_ix (qv 0) (qe_int) (fun _ _ => rfl)))) (qa_cons (qe_op o_mul (qe_ix (qv 0) (qe_int) (fun _ _ => rfl)) (qe_ix (qv 1) (qe_int) (fun _ _ => rfl))) (qa_nil))) (is_cons (is_cons is_nil))))
theorem sc_raw_compared : FnScope ["a", "b", "one", "other"] ["a", "b"] (defScope (top 23)) := ⟨rfl, rfl, rfl, by decide +kernel, rfl, by decide +kernel, by decide +kernel⟩
theorem ok_raw_compared (F : FnP K "raw_compared" (top 23) f fd) (hm : mg "raw_compared" = some (.ref f))  : Good gb P w K mg base "raw_compared" 1 ["a", "b"] S_raw_compared := by
  refine good_of (b := b_raw_compared) F hm (F.bindsN fun _ _ _ _ _ _ us hl => match us, hl with | [_, _], _ => rfl) sc_raw_compared p_raw_compared fun cdv A outer s H E X hr lt => ?_
  have nd := sc_raw_compared.nd
  exact qss_cons (qs_par2 rfl nd rfl rfl (by decide) rfl rfl (qa_cons (qe_op o_mul (qe_ix (qv 0) (qe_int) (fun _ _ => rfl)) (qe_ix (qv 1) (qe_int) (fun _ _ => rfl))) (qa_cons (qe_op o_mul (qe_ix (qv 1) (qe_int) (fun _ _ => rfl)) (qe_ix (qv 0) (qe_int) (fun _ _ => rfl))) (qa_nil))) rfl)
    (qss_one (qs_ret (qe_op o_sub (qe_cmp o_gt (qv 2) (qv 3) (nomark _)) (qe_cmp o_lt (qv 2) (qv 3) (nomark _)))))
theorem sc_plus : FnScope ["a", "b"] ["a", "b"] (defScope (top 24)) := ⟨rfl, rfl, rfl, by decide +kernel, rfl, by decide +kernel, by decide +kernel⟩
theorem ok_plus (F : FnP K "plus" (top 24) f fd) (hm : mg "plus" = some (.ref f)) (G_raw_plus : Good gb P w K mg base "raw_plus" 3 ["a", "b"] S_raw_plus) (G_need_number : Good gb P w K mg base "need_number" 3 ["thing"] S_need_number) : Good gb P w K mg base "plus" 4 ["a", "b"] S_plus := by
  refine good_of (b := b_plus) F hm (F.bindsN fun _ _ _ _ _ _ us hl => match us, hl with | [_, _], _ => rfl) sc_plus p_plus fun cdv A outer s H E X hr lt => ?_
  have nd := sc_plus.nd
  exact qss_cons (qs_expr (qe_fn (G_need_number.mono (by decide)) hr lt rfl (qa_cons (qv 0) (qa_nil)) (is_cons is_nil)))
    (qss_cons (qs_expr (qe_fn (G_need_number.mono (by decide)) hr lt rfl (qa_cons (qv 1) (qa_nil)) (is_cons is_nil)))
    (qss_one (qs_ret (qe_fn (G_raw_plus.mono (by decide)) hr lt rfl (qa_cons (qv 0) (qa_cons (qv 1) (qa_nil))) (is_cons (is_cons is_nil))))))
theorem sc_minus : FnScope ["a", "b"] ["a", "b"] (defScope (top 25)) := ⟨rfl, rfl, rfl, by decide +kernel, rfl, by decide +kernel, by decide +kernel⟩
theorem ok_minus (F : FnP K "minus" (top 25) f fd) (hm : mg "minus" = some (.ref f)) (G_raw_minus : Good gb P w K mg base "raw_minus" 3 ["a", "b"] S_raw_minus) (G_need_number : Good gb P w K mg base "need_number" 3 ["thing"] S_need_number) : Good gb P w K mg base "minus" 4 ["a", "b"] S_minus := by
  refine good_of (b := b_minus) F hm (F.bindsN fun _ _ _ _ _ _ us hl => match us, hl with | [_, _], _ => rfl) sc_minus p_minus fun cdv A outer s H E X hr lt => ?_
  have nd := sc_minus.nd
  exact qss_cons (qs_expr (qe_fn (G_need_number.mono (by decide)) hr lt rfl (qa_cons (qv 0) (qa_nil)) (is_cons is_nil)))
    (qss_cons (qs_expr (qe_fn (G_need_number.mono (by decide)) hr lt rfl (qa_cons (qv 1) (qa_nil)) (is_cons is_nil)))
    (qss_one (qs_ret (qe_fn (G_raw_minus.mono (by decide)) hr lt rfl (qa_cons (qv 0) (qa_cons (qv 1) (qa_nil))) (is_cons (is_cons is_nil))))))
theorem sc_compared : FnScope ["a", "b"] ["a", "b"] (defScope (top 26)) := ⟨rfl, rfl, rfl, by decide +kernel, rfl, by decide +kernel, by decide +kernel⟩
theorem ok_compared (F : FnP K "compared" (top 26) f fd) (hm : mg "compared" = some (.ref f)) (G_raw_compared : Good gb P w K mg base "raw_compared" 1 ["a", "b"] S_raw_compared) (G_need_number : Good gb P w K mg base "need_number" 3 ["thing"] S_need_number) : Good gb P w K mg base "compared" 4 ["a", "b"] S_compared := by
  refine good_of (b := b_compared) F hm (F.bindsN fun _ _ _ _ _ _ us hl => match us, hl with | [_, _], _ => rfl) sc_compared p_compared fun cdv A outer s H E X hr lt => ?_
  have nd := sc_compared.nd
  exact qss_cons (qs_expr (qe_fn (G_need_number.mono (by decide)) hr lt rfl (qa_cons (qv 0) (qa_nil)) (is_cons is_nil)))
    (qss_cons (qs_expr (qe_fn (G_need_number.mono (by decide)) hr lt rfl (qa_cons (qv 1) (qa_nil)) (is_cons is_nil)))
    (qss_one (qs_ret (qe_fn (G_raw_compared.mono (by decide)) hr lt rfl (qa_cons (qv 0) (qa_cons (qv 1) (qa_nil))) (is_cons (is_cons is_nil))))))
theorem sc_law_spread : FnScope ["cell", "at", "primes", "one", "two", "three"] ["cell", "at"] (defScope (top 28)) := ⟨rfl, rfl, rfl, by decide +kernel, rfl, by decide +kernel, by decide +kernel⟩
theorem ok_law_spread (F : FnP K "_law_spread" (top 28) f fd) (hm : mg "_law_spread" = some (.ref f)) (h_int : mg "int" = none) : Good gb P w K mg base "_law_spread" 1 ["cell", "at"] S_law_spread := by
  refine good_of (b := b_law_spread) F hm (F.bindsN fun _ _ _ _ _ _ us hl => match us, hl with | [_, _], _ => rfl) sc_law_spread p_law_spread fun cdv A outer s H E X hr lt => ?_
  have nd := sc_law_spread.nd
  exact qss_cons (qs_if (qt_cmp o_ge (qv 0) (qe_op o_pow (qe_int) (qe_int)) (nomark _)) (qss_one (qs_ret (qv 0))) (qss_nil))
    (qss_cons (qs_set nd rfl (.inl rfl) (qe_lst (qa_cons (qe_int) (qa_cons (qe_int) (qa_cons (qe_int) (qa_cons (qe_int) (qa_cons (qe_int) (qa_cons (qe_int) (qa_cons (qe_int) (qa_cons (qe_int) (qa_nil)))))))))))
    (qss_cons (qs_set nd rfl (.inl rfl) (qe_op o_add (qv 2) (qe_lst (qa_cons (qe_int) (qa_cons (qe_int) (qa_cons (qe_int) (qa_cons (qe_int) (qa_cons (qe_int) (qa_nil)))))))))
    (qss_cons (qs_set nd rfl (.inl rfl) (qe_op o_mul (qe_op o_mod (qe_callTy c_int rfl h_int bb_int (qa_cons (qv 0) (qa_nil))) (qe_int)) (qe_op o_add (qe_op o_mul (qe_int) (qv 1)) (qe_int))))
    (qss_cons (qs_set nd rfl (.inl rfl) (qe_op o_mod (qe_callTy c_int rfl h_int bb_int (qa_cons (qe_op o_pow (qe_op o_add (qe_op o_add (qv 3) (qe_op o_mul (qv 1) (qe_int))) (qe_int)) (qe_int)) (qa_nil))) (qe_ix (qv 2) (qe_op o_mod (qe_callTy c_int rfl h_int bb_int (qa_cons (qv 1) (qa_nil))) (qe_int)) (fun _ _ => rfl))))
    (qss_cons (qs_set nd rfl (.inl rfl) (qe_op o_mod (qe_callTy c_int rfl h_int bb_int (qa_cons (qe_op o_pow (qe_op o_add (qe_op o_add (qe_op o_mul (qv 3) (qe_op o_add (qv 1) (qe_int))) (qe_op o_mod (qe_callTy c_int rfl h_int bb_int (qa_cons (qv 0) (qa_nil))) (qe_int))) (qe_int)) (qe_int)) (qa_nil))) (qe_ix (qv 2) (qe_op o_mod (qe_callTy c_int rfl h_int bb_int (qa_cons (qe_op o_add (qv 1) (qe_int)) (qa_nil))) (qe_int)) (fun _ _ => rfl))))
    (qss_cons (qs_set nd rfl (.inl rfl) (qe_op o_mod (qe_callTy c_int rfl h_int bb_int (qa_cons (qe_op o_pow (qe_op o_add (qe_op o_add (qv 4) (qe_op o_mod (qe_callTy c_int rfl h_int bb_int (qa_cons (qv 3) (qa_nil))) (qe_int))) (qv 1)) (qe_int)) (qa_nil))) (qe_ix (qv 2) (qe_op o_mod (qe_callTy c_int rfl h_int bb_int (qa_cons (qe_op o_add (qv 1) (qe_int)) (qa_nil))) (qe_int)) (fun _ _ => rfl))))
    (qss_one (qs_ret (qe_op o_add (qe_op o_mul (qe_op o_add (qe_op o_mul (qv 3) (qe_int)) (qv 4)) (qe_int)) (qv 5))))))))))
theorem sc_law_open : FnScope ["script", "cells", "nth", "cell"] ["script"] (defScope (top 29)) := ⟨rfl, rfl, rfl, by decide +kernel, rfl, by decide +kernel, by decide +kernel⟩
theorem ok_law_open (F : FnP K "_law_open" (top 29) f fd) (hm : mg "_law_open" = some (.ref f)) (h_enumerate : mg "enumerate" = none) (h_int : mg "int" = none) (h_list : mg "list" = none) : Good gb P w K mg base "_law_open" 1 ["script"] S_law_open := by
  refine good_of (b := b_law_open) F hm (F.bindsN fun _ _ _ _ _ _ us hl => match us, hl with | [_], _ => rfl) sc_law_open p_law_open fun cdv A outer s H E X hr lt => ?_
  have nd := sc_law_open.nd
  exact qss_cons (qs_set nd rfl (.inl rfl) (qe_callTy c_list rfl h_list bb_list (qa_cons (qe_slice (qv 0) qo_none (qo_some (qe_int))) (qa_nil))))
    (qss_cons (qs_for po_bx rfl (qi_enum rfl h_enumerate (qe_slice (qv 0) (qo_some (qe_int)) (qo_some (qe_int)))) (qg_tup rfl (qgs_cons (qg_name nd rfl (.inl rfl)) (qgs_cons (qg_name nd rfl (.inl rfl)) (qgs_nil))) rfl rfl (dGs_len (dGs_len (dGs_len0) dName_go) dName_go)) (qss_one (qs_asg (qe_op o_add (qe_ix (qv 1) (qe_op o_mod (qe_callTy c_int rfl h_int bb_int (qa_cons (qv 2) (qa_nil))) (qe_int)) (fun _ _ => rfl)) (qv 3)) (qg_subL (qv 1) (qe_op o_mod (qe_callTy c_int rfl h_int bb_int (qa_cons (qv 2) (qa_nil))) (qe_int))))))
    (qss_one (qs_ret (qe_lst (qa_cons (qv 1) (qa_cons (qe_int) (qa_cons (qe_int) (qa_nil))))))))
theorem sc_law_take : FnScope ["pen", "many", "at", "cell", "found"] ["pen", "many"] (defScope (top 30)) := ⟨rfl, rfl, rfl, by decide +kernel, rfl, by decide +kernel, by decide +kernel⟩
theorem ok_law_take (F : FnP K "_law_take" (top 30) f fd) (hm : mg "_law_take" = some (.ref f)) (h_int : mg "int" = none) (h_len : mg "len" = none) (G_law_spread : Good gb P w K mg base "_law_spread" 1 ["cell", "at"] S_law_spread) : Good gb P w K mg base "_law_take" 2 ["pen", "many"] S_law_take := by
  refine good_of (b := b_law_take) F hm (F.bindsN fun _ _ _ _ _ _ us hl => match us, hl with | [_, _], _ => rfl) sc_law_take p_law_take fun cdv A outer s H E X hr lt => ?_
  have nd := sc_law_take.nd
  exact qss_cons (qs_if (qt_cmp o_lt (qe_ix (qv 0) (qe_int) (fun _ _ => rfl)) (qv 1) (nomark _)) (qss_cons (qs_set nd rfl (.inl rfl) (qe_ix (qv 0) (qe_int) (fun _ _ => rfl)))
    (qss_cons (qs_set nd rfl (.inl rfl) (qe_int))
    (qss_cons (qs_if (qt_cmp o_lt (qv 2) (qe_callB c_len rfl h_len bb_len (qa_cons (qe_ix (qv 0) (qe_int) (fun _ _ => rfl)) (qa_nil))) (nomark _)) (qss_one (qs_set nd rfl (.inl rfl) (qe_ix (qe_ix (qv 0) (qe_int) (fun _ _ => rfl)) (qv 2) (fun _ _ => rfl)))) (qss_one (qs_if (qt_cmp o_gt (qe_callB c_len rfl h_len bb_len (qa_cons (qe_ix (qv 0) (qe_int) (fun _ _ => rfl)) (qa_nil))) (qe_int) (nomark _)) (qss_one (qs_set nd rfl (.inl rfl) (qe_op o_mod (qe_callTy c_int rfl h_int bb_int (qa_cons (qe_ix (qe_ix (qv 0) (qe_int) (fun _ _ => rfl)) (qe_op o_mod (qe_callTy c_int rfl h_int bb_int (qa_cons (qe_op o_add (qe_op o_mul (qv 2) (qe_int)) (qe_int)) (qa_nil))) (qe_callB c_len rfl h_len bb_len (qa_cons (qe_ix (qv 0) (qe_int) (fun _ _ => rfl)) (qa_nil)))) (fun _ _ => rfl)) (qa_nil))) (qe_op o_add (qe_op o_pow (qe_int) (qe_int)) (qv 2))))) (qss_nil))))
    (qss_cons (qs_asg (qe_op o_add (qv 2) (qe_int)) (qg_subL (qv 0) (qe_int)))
    (qss_one (qs_asg (qe_fn (G_law_spread.mono (by decide)) hr lt rfl (qa_cons (qv 3) (qa_cons (qv 2) (qa_nil))) (is_cons (is_cons is_nil))) (qg_subL (qv 0) (qe_int)))))))) (qss_nil))
    (qss_cons (qs_set nd rfl (.inl rfl) (qe_op o_mod (qe_callTy c_int rfl h_int bb_int (qa_cons (qe_ix (qv 0) (qe_int) (fun _ _ => rfl)) (qa_nil))) (qv 1)))
    (qss_cons (qs_asg (qe_op o_fdiv (qe_ix (qv 0) (qe_int) (fun _ _ => rfl)) (qv 1)) (qg_subL (qv 0) (qe_int)))
    (qss_one (qs_ret (qv 4)))))
theorem sc_law_x_pick : FnScope ["pen", "some"] ["pen", "some"] (defScope (top 31)) := ⟨rfl, rfl, rfl, by decide +kernel, rfl, by decide +kernel, by decide +kernel⟩
theorem ok_law_x_pick (F : FnP K "_law_x_pick" (top 31) f fd) (hm : mg "_law_x_pick" = some (.ref f)) (h_len : mg "len" = none) (G_law_take : Good gb P w K mg base "_law_take" 2 ["pen", "many"] S_law_take) : Good gb P w K mg base "_law_x_pick" 3 ["pen", "some"] S_law_x_pick := by
  refine good_of (b := b_law_x_pick) F hm (F.bindsN fun _ _ _ _ _ _ us hl => match us, hl with | [_, _], _ => rfl) sc_law_x_pick p_law_x_pick fun cdv A outer s H E X hr lt => ?_
  have nd := sc_law_x_pick.nd
  exact qss_one (qs_ret (qe_ix (qv 1) (qe_fn (G_law_take.mono (by decide)) hr lt rfl (qa_cons (qv 0) (qa_cons (qe_callB c_len rfl h_len bb_len (qa_cons (qv 1) (qa_nil))) (qa_nil))) (is_cons (is_cons is_nil))) (fun _ _ => rfl)))
theorem sc_law_x_number : FnScope ["n", "d", "one", "other"] ["n", "d"] (defScope (top 32)) := ⟨rfl, rfl, rfl, by decide +kernel, rfl, by decide +kernel, by decide +kernel⟩
theorem ok_law_x_number (F : FnP K "_law_x_number" (top 32) f fd) (hm : mg "_law_x_number" = some (.ref f)) (h_int : mg "int" = none) (h_abs : mg "abs" = none) : Good gb P w K mg base "_law_x_number" 1 ["n", "d"] S_law_x_number := by
  refine good_of (b := b_law_x_number) F hm (F.bindsN fun _ _ _ _ _ _ us hl => match us, hl with | [_, _], _ => rfl) sc_law_x_number p_law_x_number fun cdv A outer s H E X hr lt => ?_
  have nd := sc_law_x_number.nd
  exact qss_cons (qs_par2 rfl nd rfl rfl (by decide) rfl rfl (qa_cons (qe_callB c_abs rfl h_abs bb_abs (qa_cons (qv 0) (qa_nil))) (qa_cons (qv 1) (qa_nil))) rfl)
    (qss_cons (qs_while po_bx (qt_cmp (o_ne hr.hu) (qv 3) (qe_int) (nomark _)) (qss_one (qs_par2 rfl nd rfl rfl (by decide) rfl rfl (qa_cons (qv 3) (qa_cons (qe_op o_mod (qe_callTy c_int rfl h_int bb_int (qa_cons (qv 2) (qa_nil))) (qv 3)) (qa_nil))) rfl)))
    (qss_one (qs_ret (qe_tup (qa_cons (qe_op o_fdiv (qv 0) (qv 2)) (qa_cons (qe_op o_fdiv (qv 1) (qv 2)) (qa_nil)))))))
theorem sc_law_x_word : FnScope ["act", "caught", "e", "some", "words"] ["act"] (defScope (top 33)) := ⟨rfl, rfl, rfl, by decide +kernel, rfl, by decide +kernel, by decide +kernel⟩
theorem gv_law_x_word {X : Cx} {k : Nat} {g : Addr} {cdg : Value} (errs : Errs X.K cs32) (gy : ∀ y ∈ cs32, X.mg y = some (.ref (He.ga X.K y))) (h_isinstance : X.mg "isinstance" = none) (h_ValueError : X.mg "ValueError" = none) (hr : Rm gb (k + 1) X.A) : LamX.GivesTo X ["act", "caught", "e", "some", "words"] "_law_x_word" (defScope (top 33)) g cdg (defBody (top 33)) "act" "law.<locals>.<lambda>" (TTw X.K cs32 wd_law_x_word) := by
  refine gives_word (tr := b_law_x_word xNo) errs (gy _ (by decide)) sc_law_x_word.nd rfl rfl rfl rfl rfl rfl (by decide) (by decide) (fun s H => ?_) (fun E δ M h1 h2 q => p_word_fine _ E δ M h1 h2 q) (fun E δ M b y h1 h2 h3 h4 q => p_word _ E δ M b y h1 h2 h3 h4 q)
  have nd := sc_law_x_word.nd
  have hr := hr.deeper (envOfC "_law_x_word" (defScope (top 33)) s.heap.objs.size g cdg)
  exact qss_cons (qs_if (qt_cmp o_is (qv 1) qe_non (nomark _)) (qss_one (qs_ret (qe_str))) (qss_nil))
    (qss_cons (qs_set nd rfl (.inl rfl) (qe_lst (qa_cons (qe_isX errs (by decide) (gy _ (by decide)) (qv 1) rfl h_isinstance rfl bb_isinstance) (qa_cons (qe_isX errs (by decide) (gy _ (by decide)) (qv 1) rfl h_isinstance rfl bb_isinstance) (qa_cons (qe_isX errs (by decide) (gy _ (by decide)) (qv 1) rfl h_isinstance rfl bb_isinstance) (qa_nil))))))
    (qss_cons (qs_set nd rfl (.inl rfl) (qe_op o_add (qv 3) (qe_lst (qa_cons (qe_isX errs (by decide) (gy _ (by decide)) (qv 1) rfl h_isinstance rfl bb_isinstance) (qa_cons (qe_isX errs (by decide) (gy _ (by decide)) (qv 1) rfl h_isinstance rfl bb_isinstance) (qa_cons (qe_isX errs (by decide) (gy _ (by decide)) (qv 1) rfl h_isinstance rfl bb_isinstance) (qa_nil)))))))
    (qss_cons (qs_set nd rfl (.inl rfl) (qe_op o_add (qv 3) (qe_lst (qa_cons (qe_isX errs (by decide) (gy _ (by decide)) (qv 1) rfl h_isinstance rfl bb_isinstance) (qa_cons (qe_isX errs (by decide) (gy _ (by decide)) (qv 1) rfl h_isinstance rfl bb_isinstance) (qa_cons (qe_isX errs (by decide) (gy _ (by decide)) (qv 1) rfl h_isinstance rfl bb_isinstance) (qa_nil)))))))
    (qss_cons (qs_set nd rfl (.inl rfl) (qe_op o_add (qv 3) (qe_lst (qa_cons (qe_isX errs (by decide) (gy _ (by decide)) (qv 1) rfl h_isinstance rfl bb_isinstance) (qa_cons (qe_isX errs (by decide) (gy _ (by decide)) (qv 1) rfl h_isinstance rfl bb_isinstance) (qa_cons (qe_isX errs (by decide) (gy _ (by decide)) (qv 1) rfl h_isinstance rfl bb_isinstance) (qa_nil)))))))
    (qss_cons (qs_set nd rfl (.inl rfl) (qe_lst (qa_cons (qe_str) (qa_cons (qe_str) (qa_cons (qe_str) (qa_cons (qe_str) (qa_cons (qe_str) (qa_cons (qe_str) (qa_cons (qe_str) (qa_cons (qe_str) (qa_cons (qe_str) (qa_cons (qe_str) (qa_cons (qe_str) (qa_nil))))))))))))))
    (qss_cons (qs_expr (qe_methL PySem.F.slot_list_append PySem.F.type_list_append m_append (qv 4) (qa_cons (qe_str) (qa_nil))))
    (qss_one (qs_ret (qe_if (PW.pt (qw_and (qt_cmp (o_eq hr.hu) (qe_methL PySem.F.slot_list_count PySem.F.type_list_count m_countB (qv 3) (qa_cons (qe_bl) (qa_nil))) (qe_int) (nomark _)) (qw_and1 (qt_val (qe_isXV errs (qv 1) rfl h_isinstance rfl h_ValueError bb_isinstance bb_ValueError))))) (qe_ix (qv 4) (qe_methL PySem.F.slot_list_index PySem.F.type_list_index m_index (qv 3) (qa_cons (qe_bl) (qa_nil))) (fun _ _ => rfl)) (qe_str))))))))))
theorem sc_law32 : FnScope ["script", "pen", "turn", "a", "some", "bad", "wrong", "due", "d", "n", "one", "two", "k"] ["script"] (defScope (top 34)) := ⟨rfl, rfl, rfl, by decide +kernel, rfl, by decide +kernel, by decide +kernel⟩
theorem bk_law32_0 : BlkOk ["script", "pen", "turn", "a", "some", "bad", "wrong", "due", "d", "n", "one", "two", "k"] (defScope (top 34)) { kind := .function, names := [(Str.ofString ".0", .local), (Str.ofString "k", .local), (Str.ofString "_law_take", .globalImplicit), (Str.ofString "pen", .free)], isGenerator := false, isCoroutine := false, more := [] } [("k", 12)] := ⟨rfl, by decide +kernel, by decide +kernel, by decide +kernel, by decide +kernel⟩
theorem ls_law32_0 : LamX.LamS (defScope (top 34)) { kind := .function, names := [(Str.ofString "d", .free), (Str.ofString "n", .free), (Str.ofString "number_of", .globalImplicit)], isGenerator := false, isCoroutine := false, more := [] } := LamX.lamS_by (by decide +kernel)
theorem ls_law32_1 : LamX.LamS (defScope (top 34)) { kind := .function, names := [(Str.ofString "one", .free), (Str.ofString "two", .free), (Str.ofString "compared", .globalImplicit)], isGenerator := false, isCoroutine := false, more := [] } := LamX.lamS_by (by decide +kernel)
theorem ls_law32_2 : LamX.LamS (defScope (top 34)) { kind := .function, names := [(Str.ofString "one", .free), (Str.ofString "two", .free), (Str.ofString "minus", .globalImplicit)], isGenerator := false, isCoroutine := false, more := [] } := LamX.lamS_by (by decide +kernel)
theorem ls_law32_3 : LamX.LamS (defScope (top 34)) { kind := .function, names := [(Str.ofString "one", .free), (Str.ofString "two", .free), (Str.ofString "plus", .globalImplicit)], isGenerator := false, isCoroutine := false, more := [] } := LamX.lamS_by (by decide +kernel)
theorem q_law : (envOfC "law" (defScope (top 34)) 0 0 .none).qual ++ "<lambda>" = ("law.<locals>.<lambda>" : Str) := by decide +kernel
theorem okF_law32 (F : FnP K "law" (top 34) (He.fAd K ("law", none)) fd) (errs : Errs K cs32) (gy : ∀ y ∈ cs32, mg y = some (.ref (He.ga K y))) (h_range : mg "range" = none) (h_isinstance : mg "isinstance" = none) (h_ValueError : mg "ValueError" = none) (G_law_x_pick : Good gb P w K mg base "_law_x_pick" 3 ["pen", "some"] S_law_x_pick) (G_law_take : Good gb P w K mg base "_law_take" 2 ["pen", "many"] S_law_take) (G_law_x_number : Good gb P w K mg base "_law_x_number" 1 ["n", "d"] S_law_x_number) (G_law_open : Good gb P w K mg base "_law_open" 1 ["script"] S_law_open) (TB : LamX.TabB base mg (He.cT K ("law", none)).1 (He.cT K ("law", none)).2) {gw_law_x_word : Addr} {fdw_law_x_word : FuncData} (F_law_x_word : FnP K "_law_x_word" (top 33) gw_law_x_word fdw_law_x_word) (g_law_x_word : mg "_law_x_word" = some (.ref gw_law_x_word)) (G_number_of : Good false P w K mg base "number_of" 3 ["n", "d"] S_number_of) (G_compared : Good false P w K mg base "compared" 4 ["a", "b"] S_compared) (G_minus : Good false P w K mg base "minus" 4 ["a", "b"] S_minus) (G_plus : Good false P w K mg base "plus" 4 ["a", "b"] S_plus) : FnG gb P w K mg base 7 (He.fAd K ("law", none)) fd ["script"] (lSp K mg 1 S_law32) := by
  refine fn_goodC (b := b_law32) F sc_law32 p_law32 fun cdv A outer s H E X hcf hr lt => ?_
  have nd := sc_law32.nd
  exact qss_cons (qs_set nd rfl (.inr rfl) (qe_fn (G_law_open.mono (by decide)) hr lt rfl (qa_cons (qv 0) (qa_nil)) (is_cons is_nil)))
    (qss_cons (qs_for po_bx rfl (qi_r1 rfl h_range (qe_int)) (qg_name nd rfl (.inl rfl)) (qss_cons (qs_set nd rfl (.inl rfl) (qe_fn (G_law_x_number.mono (by decide)) hr lt rfl (qa_cons (qe_op o_sub (qe_fn (G_law_take.mono (by decide)) hr lt rfl (qa_cons (qv 1) (qa_cons (qe_int) (qa_nil))) (is_cons (is_cons is_nil))) (qe_int)) (qa_cons (qe_op o_add (qe_int) (qe_fn (G_law_take.mono (by decide)) hr lt rfl (qa_cons (qv 1) (qa_cons (qe_int) (qa_nil))) (is_cons (is_cons is_nil)))) (qa_nil))) (is_cons (is_cons is_nil))))
    (qss_cons (qs_set nd rfl (.inl rfl) (qe_lst (qa_cons (qe_tup (qa_cons (qe_int) (qa_cons (qe_int) (qa_nil)))) (qa_cons (qe_tup (qa_cons (qe_int) (qa_cons (qe_int) (qa_nil)))) (qa_cons (qe_tup (qa_cons (qe_int) (qa_cons (qe_int) (qa_nil)))) (qa_cons (qe_tup (qa_cons (qe_int) (qa_cons (qe_un o_neg (qe_int)) (qa_nil)))) (qa_cons (qe_tup (qa_cons (qe_un o_neg (qe_int)) (qa_cons (qe_un o_neg (qe_int)) (qa_nil)))) (qa_cons (qe_lst (qa_cons (qe_int) (qa_cons (qe_int) (qa_nil)))) (qa_cons (qe_tup (qa_cons (qe_int) (qa_nil))) (qa_cons (qe_tup (qa_cons (qe_int) (qa_cons (qe_int) (qa_cons (qe_int) (qa_nil))))) (qa_cons (qe_tup (qa_cons (qe_bl) (qa_cons (qe_int) (qa_nil)))) (qa_cons (qe_tup (qa_cons (qe_int) (qa_cons (qe_bl) (qa_nil)))) (qa_cons (qe_tup (qa_cons (qe_int) (qa_cons (qe_int) (qa_nil)))) (qa_nil))))))))))))))
    (qss_cons (qs_set nd rfl (.inl rfl) (qe_op o_add (qv 4) (qe_lst (qa_cons (qe_non) (qa_cons (qe_str) (qa_cons (qe_int) (qa_cons (qe_tup (qa_nil)) (qa_cons (qe_tup (qa_cons (qe_non) (qa_cons (qe_int) (qa_nil)))) (qa_cons (qe_tup (qa_cons (qe_int) (qa_cons (qe_non) (qa_nil)))) (qa_cons (qe_tup (qa_cons (qe_str) (qa_cons (qe_int) (qa_nil)))) (qa_cons (qe_tup (qa_cons (qe_tup (qa_cons (qe_int) (qa_cons (qe_int) (qa_nil)))) (qa_cons (qe_int) (qa_nil)))) (qa_cons (qe_tup (qa_cons (qv 3) (qa_cons (qe_int) (qa_nil)))) (qa_cons (qe_tup (qa_cons (qe_op o_pow (qe_int) (qe_int)) (qa_cons (qe_op o_pow (qe_int) (qe_int)) (qa_nil)))) (qa_nil))))))))))))))
    (qss_cons (qs_set nd rfl (.inl rfl) (qe_fn (G_law_x_pick.mono (by decide)) hr lt rfl (qa_cons (qv 1) (qa_cons (qv 4) (qa_nil))) (is_cons (is_cons is_nil))))
    (qss_cons (qs_setLc rfl nd rfl rfl (sw_true rfl rfl rfl (by decide)) (qi_r1 rfl h_range (qe_int)) bk_law32_0 (fun _ _ _ _ _ => pg_name nd rfl (.inl rfl) (.inr rfl)) (fun _ _ _ _ _ => qe_cmp (o_eq hr.hu) (qe_fn (G_law_take.mono (by decide)) hr lets_no rfl (qa_cons (qv 1) (qa_cons (qe_int) (qa_nil))) (is_cons (is_cons is_nil))) (qe_int) (nomark _)))
    (qss_cons (qs_asg (qe_tup (qa_cons (qe_if (qt_val (qe_ix (qv 6) (qe_int) (fun _ _ => rfl))) (qv 5) (qv 3)) (qa_cons (qe_if (qt_val (qe_ix (qv 6) (qe_int) (fun _ _ => rfl))) (qv 5) (qv 3)) (qa_nil)))) (qg_tup rfl (qgs_cons (qg_name nd rfl (.inr rfl)) (qgs_cons (qg_name nd rfl (.inr rfl)) (qgs_nil))) rfl rfl (dGs_len (dGs_len (dGs_len0) dName_go) dName_go)))
    (qss_cons (qs_set nd rfl (.inl rfl) (qe_if (qt_cmp o_in (qe_bl) (qv 6) (by with_unfolding_all rfl)) (qe_str) (qe_str)))
    (qss_cons (qs_if (qt_cmp (o_ne hr.hu) (qe_lamW (k := 4) F_law_x_word rfl g_law_x_word (F_law_x_word.bindsN fun _ _ _ _ _ _ us hl => match us, hl with | [_], _ => rfl) sc_law_x_word rfl (.inl rfl) (fun cdg => gv_law_x_word errs gy h_isinstance h_ValueError hr) TB (code_ref F hcf) q_law (hr.mono (by decide)) ls_law32_3 gy G_plus (fun _ _ _ _ _ _ _ => rfl) (fun _ _ _ _ _ _ _ => qa_cons (qv 10) (qa_cons (qv 11) (qa_nil))) (is_cons (is_cons is_nil))) (qv 7) (nomark _)) (qss_one (qs_ret (qe_bl))) (qss_nil))
    (qss_cons (qs_if (qt_cmp (o_ne hr.hu) (qe_lamW (k := 4) F_law_x_word rfl g_law_x_word (F_law_x_word.bindsN fun _ _ _ _ _ _ us hl => match us, hl with | [_], _ => rfl) sc_law_x_word rfl (.inl rfl) (fun cdg => gv_law_x_word errs gy h_isinstance h_ValueError hr) TB (code_ref F hcf) q_law (hr.mono (by decide)) ls_law32_2 gy G_minus (fun _ _ _ _ _ _ _ => rfl) (fun _ _ _ _ _ _ _ => qa_cons (qv 10) (qa_cons (qv 11) (qa_nil))) (is_cons (is_cons is_nil))) (qv 7) (nomark _)) (qss_one (qs_ret (qe_bl))) (qss_nil))
    (qss_cons (qs_if (qt_cmp (o_ne hr.hu) (qe_lamW (k := 4) F_law_x_word rfl g_law_x_word (F_law_x_word.bindsN fun _ _ _ _ _ _ us hl => match us, hl with | [_], _ => rfl) sc_law_x_word rfl (.inl rfl) (fun cdg => gv_law_x_word errs gy h_isinstance h_ValueError hr) TB (code_ref F hcf) q_law (hr.mono (by decide)) ls_law32_1 gy G_compared (fun _ _ _ _ _ _ _ => rfl) (fun _ _ _ _ _ _ _ => qa_cons (qv 10) (qa_cons (qv 11) (qa_nil))) (is_cons (is_cons is_nil))) (qv 7) (nomark _)) (qss_one (qs_ret (qe_bl))) (qss_nil))
    (qss_cons (qs_set nd rfl (.inr rfl) (qe_if (qt_val (qe_ix (qv 6) (qe_int) (fun _ _ => rfl))) (qe_fn (G_law_x_pick.mono (by decide)) hr lt rfl (qa_cons (qv 1) (qa_cons (qe_lst (qa_cons (qe_non) (qa_cons (qe_bl) (qa_cons (qe_bl) (qa_cons (qe_str) (qa_cons (qe_tup (qa_cons (qe_int) (qa_nil))) (qa_cons (qe_lst (qa_nil)) (qa_cons (qe_tup (qa_cons (qe_int) (qa_cons (qe_int) (qa_nil)))) (qa_nil))))))))) (qa_nil))) (is_cons (is_cons is_nil))) (qe_ix (qv 3) (qe_int) (fun _ _ => rfl))))
    (qss_cons (qs_set nd rfl (.inr rfl) (qe_if (qt_val (qe_ix (qv 6) (qe_int) (fun _ _ => rfl))) (qe_fn (G_law_x_pick.mono (by decide)) hr lt rfl (qa_cons (qv 1) (qa_cons (qe_lst (qa_cons (qe_non) (qa_cons (qe_bl) (qa_cons (qe_int) (qa_cons (qe_un o_neg (qe_int)) (qa_cons (qe_str) (qa_cons (qe_tup (qa_cons (qe_int) (qa_nil))) (qa_cons (qe_lst (qa_cons (qe_int) (qa_nil))) (qa_cons (qe_un o_neg (qe_op o_pow (qe_int) (qe_int))) (qa_nil)))))))))) (qa_nil))) (is_cons (is_cons is_nil))) (qe_ix (qv 3) (qe_int) (fun _ _ => rfl))))
    (qss_cons (qs_set nd rfl (.inl rfl) (qe_if (qt_val (qe_ix (qv 6) (qe_int) (fun _ _ => rfl))) (qe_str) (qe_if (qt_val (qe_ix (qv 6) (qe_int) (fun _ _ => rfl))) (qe_str) (qe_str))))
    (qss_one (qs_if (qt_cmp (o_ne hr.hu) (qe_lamW (k := 3) F_law_x_word rfl g_law_x_word (F_law_x_word.bindsN fun _ _ _ _ _ _ us hl => match us, hl with | [_], _ => rfl) sc_law_x_word rfl (.inl rfl) (fun cdg => gv_law_x_word errs gy h_isinstance h_ValueError hr) TB (code_ref F hcf) q_law (hr.mono (by decide)) ls_law32_0 gy G_number_of (fun _ _ _ _ _ _ _ => rfl) (fun _ _ _ _ _ _ _ => qa_cons (qv 9) (qa_cons (qv 8) (qa_nil))) (is_cons (is_cons is_nil))) (qv 7) (nomark _)) (qss_one (qs_ret (qe_bl))) (qss_nil)))))))))))))))))
    (qss_one (qs_ret (qe_bl))))
end
def dd (x : Str) (i : Nat) : He.DefD := ⟨(x, none), x, x, defArgs (top i), defBody (top i), defScope (top i), [], []⟩
def fn : List He.DefD := [dd "is_integer" 15, dd "common" 16, dd "reduced" 17, dd "is_number" 18, dd "need_number" 19, dd "number_of" 20, dd "raw_plus" 21, dd "raw_minus" 22, dd "raw_compared" 23, dd "plus" 24, dd "minus" 25, dd "compared" 26, dd "_law_spread" 28, dd "_law_open" 29, dd "_law_take" 30, dd "_law_x_pick" 31, dd "_law_x_number" 32, dd "_law_x_word" 33, dd "law" 34]
def fa : List He.Fa := [.glo "is_integer", .glo "common", .glo "reduced", .glo "is_number", .glo "need_number", .glo "number_of", .glo "raw_plus", .glo "raw_minus", .glo "raw_compared", .glo "plus", .glo "minus", .glo "compared", .glo "_law_spread", .glo "_law_open", .glo "_law_take", .glo "_law_x_pick", .glo "_law_x_number", .glo "_law_x_word", .glo "law", .glo "LaterError", .glo "NoMachine", .glo "NoPlain", .glo "NoLetters", .glo "NoRule", .glo "NoRow", .glo "NoWord", .glo "NoNumber", .glo "NoDivisor", .glo "NoMatch", .glo "NoLimit", .glo "HasRow", .glo "TooGreat", .free "isinstance", .free "int", .free "bool", .free "abs", .free "tuple", .free "len", .free "enumerate", .free "list", .free "ValueError", .free "range", .exc "NoNumber", .exc "NoDivisor"]
abbrev R : PySem.W.OpenRow := PySem.W.OpenLaw.row PySem.Challenge.rw_laterless_k32_numbers_refused
abbrev hk : PySem.W.Hook := He.hookX 4 fa fn [] [("law", none)] (errsB cs32)
def ob (s : PySem.W.SharedT) : He.AlX := He.obsX 4 fa fn [] [("law", none)] (errsB cs32) (HandSHeadRun.getT s)
theorem ob_eq (s : PySem.W.SharedT) : ob s = hk.obs s.abs := He.obsX_eq (HandSHeadRun.getT_eq s)
theorem run (w : World) : HandSHeadRun.RunEq R (PySem.W.view R.prog [34]) hk ob 20000 ["LaterError", "NoMachine", "NoPlain", "NoLetters", "NoRule", "NoRow", "NoWord", "NoNumber", "NoDivisor", "NoMatch", "NoLimit", "HasRow", "TooGreat", "is_integer", "common", "reduced", "is_number", "need_number", "number_of", "raw_plus", "raw_minus", "raw_compared", "plus", "minus", "compared", "_law_spread", "_law_open", "_law_take", "_law_x_pick", "_law_x_number", "_law_x_word"] w := by
  intro os
  kernel_rfl
theorem facts {P : Program} {w : World} {K : PySem.W.Frag} {h : Heap} {mg : Str → Option Value} {f : Addr} (X : K.In h) (G : h.Ns mainGlobals mg) (hfa : mg ("law" : Str) = some (.ref f)) (c0 : He.SaysX fa fn [] [("law", none)] (errsB cs32) w h K) :
    ∃ fd : FuncData, (∀ (s : Shared) (v : Value), BindsTo s fd ⟨[v], []⟩ [("script", v)]) ∧ ∀ base : Heap, K.In base → base.Ns mainGlobals mg → LamX.TabB base mg (He.cT K ("law", none)).1 (He.cT K ("law", none)).2 → FnG true P w K mg base 7 f fd ["script"] (lSp K mg 1 S_law32) := by
  have c := c0.t.d
  have errs := errs_ok c0.more
  have g_is_integer := He.glo_ok X G (c.fact 0 (f := .glo "is_integer") rfl)
  have g_common := He.glo_ok X G (c.fact 1 (f := .glo "common") rfl)
  have g_reduced := He.glo_ok X G (c.fact 2 (f := .glo "reduced") rfl)
  have g_is_number := He.glo_ok X G (c.fact 3 (f := .glo "is_number") rfl)
  have g_need_number := He.glo_ok X G (c.fact 4 (f := .glo "need_number") rfl)
  have g_number_of := He.glo_ok X G (c.fact 5 (f := .glo "number_of") rfl)
  have g_raw_plus := He.glo_ok X G (c.fact 6 (f := .glo "raw_plus") rfl)
  have g_raw_minus := He.glo_ok X G (c.fact 7 (f := .glo "raw_minus") rfl)
  have g_raw_compared := He.glo_ok X G (c.fact 8 (f := .glo "raw_compared") rfl)
  have g_plus := He.glo_ok X G (c.fact 9 (f := .glo "plus") rfl)
  have g_minus := He.glo_ok X G (c.fact 10 (f := .glo "minus") rfl)
  have g_compared := He.glo_ok X G (c.fact 11 (f := .glo "compared") rfl)
  have g_law_spread := He.glo_ok X G (c.fact 12 (f := .glo "_law_spread") rfl)
  have g_law_open := He.glo_ok X G (c.fact 13 (f := .glo "_law_open") rfl)
  have g_law_take := He.glo_ok X G (c.fact 14 (f := .glo "_law_take") rfl)
  have g_law_x_pick := He.glo_ok X G (c.fact 15 (f := .glo "_law_x_pick") rfl)
  have g_law_x_number := He.glo_ok X G (c.fact 16 (f := .glo "_law_x_number") rfl)
  have g_law_x_word := He.glo_ok X G (c.fact 17 (f := .glo "_law_x_word") rfl)
  have g_law32 := He.glo_ok X G (c.fact 18 (f := .glo "law") rfl)
  have g_LaterError := He.glo_ok X G (c.fact 19 (f := .glo "LaterError") rfl)
  have g_NoMachine := He.glo_ok X G (c.fact 20 (f := .glo "NoMachine") rfl)
  have g_NoPlain := He.glo_ok X G (c.fact 21 (f := .glo "NoPlain") rfl)
  have g_NoLetters := He.glo_ok X G (c.fact 22 (f := .glo "NoLetters") rfl)
  have g_NoRule := He.glo_ok X G (c.fact 23 (f := .glo "NoRule") rfl)
  have g_NoRow := He.glo_ok X G (c.fact 24 (f := .glo "NoRow") rfl)
  have g_NoWord := He.glo_ok X G (c.fact 25 (f := .glo "NoWord") rfl)
  have g_NoNumber := He.glo_ok X G (c.fact 26 (f := .glo "NoNumber") rfl)
  have g_NoDivisor := He.glo_ok X G (c.fact 27 (f := .glo "NoDivisor") rfl)
  have g_NoMatch := He.glo_ok X G (c.fact 28 (f := .glo "NoMatch") rfl)
  have g_NoLimit := He.glo_ok X G (c.fact 29 (f := .glo "NoLimit") rfl)
  have g_HasRow := He.glo_ok X G (c.fact 30 (f := .glo "HasRow") rfl)
  have g_TooGreat := He.glo_ok X G (c.fact 31 (f := .glo "TooGreat") rfl)
  have h_isinstance := He.free_ok X G (c.fact 32 (f := .free "isinstance") rfl)
  have h_int := He.free_ok X G (c.fact 33 (f := .free "int") rfl)
  have h_bool := He.free_ok X G (c.fact 34 (f := .free "bool") rfl)
  have h_abs := He.free_ok X G (c.fact 35 (f := .free "abs") rfl)
  have h_tuple := He.free_ok X G (c.fact 36 (f := .free "tuple") rfl)
  have h_len := He.free_ok X G (c.fact 37 (f := .free "len") rfl)
  have h_enumerate := He.free_ok X G (c.fact 38 (f := .free "enumerate") rfl)
  have h_list := He.free_ok X G (c.fact 39 (f := .free "list") rfl)
  have h_ValueError := He.free_ok X G (c.fact 40 (f := .free "ValueError") rfl)
  have h_range := He.free_ok X G (c.fact 41 (f := .free "range") rfl)
  have eg_NoNumber : ErrG K mg "NoNumber" := ⟨g_NoNumber, He.exc_ok (c.fact 42 (f := .exc "NoNumber") rfl)⟩
  have ex_NoNumber : ErrC K mg "NoNumber" := eg_NoNumber.c
  have eg_NoDivisor : ErrG K mg "NoDivisor" := ⟨g_NoDivisor, He.exc_ok (c.fact 43 (f := .exc "NoDivisor") rfl)⟩
  have ex_NoDivisor : ErrC K mg "NoDivisor" := eg_NoDivisor.c
  have gy : ∀ y ∈ cs32, mg y = some (.ref (He.ga K y)) := by
    intro y hy
    simp only [cs32, List.mem_cons, List.not_mem_nil, or_false] at hy
    rcases hy with rfl | rfl | rfl | rfl | rfl | rfl | rfl | rfl | rfl | rfl | rfl | rfl | rfl <;> assumption
  obtain ⟨fd_is_integer, F_is_integer⟩ := c.def_ 0 (d := dd "is_integer" 15) rfl
  obtain ⟨fd_common, F_common⟩ := c.def_ 1 (d := dd "common" 16) rfl
  obtain ⟨fd_reduced, F_reduced⟩ := c.def_ 2 (d := dd "reduced" 17) rfl
  obtain ⟨fd_is_number, F_is_number⟩ := c.def_ 3 (d := dd "is_number" 18) rfl
  obtain ⟨fd_need_number, F_need_number⟩ := c.def_ 4 (d := dd "need_number" 19) rfl
  obtain ⟨fd_number_of, F_number_of⟩ := c.def_ 5 (d := dd "number_of" 20) rfl
  obtain ⟨fd_raw_plus, F_raw_plus⟩ := c.def_ 6 (d := dd "raw_plus" 21) rfl
  obtain ⟨fd_raw_minus, F_raw_minus⟩ := c.def_ 7 (d := dd "raw_minus" 22) rfl
  obtain ⟨fd_raw_compared, F_raw_compared⟩ := c.def_ 8 (d := dd "raw_compared" 23) rfl
  obtain ⟨fd_plus, F_plus⟩ := c.def_ 9 (d := dd "plus" 24) rfl
  obtain ⟨fd_minus, F_minus⟩ := c.def_ 10 (d := dd "minus" 25) rfl
  obtain ⟨fd_compared, F_compared⟩ := c.def_ 11 (d := dd "compared" 26) rfl
  obtain ⟨fd_law_spread, F_law_spread⟩ := c.def_ 12 (d := dd "_law_spread" 28) rfl
  obtain ⟨fd_law_open, F_law_open⟩ := c.def_ 13 (d := dd "_law_open" 29) rfl
  obtain ⟨fd_law_take, F_law_take⟩ := c.def_ 14 (d := dd "_law_take" 30) rfl
  obtain ⟨fd_law_x_pick, F_law_x_pick⟩ := c.def_ 15 (d := dd "_law_x_pick" 31) rfl
  obtain ⟨fd_law_x_number, F_law_x_number⟩ := c.def_ 16 (d := dd "_law_x_number" 32) rfl
  obtain ⟨fd_law_x_word, F_law_x_word⟩ := c.def_ 17 (d := dd "_law_x_word" 33) rfl
  obtain ⟨fd_law32, F_law32⟩ := c.def_ 18 (d := dd "law" 34) rfl
  have e := hfa.symm.trans g_law32
  cases e
  have b := FunD.bindsA (ps := ["script"]) F_law32 fun _ _ _ _ _ _ us hl => match us, hl with | [_], _ => rfl
  refine ⟨fd_law32, fun s v => b s [v] rfl, fun base _ _ TB => ?_⟩
  have G_law_spread : ∀ gb, Good gb P w K mg base "_law_spread" 1 ["cell", "at"] S_law_spread := fun gb => ok_law_spread F_law_spread g_law_spread h_int
  have G_law_take : ∀ gb, Good gb P w K mg base "_law_take" 2 ["pen", "many"] S_law_take := fun gb => ok_law_take F_law_take g_law_take h_int h_len (G_law_spread gb)
  have G_law_x_pick : ∀ gb, Good gb P w K mg base "_law_x_pick" 3 ["pen", "some"] S_law_x_pick := fun gb => ok_law_x_pick F_law_x_pick g_law_x_pick h_len (G_law_take gb)
  have G_law_x_number : ∀ gb, Good gb P w K mg base "_law_x_number" 1 ["n", "d"] S_law_x_number := fun gb => ok_law_x_number F_law_x_number g_law_x_number h_int h_abs
  have G_law_open : ∀ gb, Good gb P w K mg base "_law_open" 1 ["script"] S_law_open := fun gb => ok_law_open F_law_open g_law_open h_enumerate h_int h_list
  have G_common : ∀ gb, Good gb P w K mg base "common" 1 ["one", "other"] S_common := fun gb => ok_common F_common g_common 
  have G_reduced : ∀ gb, Good gb P w K mg base "reduced" 2 ["n", "d"] S_reduced := fun gb => ok_reduced F_reduced g_reduced h_abs (G_common gb)
  have G_is_integer : ∀ gb, Good gb P w K mg base "is_integer" 1 ["thing"] S_is_integer := fun gb => ok_is_integer F_is_integer g_is_integer h_isinstance h_int h_bool
  have G_number_of : ∀ gb, Good gb P w K mg base "number_of" 3 ["n", "d"] S_number_of := fun gb => ok_number_of F_number_of g_number_of ex_NoDivisor ex_NoNumber (G_reduced gb) (G_is_integer gb)
  have G_raw_compared : ∀ gb, Good gb P w K mg base "raw_compared" 1 ["a", "b"] S_raw_compared := fun gb => ok_raw_compared F_raw_compared g_raw_compared 
  have G_is_number : ∀ gb, Good gb P w K mg base "is_number" 2 ["thing"] S_is_number := fun gb => ok_is_number F_is_number g_is_number h_abs h_isinstance h_tuple h_len (G_common gb) (G_is_integer gb)
  have G_need_number : ∀ gb, Good gb P w K mg base "need_number" 3 ["thing"] S_need_number := fun gb => ok_need_number F_need_number g_need_number ex_NoNumber (G_is_number gb)
  have G_compared : ∀ gb, Good gb P w K mg base "compared" 4 ["a", "b"] S_compared := fun gb => ok_compared F_compared g_compared (G_raw_compared gb) (G_need_number gb)
  have G_raw_minus : ∀ gb, Good gb P w K mg base "raw_minus" 3 ["a", "b"] S_raw_minus := fun gb => ok_raw_minus F_raw_minus g_raw_minus (G_reduced gb)
  have G_minus : ∀ gb, Good gb P w K mg base "minus" 4 ["a", "b"] S_minus := fun gb => ok_minus F_minus g_minus (G_raw_minus gb) (G_need_number gb)
  have G_raw_plus : ∀ gb, Good gb P w K mg base "raw_plus" 3 ["a", "b"] S_raw_plus := fun gb => ok_raw_plus F_raw_plus g_raw_plus (G_reduced gb)
  have G_plus : ∀ gb, Good gb P w K mg base "plus" 4 ["a", "b"] S_plus := fun gb => ok_plus F_plus g_plus (G_raw_plus gb) (G_need_number gb)
  exact okF_law32 F_law32 errs gy h_range h_isinstance h_ValueError (G_law_x_pick true) (G_law_take true) (G_law_x_number true) (G_law_open true) TB F_law_x_word g_law_x_word (G_number_of false) (G_compared false) (G_minus false) (G_plus false)
end R32
open PySem PySem.W PySem.Calls PyProof.Rows
theorem PySem.Challenge.cw_laterless_k32_numbers_refused_holds : PySem.Challenge.rw_laterless_k32_numbers_refused.Holds := by
  w_on; o_law
  refine HandSHeadRun.head_any (r := OpenLaw.row PySem.Challenge.rw_laterless_k32_numbers_refused) (q := view (OpenLaw.row PySem.Challenge.rw_laterless_k32_numbers_refused).prog [34]) (H := R32.hk) (ob := R32.ob) (M := 20000) (loose := ["LaterError", "NoMachine", "NoPlain", "NoLetters", "NoRule", "NoRow", "NoWord", "NoNumber", "NoDivisor", "NoMatch", "NoLimit", "HasRow", "TooGreat", "is_integer", "common", "reduced", "is_number", "need_number", "number_of", "raw_plus", "raw_minus", "raw_compared", "plus", "minus", "compared", "_law_spread", "_law_open", "_law_take", "_law_x_pick", "_law_x_number", "_law_x_word"]) (d := HandSHeadRun.topDef (OpenLaw.row PySem.Challenge.rw_laterless_k32_numbers_refused).prog 34) (kwd := []) R32.ob_eq
    (by kernel_rfl) (fun s => by kernel_rfl) R32.run (by kernel_rfl) (by kernel_rfl) (by kernel_rfl) (by rfl) (by first | assumption | decide +kernel) (by decide +kernel) ⟨rfl, rfl, rfl, rfl, rfl, by decide +kernel⟩ ?hw ?hc
  case hw => w_witness2
  case hc =>
    refine LD.law_endT (gb := true) (l := PySem.Challenge.rw_laterless_k32_numbers_refused) (n := 63) (k := 7) (x := "script") rfl (by decide) (by kernel_rfl) (LD.rm_caller (by decide) (by decide)) ?F
    intro w mg fa h Y G hmg0
    obtain ⟨K, KX, c⟩ := Y
    have hmg : mg ("law" : PySem.Str) = some (.ref fa) := by
      have e : (HandSHeadRun.topDef (OpenLaw.row PySem.Challenge.rw_laterless_k32_numbers_refused).prog 34).name = ("law" : PySem.Str) := by kernel_rfl
      rw [← e]
      exact hmg0
    obtain ⟨fd, hb, hF⟩ := R32.facts (P := (PySem.Challenge.rw_laterless_k32_numbers_refused).prog) (w := w) KX G hmg c
    exact ⟨K, fd, LD.S_law32, ("law", none), "law.<locals>.<lambda>", KX, hb, ⟨c.empty _ (List.mem_singleton.mpr rfl), c.out _ (List.mem_singleton.mpr rfl), c.hd _ (List.mem_singleton.mpr rfl)⟩, fun ns hl => ⟨ns, _, rfl, hl, LD.put_same, fun _ => rfl⟩, hF⟩

